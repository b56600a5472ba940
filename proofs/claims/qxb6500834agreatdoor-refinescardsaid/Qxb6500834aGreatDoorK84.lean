import Derived.Test.Qxb6500834aGreatDoorK83
set_option linter.unusedVariables false
set_option linter.unusedSimpArgs false
set_option maxRecDepth 20000
namespace Go.Proofs.Qxb6500834aGreatDoor
open Go.RowKit Go.E1 Go.Kern
theorem ty_call123 : callT Tryz.prog 123 = true := by kernel_rfl
theorem ty_conc96 : concT Tryz.prog 96 = true := by kernel_rfl
theorem ty_fld98_1 : fldOff Tryz.prog 98 1 = some 1 := by kernel_rfl
theorem ty_mk96 : mkT Tryz.prog 96 = some (102, 5, 40) := by kernel_rfl
theorem ty_zero96 : zeroL Tryz.prog 96 = some [.slice none 0 0] := by kernel_rfl
variable {w0 : World} {l X : List HI} {w : World} {s s' s0 : KS} {t r N n : Nat} {qv qv' : Nat → Value}
variable {P : List PQ} {m : MR} {pv tv v : Value} {mb : Nat → Nat} {bm : Nat} {T : List (Nat × Nat × Nat)} {O : Nat → Nat → Option Nat} {held claim : Nat → Nat → Nat}

theorem mr_tick0 : mrOf (tick0 s) = { mrOf s with now := s.now + 1 } := rfl
theorem pE_one {a : PQ} : ∀ k, k < 5 → (pE a k).oneCell' = true := fun k hk => by
  match k with
  | 0 | 1 | 2 | 3 | 4 => rfl
  | k + 5 => omega
theorem kb_ticks : ∀ (F : List (Nat × Nat × Nat)) {s : KS} {N : Nat}, KB N s → KB (N + F.length) (F.foldl tick1 s)
  | [], s, N, h => h
  | f :: F, s, N, h => by
    have := kb_ticks F (KB.tick1 (f := f) h)
    rw [List.length_cons, show N + (F.length + 1) = N + 1 + F.length by omega]
    exact this
set_option maxHeartbeats 8000000 in
theorem tickM_ok (hD : gD w0) (hB : KB N s) (hN : N + N + 100 ≤ 1000000) (hI : INV s) (hct : CT s) (ht : TI s []) (hdu : Due s) (hnow : s.now ≤ 1000000) (hrel : RelP s P) (st : MK w0 bm mb s P l w) :
    Calls Tryz.prog 96 #[.pointer (some ⟨bm, 0, none⟩)] w (Ret fun v w' => v = .tuple #[] ∧ ∃ P', RelP (tickP s) P' ∧ MK w0 bm mb (tickP s) P' l w') := by
  obtain ⟨pv, XP, tv, XO, hp, ho, st⟩ := st
  have hplen := hrel.len
  have hnn := hB.nn
  have hfe := fired_eq hB hI hrel ht hdu
  have hInh : Inhabited PQ := ⟨⟨0, 0, 0, 0, 0⟩⟩
  have hf16 : ∀ f, f ∈ firedP s → f.2.2 < 16 := fun f hf => hB.tt f (firedP_mem hf)
  obtain ⟨a, c, b, hpv, hc1, hc2, ha, hcell⟩ := hp.form
  have hpE : PL0 (.slice a P.length c) P XP := by rw [← hpv]; exact hp
  refine enter [.pointer (some ⟨bm, 0, none⟩)] Tryz.func96 rfl Tryz.ntmps96 rfl ?_
  show WC _ _ _ 80 [] [(0, .pointer (some ⟨bm, 0, none⟩))] _
  refine WC.seq fun K3215 hK3215 => ?_
  refine WC.seq fun K3216 hK3216 => ?_
  -- region 0
  refine WC.region ?_
  -- R0.0 8 := model.go:329 move
  refine WL.v (by first | exact r_move (v := .pointer _) rfl | exact r_move rfl) rfl rfl rfl ?_
  -- R0.1 9 := model.go:329 nilCheck
  refine WL.v (by exact r_nilCheck rfl) rfl rfl rfl ?_
  -- R0.2 10 := model.go:329 fieldAddr
  refine WL.v (by exact r_field ty_fld98_1 rfl) rfl rfl rfl ?_
  -- R0.3 11 := model.go:329 load
  refine WL.v (by exact r_load1 (v := .int .u64 (s.now : Nat)) ty_one26 rfl (c_m List.mem_cons_self (by decide) rfl st)) rfl rfl rfl ?_
  -- R0.4 12 := model.go:329 binOp
  refine WL.v (by exact r_neq rfl rfl (decide_eq_true (by omega))) rfl rfl rfl ?_
  refine WL.fin hK3216 (fun _ _ h => h) ?_
  refine WC.condT rfl rfl ?_
  -- region 1
  refine WC.region ?_
  -- R1.0 13 := model.go:330 move
  refine WL.v (by first | exact r_move (v := .pointer _) rfl | exact r_move rfl) rfl rfl rfl ?_
  -- R1.1 14 := model.go:330 nilCheck
  refine WL.v (by exact r_nilCheck rfl) rfl rfl rfl ?_
  -- R1.2 15 := model.go:330 fieldAddr
  refine WL.v (by exact r_field ty_fld98_1 rfl) rfl rfl rfl ?_
  -- R1.3 16 := model.go:330 load
  refine WL.v (by exact r_load1 (v := .int .u64 (s.now : Nat)) ty_one26 rfl (c_m List.mem_cons_self (by decide) rfl st)) rfl rfl rfl ?_
  -- R1.4 17 := model.go:330 binOp
  refine WL.v (by exact r_add (r := ((s.now + 1 : Nat) : Int)) rfl rfl ((wu64 (by omega) (by omega)).trans (by omega))) rfl rfl rfl ?_
  -- R1.5 18 := model.go:330 nilCheck
  refine WL.v (by exact r_nilCheck rfl) rfl rfl rfl ?_
  -- R1.6 19 := model.go:330 fieldAddr
  refine WL.v (by exact r_field ty_fld98_1 rfl) rfl rfl rfl ?_
  -- R1.7 None := model.go:330 store
  refine WL.store (v := .int .u64 ((s.now + 1 : Nat) : Int)) st ty_one26 rfl rfl rfl (by decide) rfl rfl ?_
  intro w st
  have st : S0 w0 (moI bm (mrOf (tick0 s)) pv tv mb :: (XP ++ (XO ++ (mpI mb (odF s) ++ l)))) w := stE mw_now st
  refine WL.fin hK3215 (fun _ _ h => h) ?_
  refine WC.seq fun K3217 hK3217 => ?_
  -- region 2
  refine WC.region ?_
  -- R2.0 2 := model.go:332 alloc
  refine WL.alloc (m := 1) st ty_zero96 rfl rfl rfl ?_
  intro b2 w st
  refine WL.fin hK3217 (fun _ _ h => h) ?_
  refine WC.seq fun K3218 hK3218 => ?_
  refine WC.seq fun K3219 hK3219 => ?_
  -- region 3
  refine WC.region ?_
  -- R3.0 20 := model.go:333 move
  refine WL.v (by first | exact r_move (v := .pointer _) rfl | exact r_move rfl) rfl rfl rfl ?_
  -- R3.1 21 := model.go:333 nilCheck
  refine WL.v (by exact r_nilCheck rfl) rfl rfl rfl ?_
  -- R3.2 22 := model.go:333 fieldAddr
  refine WL.v (by exact r_field ty_fld98_9 rfl) rfl rfl rfl ?_
  -- R3.3 23 := model.go:333 load
  refine WL.v (by exact r_load1 (v := .slice a P.length c) ty_one96 rfl (by rw [← hpv]; exact c_m (List.mem_cons_of_mem _ List.mem_cons_self) (by decide) rfl st)) rfl rfl rfl ?_
  -- R3.4 24 := model.go:333 call
  refine WL.v (by exact r_len ty_usl96 rfl) rfl rfl rfl ?_
  -- R3.5 25 := model.go:333 move
  refine WL.v (by first | exact r_move (v := .int _ _) rfl | exact r_move rfl) rfl rfl rfl ?_
  refine WL.fin hK3219 (fun _ _ h => h) ?_
  refine WC.block ?_
  refine WC.loop (ι := Nat × Value × List HI) (fun y => [(0, .pointer (some ⟨bm, 0, none⟩)), (2, .pointer (some ⟨b2, 0, none⟩)), (23, .slice a P.length c), (24, .int .i64 (P.length : Nat)), (25, .int .i64 (y.1 : Nat))])
    (fun y w' => y.1 ≤ P.length ∧ PL0 y.2.1 (duQ (P.take y.1) (s.now + 1)) y.2.2 ∧ S0 w0 ((b2, Row 96 1 (nth [y.2.1])) :: moI bm (mrOf (tick0 s)) pv tv mb :: (y.2.2 ++ (XP ++ (XO ++ (mpI mb (odF s) ++ l))))) w') (fun y => P.length - y.1) (0, .slice none 0 0, []) ⟨Nat.zero_le _, LO.nil, st⟩ ?_ ?_
  · skip
    repeat (first | exact sub_nil _ | refine sub_cons rfl rfl ?_)
  clear st
  rintro ⟨k, dv, XD⟩ w ⟨hk, hd, st⟩ K1 hK1
  dsimp only at hk hd st ⊢
  have hdl : (duQ (P.take k) (s.now + 1)).length ≤ k := by
    have h1 := List.length_filter_le (fun p => decide (p.d ≠ 0) && decide (p.d ≤ s.now + 1)) (P.take k)
    have h2 : (P.take k).length ≤ k := by rw [List.length_take]; omega
    exact Nat.le_trans h1 h2
  by_cases hkl : k = P.length
  rotate_left
  · have hkl' : k < P.length := by omega
    obtain ⟨p, hip⟩ : ∃ p, P[k]? = some p := ⟨P[k], List.getElem?_eq_getElem hkl'⟩
    have hdu1 := duQ_succ (now := s.now + 1) hip
    obtain rfl := ha (by omega)
    have hXs : XP ⊆ (b2, Row 96 1 (nth [dv])) :: moI bm (mrOf (tick0 s)) pv tv mb :: (XD ++ (XP ++ (XO ++ (mpI mb (odF s) ++ l)))) := fun x hx => List.mem_cons_of_mem _ (List.mem_cons_of_mem _ (List.mem_append_right _ (List.mem_append_left _ hx)))
    by_cases h0 : p.d = 0
    · have e : duQ (P.take (k + 1)) (s.now + 1) = duQ (P.take k) (s.now + 1) := by rw [hdu1, h0]; simp
      refine WC.seq fun K3220 hK3220 => ?_
      -- region 4
      refine WC.region ?_
      -- R4.0 26 := model.go:333 binOp
      refine WL.v (by first | exact r_lss rfl rfl (decide_eq_true (by omega)) | exact r_lss rfl rfl (decide_eq_false (by omega)) | exact r_lss rfl rfl rfl) rfl rfl rfl ?_
      refine WL.fin hK3220 (fun _ _ h => h) ?_
      refine WC.seq fun K3221 hK3221 => ?_
      refine WC.condT rfl rfl ?_
      refine WC.skipF hK3221 (fun _ _ h => h) ?_
      refine WC.seq fun K3222 hK3222 => ?_
      refine WC.block ?_
      refine WC.seq fun K3223 hK3223 => ?_
      -- region 5
      refine WC.region ?_
      -- R5.0 27 := model.go:333 indexAddr
      refine WL.v (by exact r_indexS (j := k) ty_sl96 rfl rfl rfl (by omega)) rfl rfl rfl ?_
      -- R5.1 28 := model.go:333 load
      refine WL.v (by exact r_loadL (vs := [.int .i64 (p.t : Nat), .int .i64 (p.r : Nat), .int .i64 (p.u : Nat), .int .u64 (p.d : Nat), .int .u64 (p.n : Nat)]) ty_agg102 rfl ⟨c_pq (j := 0) (a := none) hcell hXs hip (by decide) st, c_pq (j := 1) (a := none) hcell hXs hip (by decide) st, c_pq (j := 2) (a := none) hcell hXs hip (by decide) st, c_pq (j := 3) (a := none) hcell hXs hip (by decide) st, c_pq (j := 4) (a := none) hcell hXs hip (by decide) st, trivial⟩) rfl rfl rfl ?_
      -- R5.2 4 := model.go:333 alloc
      refine WL.alloc (m := 5) st ty_zero102 rfl rfl rfl ?_
      intro b4 w st
      -- R5.3 None := model.go:333 store
      first | refine WL.storeW (vs := [_, _, _, _, _]) st ty_agg102 rfl rfl rfl rfl rfl rfl ?_ | refine WL.storeL (vs := [_, _, _, _, _]) st ty_agg102 rfl rfl rfl rfl (by first | decide | omega) rfl rfl ?_ | refine WL.storeW (vs := [_, _, _, _, _]) st.front1 ty_agg102 rfl rfl rfl rfl rfl rfl ?_ | refine WL.storeL (vs := [_, _, _, _, _]) st.front1 ty_agg102 rfl rfl rfl rfl (by first | decide | omega) rfl rfl ?_ | refine WL.storeW (vs := [_, _, _, _, _]) st.front2 ty_agg102 rfl rfl rfl rfl rfl rfl ?_ | refine WL.storeL (vs := [_, _, _, _, _]) st.front2 ty_agg102 rfl rfl rfl rfl (by first | decide | omega) rfl rfl ?_ | refine WL.storeW (vs := [_, _, _, _, _]) st.front3 ty_agg102 rfl rfl rfl rfl rfl rfl ?_ | refine WL.storeL (vs := [_, _, _, _, _]) st.front3 ty_agg102 rfl rfl rfl rfl (by first | decide | omega) rfl rfl ?_ | refine WL.storeW (vs := [_, _, _, _, _]) st.front4 ty_agg102 rfl rfl rfl rfl rfl rfl ?_ | refine WL.storeL (vs := [_, _, _, _, _]) st.front4 ty_agg102 rfl rfl rfl rfl (by first | decide | omega) rfl rfl ?_ | refine WL.storeW (vs := [_, _, _, _, _]) st.front5 ty_agg102 rfl rfl rfl rfl rfl rfl ?_ | refine WL.storeL (vs := [_, _, _, _, _]) st.front5 ty_agg102 rfl rfl rfl rfl (by first | decide | omega) rfl rfl ?_ | refine WL.storeW (vs := [_, _, _, _, _]) st.front6 ty_agg102 rfl rfl rfl rfl rfl rfl ?_ | refine WL.storeL (vs := [_, _, _, _, _]) st.front6 ty_agg102 rfl rfl rfl rfl (by first | decide | omega) rfl rfl ?_ | refine WL.storeW (vs := [_, _, _, _, _]) st.front7 ty_agg102 rfl rfl rfl rfl rfl rfl ?_ | refine WL.storeL (vs := [_, _, _, _, _]) st.front7 ty_agg102 rfl rfl rfl rfl (by first | decide | omega) rfl rfl ?_ | refine WL.storeW (vs := [_, _, _, _, _]) st.front8 ty_agg102 rfl rfl rfl rfl rfl rfl ?_ | refine WL.storeL (vs := [_, _, _, _, _]) st.front8 ty_agg102 rfl rfl rfl rfl (by first | decide | omega) rfl rfl ?_
      intro w st
      refine WL.fin hK3223 (fun _ _ h => h) ?_
      refine WC.seq fun K3224 hK3224 => ?_
      -- region 6 (draws)
      refine WC.quietS st ty_mixed (by kernel_rfl) fun Kq hKq => ?_
      -- R6.0 29 := model.go:334 fieldAddr
      refine QL.v (fun w st => by exact r_field ty_fld102_3 rfl) rfl rfl rfl ?_
      -- R6.1 30 := model.go:334 load
      refine QL.v (fun w st => by exact r_load1 (v := .int .u64 (p.d : Nat)) ty_one26 rfl (st.c0 (by decide))) rfl rfl rfl ?_
      -- R6.2 31 := model.go:334 binOp
      refine QL.v (fun w st => by exact r_neq rfl rfl (decide_eq_false (by omega))) rfl rfl rfl ?_
      -- R6.3 32 := model.go:334 move
      refine QL.v (fun w st => by first | exact r_move (v := .bool _) rfl | exact r_move rfl) rfl rfl rfl ?_
      -- R6.4 33 := model.go:334 fieldAddr
      refine QL.no rfl rfl ?_
      -- R6.5 34 := model.go:334 load
      refine QL.no rfl rfl ?_
      -- R6.6 35 := model.go:334 move
      refine QL.no rfl rfl ?_
      -- R6.7 36 := model.go:334 nilCheck
      refine QL.no rfl rfl ?_
      -- R6.8 37 := model.go:334 fieldAddr
      refine QL.no rfl rfl ?_
      -- R6.9 38 := model.go:334 load
      refine QL.no rfl rfl ?_
      -- R6.10 39 := model.go:334 binOp
      refine QL.no rfl rfl ?_
      -- R6.11 40 := model.go:334 pick
      refine QL.v (fun w st => by first | exact r_pickT (v := .bool _) rfl rfl | exact r_pickF (v := .bool _) rfl rfl) rfl rfl rfl ?_
      refine QL.wl hKq fun w st => ?_
      refine WL.fin hK3224 (fun _ _ h => h) ?_
      refine WC.condF rfl rfl ?_
      refine WC.skipF hK3222 (fun _ _ h => h) ?_
      -- region 8
      refine WC.region ?_
      -- R8.0 45 := model.go:333 binOp
      refine WL.v (by first | exact r_add rfl rfl (wi64 (by omega) (by omega)) | exact r_add rfl rfl rfl) rfl rfl rfl ?_
      -- R8.1 25 := model.go:333 move
      refine WL.v (by first | exact r_move (v := .int _ _) rfl | exact r_move rfl) rfl rfl rfl ?_
      refine WL.next hK1 (fun _ _ h => h) (k + 1, dv, XD) ⟨hkl', by rw [e]; exact hd, st.drop⟩ (by show P.length - (k + 1) < P.length - k; omega) (by repeat (first | exact sub_nil _ | refine sub_cons rfl rfl ?_))
    by_cases hle : p.d ≤ s.now + 1
    rotate_left
    · have e : duQ (P.take (k + 1)) (s.now + 1) = duQ (P.take k) (s.now + 1) := by rw [hdu1]; simp [hle]
      refine WC.seq fun K3225 hK3225 => ?_
      -- region 4
      refine WC.region ?_
      -- R4.0 26 := model.go:333 binOp
      refine WL.v (by first | exact r_lss rfl rfl (decide_eq_true (by omega)) | exact r_lss rfl rfl (decide_eq_false (by omega)) | exact r_lss rfl rfl rfl) rfl rfl rfl ?_
      refine WL.fin hK3225 (fun _ _ h => h) ?_
      refine WC.seq fun K3226 hK3226 => ?_
      refine WC.condT rfl rfl ?_
      refine WC.skipF hK3226 (fun _ _ h => h) ?_
      refine WC.seq fun K3227 hK3227 => ?_
      refine WC.block ?_
      refine WC.seq fun K3228 hK3228 => ?_
      -- region 5
      refine WC.region ?_
      -- R5.0 27 := model.go:333 indexAddr
      refine WL.v (by exact r_indexS (j := k) ty_sl96 rfl rfl rfl (by omega)) rfl rfl rfl ?_
      -- R5.1 28 := model.go:333 load
      refine WL.v (by exact r_loadL (vs := [.int .i64 (p.t : Nat), .int .i64 (p.r : Nat), .int .i64 (p.u : Nat), .int .u64 (p.d : Nat), .int .u64 (p.n : Nat)]) ty_agg102 rfl ⟨c_pq (j := 0) (a := none) hcell hXs hip (by decide) st, c_pq (j := 1) (a := none) hcell hXs hip (by decide) st, c_pq (j := 2) (a := none) hcell hXs hip (by decide) st, c_pq (j := 3) (a := none) hcell hXs hip (by decide) st, c_pq (j := 4) (a := none) hcell hXs hip (by decide) st, trivial⟩) rfl rfl rfl ?_
      -- R5.2 4 := model.go:333 alloc
      refine WL.alloc (m := 5) st ty_zero102 rfl rfl rfl ?_
      intro b4 w st
      -- R5.3 None := model.go:333 store
      first | refine WL.storeW (vs := [_, _, _, _, _]) st ty_agg102 rfl rfl rfl rfl rfl rfl ?_ | refine WL.storeL (vs := [_, _, _, _, _]) st ty_agg102 rfl rfl rfl rfl (by first | decide | omega) rfl rfl ?_ | refine WL.storeW (vs := [_, _, _, _, _]) st.front1 ty_agg102 rfl rfl rfl rfl rfl rfl ?_ | refine WL.storeL (vs := [_, _, _, _, _]) st.front1 ty_agg102 rfl rfl rfl rfl (by first | decide | omega) rfl rfl ?_ | refine WL.storeW (vs := [_, _, _, _, _]) st.front2 ty_agg102 rfl rfl rfl rfl rfl rfl ?_ | refine WL.storeL (vs := [_, _, _, _, _]) st.front2 ty_agg102 rfl rfl rfl rfl (by first | decide | omega) rfl rfl ?_ | refine WL.storeW (vs := [_, _, _, _, _]) st.front3 ty_agg102 rfl rfl rfl rfl rfl rfl ?_ | refine WL.storeL (vs := [_, _, _, _, _]) st.front3 ty_agg102 rfl rfl rfl rfl (by first | decide | omega) rfl rfl ?_ | refine WL.storeW (vs := [_, _, _, _, _]) st.front4 ty_agg102 rfl rfl rfl rfl rfl rfl ?_ | refine WL.storeL (vs := [_, _, _, _, _]) st.front4 ty_agg102 rfl rfl rfl rfl (by first | decide | omega) rfl rfl ?_ | refine WL.storeW (vs := [_, _, _, _, _]) st.front5 ty_agg102 rfl rfl rfl rfl rfl rfl ?_ | refine WL.storeL (vs := [_, _, _, _, _]) st.front5 ty_agg102 rfl rfl rfl rfl (by first | decide | omega) rfl rfl ?_ | refine WL.storeW (vs := [_, _, _, _, _]) st.front6 ty_agg102 rfl rfl rfl rfl rfl rfl ?_ | refine WL.storeL (vs := [_, _, _, _, _]) st.front6 ty_agg102 rfl rfl rfl rfl (by first | decide | omega) rfl rfl ?_ | refine WL.storeW (vs := [_, _, _, _, _]) st.front7 ty_agg102 rfl rfl rfl rfl rfl rfl ?_ | refine WL.storeL (vs := [_, _, _, _, _]) st.front7 ty_agg102 rfl rfl rfl rfl (by first | decide | omega) rfl rfl ?_ | refine WL.storeW (vs := [_, _, _, _, _]) st.front8 ty_agg102 rfl rfl rfl rfl rfl rfl ?_ | refine WL.storeL (vs := [_, _, _, _, _]) st.front8 ty_agg102 rfl rfl rfl rfl (by first | decide | omega) rfl rfl ?_
      intro w st
      refine WL.fin hK3228 (fun _ _ h => h) ?_
      refine WC.seq fun K3229 hK3229 => ?_
      -- region 6 (draws)
      refine WC.quietS st ty_mixed (by kernel_rfl) fun Kq hKq => ?_
      -- R6.0 29 := model.go:334 fieldAddr
      refine QL.v (fun w st => by exact r_field ty_fld102_3 rfl) rfl rfl rfl ?_
      -- R6.1 30 := model.go:334 load
      refine QL.v (fun w st => by exact r_load1 (v := .int .u64 (p.d : Nat)) ty_one26 rfl (st.c0 (by decide))) rfl rfl rfl ?_
      -- R6.2 31 := model.go:334 binOp
      refine QL.v (fun w st => by exact r_neq rfl rfl (decide_eq_true (by omega))) rfl rfl rfl ?_
      -- R6.3 32 := model.go:334 move
      refine QL.v (fun w st => by first | exact r_move (v := .bool _) rfl | exact r_move rfl) rfl rfl rfl ?_
      -- R6.4 33 := model.go:334 fieldAddr
      refine QL.v (fun w st => by exact r_field ty_fld102_3 rfl) rfl rfl rfl ?_
      -- R6.5 34 := model.go:334 load
      refine QL.v (fun w st => by exact r_load1 (v := .int .u64 (p.d : Nat)) ty_one26 rfl (st.c0 (by decide))) rfl rfl rfl ?_
      -- R6.6 35 := model.go:334 move
      refine QL.v (fun w st => by first | exact r_move (v := .pointer _) rfl | exact r_move rfl) rfl rfl rfl ?_
      -- R6.7 36 := model.go:334 nilCheck
      refine QL.v (fun w st => by exact r_nilCheck rfl) rfl rfl rfl ?_
      -- R6.8 37 := model.go:334 fieldAddr
      refine QL.v (fun w st => by exact r_field ty_fld98_1 rfl) rfl rfl rfl ?_
      -- R6.9 38 := model.go:334 load
      refine QL.v (fun w st => by exact r_load1 (v := .int .u64 ((s.now + 1 : Nat) : Int)) ty_one26 rfl (c_m (m := mrOf (tick0 s)) (List.mem_cons_of_mem _ (List.mem_cons_of_mem _ List.mem_cons_self)) (by decide) rfl st)) rfl rfl rfl ?_
      -- R6.10 39 := model.go:334 binOp
      refine QL.v (fun w st => by exact r_leq rfl rfl (decide_eq_false (by omega))) rfl rfl rfl ?_
      -- R6.11 40 := model.go:334 pick
      refine QL.v (fun w st => by first | exact r_pickT (v := .bool _) rfl rfl | exact r_pickF (v := .bool _) rfl rfl) rfl rfl rfl ?_
      refine QL.wl hKq fun w st => ?_
      refine WL.fin hK3229 (fun _ _ h => h) ?_
      refine WC.condF rfl rfl ?_
      refine WC.skipF hK3227 (fun _ _ h => h) ?_
      -- region 8
      refine WC.region ?_
      -- R8.0 45 := model.go:333 binOp
      refine WL.v (by first | exact r_add rfl rfl (wi64 (by omega) (by omega)) | exact r_add rfl rfl rfl) rfl rfl rfl ?_
      -- R8.1 25 := model.go:333 move
      refine WL.v (by first | exact r_move (v := .int _ _) rfl | exact r_move rfl) rfl rfl rfl ?_
      refine WL.next hK1 (fun _ _ h => h) (k + 1, dv, XD) ⟨hkl', by rw [e]; exact hd, st.drop⟩ (by show P.length - (k + 1) < P.length - k; omega) (by repeat (first | exact sub_nil _ | refine sub_cons rfl rfl ?_))
    have e : duQ (P.take (k + 1)) (s.now + 1) = duQ (P.take k) (s.now + 1) ++ [p] := by rw [hdu1]; simp [h0, hle]
    obtain ⟨ad, cd, bd, hdv, hd1, hd2, had, hdcell⟩ := hd.form
    refine WC.seq fun K3230 hK3230 => ?_
    -- region 4
    refine WC.region ?_
    -- R4.0 26 := model.go:333 binOp
    refine WL.v (by first | exact r_lss rfl rfl (decide_eq_true (by omega)) | exact r_lss rfl rfl (decide_eq_false (by omega)) | exact r_lss rfl rfl rfl) rfl rfl rfl ?_
    refine WL.fin hK3230 (fun _ _ h => h) ?_
    refine WC.seq fun K3231 hK3231 => ?_
    refine WC.condT rfl rfl ?_
    refine WC.skipF hK3231 (fun _ _ h => h) ?_
    refine WC.seq fun K3232 hK3232 => ?_
    refine WC.block ?_
    refine WC.seq fun K3233 hK3233 => ?_
    -- region 5
    refine WC.region ?_
    -- R5.0 27 := model.go:333 indexAddr
    refine WL.v (by exact r_indexS (j := k) ty_sl96 rfl rfl rfl (by omega)) rfl rfl rfl ?_
    -- R5.1 28 := model.go:333 load
    refine WL.v (by exact r_loadL (vs := [.int .i64 (p.t : Nat), .int .i64 (p.r : Nat), .int .i64 (p.u : Nat), .int .u64 (p.d : Nat), .int .u64 (p.n : Nat)]) ty_agg102 rfl ⟨c_pq (j := 0) (a := none) hcell hXs hip (by decide) st, c_pq (j := 1) (a := none) hcell hXs hip (by decide) st, c_pq (j := 2) (a := none) hcell hXs hip (by decide) st, c_pq (j := 3) (a := none) hcell hXs hip (by decide) st, c_pq (j := 4) (a := none) hcell hXs hip (by decide) st, trivial⟩) rfl rfl rfl ?_
    -- R5.2 4 := model.go:333 alloc
    refine WL.alloc (m := 5) st ty_zero102 rfl rfl rfl ?_
    intro b4 w st
    -- R5.3 None := model.go:333 store
    first | refine WL.storeW (vs := [_, _, _, _, _]) st ty_agg102 rfl rfl rfl rfl rfl rfl ?_ | refine WL.storeL (vs := [_, _, _, _, _]) st ty_agg102 rfl rfl rfl rfl (by first | decide | omega) rfl rfl ?_ | refine WL.storeW (vs := [_, _, _, _, _]) st.front1 ty_agg102 rfl rfl rfl rfl rfl rfl ?_ | refine WL.storeL (vs := [_, _, _, _, _]) st.front1 ty_agg102 rfl rfl rfl rfl (by first | decide | omega) rfl rfl ?_ | refine WL.storeW (vs := [_, _, _, _, _]) st.front2 ty_agg102 rfl rfl rfl rfl rfl rfl ?_ | refine WL.storeL (vs := [_, _, _, _, _]) st.front2 ty_agg102 rfl rfl rfl rfl (by first | decide | omega) rfl rfl ?_ | refine WL.storeW (vs := [_, _, _, _, _]) st.front3 ty_agg102 rfl rfl rfl rfl rfl rfl ?_ | refine WL.storeL (vs := [_, _, _, _, _]) st.front3 ty_agg102 rfl rfl rfl rfl (by first | decide | omega) rfl rfl ?_ | refine WL.storeW (vs := [_, _, _, _, _]) st.front4 ty_agg102 rfl rfl rfl rfl rfl rfl ?_ | refine WL.storeL (vs := [_, _, _, _, _]) st.front4 ty_agg102 rfl rfl rfl rfl (by first | decide | omega) rfl rfl ?_ | refine WL.storeW (vs := [_, _, _, _, _]) st.front5 ty_agg102 rfl rfl rfl rfl rfl rfl ?_ | refine WL.storeL (vs := [_, _, _, _, _]) st.front5 ty_agg102 rfl rfl rfl rfl (by first | decide | omega) rfl rfl ?_ | refine WL.storeW (vs := [_, _, _, _, _]) st.front6 ty_agg102 rfl rfl rfl rfl rfl rfl ?_ | refine WL.storeL (vs := [_, _, _, _, _]) st.front6 ty_agg102 rfl rfl rfl rfl (by first | decide | omega) rfl rfl ?_ | refine WL.storeW (vs := [_, _, _, _, _]) st.front7 ty_agg102 rfl rfl rfl rfl rfl rfl ?_ | refine WL.storeL (vs := [_, _, _, _, _]) st.front7 ty_agg102 rfl rfl rfl rfl (by first | decide | omega) rfl rfl ?_ | refine WL.storeW (vs := [_, _, _, _, _]) st.front8 ty_agg102 rfl rfl rfl rfl rfl rfl ?_ | refine WL.storeL (vs := [_, _, _, _, _]) st.front8 ty_agg102 rfl rfl rfl rfl (by first | decide | omega) rfl rfl ?_
    intro w st
    refine WL.fin hK3233 (fun _ _ h => h) ?_
    refine WC.seq fun K3234 hK3234 => ?_
    -- region 6 (draws)
    refine WC.quietS st ty_mixed (by kernel_rfl) fun Kq hKq => ?_
    -- R6.0 29 := model.go:334 fieldAddr
    refine QL.v (fun w st => by exact r_field ty_fld102_3 rfl) rfl rfl rfl ?_
    -- R6.1 30 := model.go:334 load
    refine QL.v (fun w st => by exact r_load1 (v := .int .u64 (p.d : Nat)) ty_one26 rfl (st.c0 (by decide))) rfl rfl rfl ?_
    -- R6.2 31 := model.go:334 binOp
    refine QL.v (fun w st => by exact r_neq rfl rfl (decide_eq_true (by omega))) rfl rfl rfl ?_
    -- R6.3 32 := model.go:334 move
    refine QL.v (fun w st => by first | exact r_move (v := .bool _) rfl | exact r_move rfl) rfl rfl rfl ?_
    -- R6.4 33 := model.go:334 fieldAddr
    refine QL.v (fun w st => by exact r_field ty_fld102_3 rfl) rfl rfl rfl ?_
    -- R6.5 34 := model.go:334 load
    refine QL.v (fun w st => by exact r_load1 (v := .int .u64 (p.d : Nat)) ty_one26 rfl (st.c0 (by decide))) rfl rfl rfl ?_
    -- R6.6 35 := model.go:334 move
    refine QL.v (fun w st => by first | exact r_move (v := .pointer _) rfl | exact r_move rfl) rfl rfl rfl ?_
    -- R6.7 36 := model.go:334 nilCheck
    refine QL.v (fun w st => by exact r_nilCheck rfl) rfl rfl rfl ?_
    -- R6.8 37 := model.go:334 fieldAddr
    refine QL.v (fun w st => by exact r_field ty_fld98_1 rfl) rfl rfl rfl ?_
    -- R6.9 38 := model.go:334 load
    refine QL.v (fun w st => by exact r_load1 (v := .int .u64 ((s.now + 1 : Nat) : Int)) ty_one26 rfl (c_m (m := mrOf (tick0 s)) (List.mem_cons_of_mem _ (List.mem_cons_of_mem _ List.mem_cons_self)) (by decide) rfl st)) rfl rfl rfl ?_
    -- R6.10 39 := model.go:334 binOp
    refine QL.v (fun w st => by exact r_leq rfl rfl (decide_eq_true (by omega))) rfl rfl rfl ?_
    -- R6.11 40 := model.go:334 pick
    refine QL.v (fun w st => by first | exact r_pickT (v := .bool _) rfl rfl | exact r_pickF (v := .bool _) rfl rfl) rfl rfl rfl ?_
    refine QL.wl hKq fun w st => ?_
    refine WL.fin hK3234 (fun _ _ h => h) ?_
    refine WC.condT rfl rfl ?_
    -- region 7
    refine WC.region ?_
    -- R7.0 41 := model.go:335 load
    refine WL.v (by exact r_load1 (v := dv) ty_one96 rfl (st.c1 (by decide))) rfl rfl rfl ?_
    -- R7.1 42 := model.go:335 load
    refine WL.v (by exact r_loadL (vs := [.int .i64 (p.t : Nat), .int .i64 (p.r : Nat), .int .i64 (p.u : Nat), .int .u64 (p.d : Nat), .int .u64 (p.n : Nat)]) ty_agg102 rfl ⟨st.c0 (by decide), st.c0 (by decide), st.c0 (by decide), st.c0 (by decide), st.c0 (by decide), trivial⟩) rfl rfl rfl ?_
    -- R7.2 43 := model.go:335 buildSlice
    first | refine WL.mkslice (m := 5) (vs := [.int _ _, .int _ _, .int _ _, .int _ _, .int _ _]) st ty_sl96 ty_zero102 rfl rfl rfl rfl rfl rfl ?_ | refine WL.mkslice (m := 5) (vs := [_, _, _, _, _]) st ty_sl96 ty_zero102 rfl rfl rfl rfl rfl rfl ?_ | refine WL.mkslice st ty_sl96 ty_zero102 rfl rfl rfl rfl rfl rfl ?_
    intro b43 w st
    -- R7.3 44 := model.go:335 call
    have c0 : ∀ j, j < 5 → w.cell? ⟨b43, 0 + j, none⟩ = some (pE p j) := fun j hj => by rw [st.c0 (by omega), Nat.zero_add]; rfl
    have st : S0 w0 (XD ++ ((b43, Row 102 5 (nth [.int .i64 (p.t : Nat), .int .i64 (p.r : Nat), .int .i64 (p.u : Nat), .int .u64 (p.d : Nat), .int .u64 (p.n : Nat)])) :: (b4, Row 102 5 (nth [.int .i64 (p.t : Nat), .int .i64 (p.r : Nat), .int .i64 (p.u : Nat), .int .u64 (p.d : Nat), .int .u64 (p.n : Nat)])) :: (b2, Row 96 1 (nth [dv])) :: moI bm (mrOf (tick0 s)) pv tv mb :: (XP ++ (XO ++ (mpI mb (odF s) ++ l))))) w := st.perm (by classical exact List.perm_iff_count.2 fun x => by simp only [List.count_append, List.count_cons, List.count_nil, List.append_eq, List.cons_append, List.nil_append, List.append_assoc, Nat.add_zero, Nat.zero_add] <;> ac_rfl)
    refine WL.appL (bx := b43) (ox := 0) (a := p) hd st ty_mk96 ty_zero102 rfl (by decide) rfl rfl c0 pE_one (by omega) (by omega) rfl rfl rfl ?_
    intro v' X' w hd' st
    have st : S0 w0 ((b2, Row 96 1 (nth [dv])) :: moI bm (mrOf (tick0 s)) pv tv mb :: (X' ++ (XP ++ (XO ++ (mpI mb (odF s) ++ l))))) w := (st.perm (by classical exact List.perm_iff_count.2 fun x => by simp only [List.count_append, List.count_cons, List.count_nil, List.append_eq, List.cons_append, List.nil_append, List.append_assoc, Nat.add_zero, Nat.zero_add] <;> ac_rfl) : S0 w0 ((b43, Row 102 5 (nth [.int .i64 (p.t : Nat), .int .i64 (p.r : Nat), .int .i64 (p.u : Nat), .int .u64 (p.d : Nat), .int .u64 (p.n : Nat)])) :: (b4, Row 102 5 (nth [.int .i64 (p.t : Nat), .int .i64 (p.r : Nat), .int .i64 (p.u : Nat), .int .u64 (p.d : Nat), .int .u64 (p.n : Nat)])) :: (b2, Row 96 1 (nth [dv])) :: moI bm (mrOf (tick0 s)) pv tv mb :: (X' ++ (XP ++ (XO ++ (mpI mb (odF s) ++ l))))) w).drop.drop
    -- R7.4 None := model.go:335 store
    obtain ⟨ae, ce, be, rfl, -, -, -, -⟩ := hd'.form
    refine WL.store (v := .slice ae _ ce) st ty_one96 rfl rfl rfl (by decide) rfl rfl ?_
    intro w st
    refine WL.fin hK3232 (fun _ _ h => h) ?_
    -- region 8
    refine WC.region ?_
    -- R8.0 45 := model.go:333 binOp
    refine WL.v (by first | exact r_add rfl rfl (wi64 (by omega) (by omega)) | exact r_add rfl rfl rfl) rfl rfl rfl ?_
    -- R8.1 25 := model.go:333 move
    refine WL.v (by first | exact r_move (v := .int _ _) rfl | exact r_move rfl) rfl rfl rfl ?_
    refine WL.next hK1 (fun _ _ h => h) (k + 1, _, X') ⟨hkl', by rw [e]; exact hd', stE (fun j hj => by rw [show j = 0 by omega]; rfl) st⟩ (by show P.length - (k + 1) < P.length - k; omega) (by repeat (first | exact sub_nil _ | refine sub_cons rfl rfl ?_))
  subst hkl
  rw [List.take_length] at hd hdl
  obtain ⟨S, hS⟩ : ∃ S, S = sortQ (duQ P (s.now + 1)) := ⟨_, rfl⟩
  have hSl : S.length = (duQ P (s.now + 1)).length := by rw [hS]; exact (sortQ_perm _).length_eq
  refine WC.seq fun K3235 hK3235 => ?_
  -- region 4
  refine WC.region ?_
  -- R4.0 26 := model.go:333 binOp
  refine WL.v (by first | exact r_lss rfl rfl (decide_eq_true (by omega)) | exact r_lss rfl rfl (decide_eq_false (by omega)) | exact r_lss rfl rfl rfl) rfl rfl rfl ?_
  refine WL.fin hK3235 (fun _ _ h => h) ?_
  refine WC.seq fun K3236 hK3236 => ?_
  refine WC.condF rfl rfl ?_
  refine WC.exitF hK3218 (fun _ _ h => h) ?_
  refine WC.seq fun K3237 hK3237 => ?_
  -- region 9
  refine WC.region ?_
  -- R9.0 46 := model.go:338 load
  refine WL.v (by exact r_load1 (v := dv) ty_one96 rfl (st.c0 (by decide))) rfl rfl rfl ?_
  -- R9.1 47 := model.go:338 makeInterface
  refine WL.v (by exact r_iface ty_conc96 rfl) rfl rfl rfl ?_
  -- R9.2 48 := model.go:338 makeFunc
  refine WL.v (by exact r_mkfn rfl rfl) rfl rfl rfl ?_
  -- R9.3 49 := model.go:338 call
  have st : S0 w0 (XD ++ ((b2, Row 96 1 (nth [dv])) :: moI bm (mrOf (tick0 s)) pv tv mb :: (XP ++ (XO ++ (mpI mb (odF s) ++ l))))) w := st.perm (by classical exact List.perm_iff_count.2 fun x => by simp only [List.count_append, List.count_cons, List.count_nil, List.append_eq, List.cons_append, List.nil_append, List.append_assoc, Nat.add_zero, Nat.zero_add] <;> ac_rfl)
  refine WL.call (r_call ty_call119 rfl) rfl rfl rfl (sortQ_ok hd (by omega) (duQ_uniq hrel ht) st) ?_
  rintro _ w ⟨rfl, X', hd', st⟩
  rw [← hS] at hd'
  have st : S0 w0 ((b2, Row 96 1 (nth [dv])) :: moI bm (mrOf (tick0 s)) pv tv mb :: (X' ++ (XP ++ (XO ++ (mpI mb (odF s) ++ l))))) w := st.perm (by classical exact List.perm_iff_count.2 fun x => by simp only [List.count_append, List.count_cons, List.count_nil, List.append_eq, List.cons_append, List.nil_append, List.append_assoc, Nat.add_zero, Nat.zero_add] <;> ac_rfl)
  obtain ⟨ad, cd, bd, hdv, hd1, hd2, had, hdcell⟩ := hd'.form
  refine WL.fin hK3237 (fun _ _ h => h) ?_
  refine WC.seq fun K3238 hK3238 => ?_
  -- region 10
  refine WC.region ?_
  -- R10.0 50 := model.go:344 load
  refine WL.v (by exact r_load1 (v := .slice ad S.length cd) ty_one96 rfl (by rw [← hdv]; exact st.c0 (by decide))) rfl rfl rfl ?_
  -- R10.1 51 := model.go:344 call
  refine WL.v (by exact r_len ty_usl96 rfl) rfl rfl rfl ?_
  -- R10.2 52 := model.go:344 move
  refine WL.v (by first | exact r_move (v := .int _ _) rfl | exact r_move rfl) rfl rfl rfl ?_
  refine WL.fin hK3238 (fun _ _ h => h) ?_
  refine WC.block ?_
  rw [← hS] at hfe
  refine WC.loop (ι := Nat × List PQ) (fun y => [(0, .pointer (some ⟨bm, 0, none⟩)), (50, .slice ad S.length cd), (51, .int .i64 (S.length : Nat)), (52, .int .i64 (y.1 : Nat))])
    (fun y w' => y.1 ≤ S.length ∧ RelP (((firedP s).take y.1).foldl tick1 (tick0 s)) y.2 ∧ MK w0 bm mb (((firedP s).take y.1).foldl tick1 (tick0 s)) y.2 ((b2, Row 96 1 (nth [dv])) :: (X' ++ l)) w') (fun y => S.length - y.1) (0, P) ⟨Nat.zero_le _, hrel.same rfl fun _ => ⟨rfl, rfl⟩, pv, XP, tv, XO, hp, ho, st.perm (by classical exact List.perm_iff_count.2 fun x => by simp only [List.count_append, List.count_cons, List.count_nil, List.append_eq, List.cons_append, List.nil_append, List.append_assoc, Nat.add_zero, Nat.zero_add] <;> ac_rfl)⟩ ?_ ?_
  · skip
    repeat (first | exact sub_nil _ | refine sub_cons rfl rfl ?_)
  clear st
  rintro ⟨k, P2⟩ w ⟨hk, hrel2, st⟩ K2 hK2
  dsimp only at hk hrel2 st ⊢
  have hlen : (firedP s).length = S.length := by rw [← hfe, List.length_map]
  by_cases hke : k = S.length
  · have e : ((firedP s).take k).foldl tick1 (tick0 s) = tickP s := by rw [hke, ← hlen, List.take_length]; rfl
    rw [e] at hrel2 st
    refine WC.seq fun K3239 hK3239 => ?_
    -- region 11
    refine WC.region ?_
    -- R11.0 53 := model.go:344 binOp
    refine WL.v (by first | exact r_lss rfl rfl (decide_eq_true (by omega)) | exact r_lss rfl rfl (decide_eq_false (by omega)) | exact r_lss rfl rfl rfl) rfl rfl rfl ?_
    refine WL.fin hK3239 (fun _ _ h => h) ?_
    refine WC.seq fun K3240 hK3240 => ?_
    refine WC.condF rfl rfl ?_
    refine WC.exit0 Tryz.results96 (fun _ _ h => h) ?_
    obtain ⟨pv4, XP4, tv4, XO4, hp4, ho4, st⟩ := st.drop
    exact ⟨_, rfl, rfl, P2, hrel2, pv4, XP4, tv4, XO4, hp4, ho4, st_dropL (st.perm (by classical exact List.perm_iff_count.2 fun x => by simp only [List.count_append, List.count_cons, List.count_nil, List.append_eq, List.cons_append, List.nil_append, List.append_assoc, Nat.add_zero, Nat.zero_add] <;> ac_rfl) : S0 w0 (X' ++ (moI bm (mrOf (tickP s)) pv4 tv4 mb :: (XP4 ++ (XO4 ++ (mpI mb (odF (tickP s)) ++ l))))) _)⟩
  have hke' : k < S.length := by omega
  obtain ⟨p, hip⟩ : ∃ p, S[k]? = some p := ⟨S[k], List.getElem?_eq_getElem hke'⟩
  have hfk : (firedP s)[k]? = some (toT p) := by rw [← hfe, List.getElem?_map, hip]; rfl
  obtain ⟨s2, hs2⟩ : ∃ s2, s2 = ((firedP s).take k).foldl tick1 (tick0 s) := ⟨_, rfl⟩
  have hnext : ((firedP s).take (k + 1)).foldl tick1 (tick0 s) = tick1 s2 (toT p) := by rw [hs2, List.take_add_one, hfk, List.foldl_append]; rfl
  rw [← hs2] at hrel2 st
  have hc2 : Core (firedP s) (tick0 s) s2 := by rw [hs2]; exact Core.ticks _ fun f hf => ⟨List.mem_of_mem_take hf, hf16 f (List.mem_of_mem_take hf)⟩
  have hI2 := hc2.inv (tick0_INV hI)
  have hB2 : KB (N + k) s2 := by
    have := kb_ticks ((firedP s).take k) hB.tick0
    rw [List.length_take, show min k (firedP s).length = k by omega] at this
    rw [hs2]; exact this
  have hct2 : CT s2 := fun a b hb => by rw [hc2.sm.claim]; exact hct a b hb
  have hpP : p ∈ P := by
    have h1 : p ∈ sortQ (duQ P (s.now + 1)) := by rw [← hS]; exact List.mem_of_getElem? hip
    exact (List.mem_filter.1 ((sortQ_perm _).mem_iff.1 h1)).1
  have hp16 : p.t < 16 := (hrel.l p hpP).1
  have hpn : p.n = (s.tk p.t).timer := (hrel.d p hpP).2
  have hnn2 := hB2.nn
  have hplen2 := hrel2.len
  obtain ⟨pv2, XP2, tv2, XO2, hp2, ho2, st⟩ := st
  obtain rfl := had (by omega)
  have hXs : X' ⊆ moI bm (mrOf s2) pv2 tv2 mb :: (XP2 ++ (XO2 ++ (mpI mb (odF s2) ++ ((b2, Row 96 1 (nth [dv])) :: (X' ++ l))))) := fun x hx => by simp only [List.mem_cons, List.mem_append]; exact .inr (.inr (.inr (.inr (.inr (.inl hx)))))
  have hXs2 : ∀ y : HI, XP2 ⊆ y :: moI bm (mrOf s2) pv2 tv2 mb :: (XP2 ++ (XO2 ++ (mpI mb (odF s2) ++ ((b2, Row 96 1 (nth [dv])) :: (X' ++ l))))) := fun y x hx => by simp only [List.mem_cons, List.mem_append]; exact .inr (.inr (.inl hx))
  rcases hw : (s2.tk p.t).waiting with _ | _
  · have hfree := hrel2.free hI2 hw
    have e1 : tick1 s2 (toT p) = s2 := by
      unfold tick1
      rw [if_neg]
      intro k
      have : (s2.tk p.t).waiting = true := k.1
      rw [hw] at this; cases this
    rw [e1] at hnext
    refine WC.seq fun K3241 hK3241 => ?_
    -- region 11
    refine WC.region ?_
    -- R11.0 53 := model.go:344 binOp
    refine WL.v (by first | exact r_lss rfl rfl (decide_eq_true (by omega)) | exact r_lss rfl rfl (decide_eq_false (by omega)) | exact r_lss rfl rfl rfl) rfl rfl rfl ?_
    refine WL.fin hK3241 (fun _ _ h => h) ?_
    refine WC.seq fun K3242 hK3242 => ?_
    refine WC.condT rfl rfl ?_
    refine WC.skipF hK3242 (fun _ _ h => h) ?_
    refine WC.seq fun K3243 hK3243 => ?_
    refine WC.block ?_
    refine WC.seq fun K3244 hK3244 => ?_
    -- region 12
    refine WC.region ?_
    -- R12.0 54 := model.go:344 indexAddr
    refine WL.v (by exact r_indexS (j := k) ty_sl96 rfl rfl rfl (by omega)) rfl rfl rfl ?_
    -- R12.1 55 := model.go:344 load
    refine WL.v (by exact r_loadL (vs := [.int .i64 (p.t : Nat), .int .i64 (p.r : Nat), .int .i64 (p.u : Nat), .int .u64 (p.d : Nat), .int .u64 (p.n : Nat)]) ty_agg102 rfl ⟨c_pq (j := 0) (a := none) hdcell hXs hip (by decide) st, c_pq (j := 1) (a := none) hdcell hXs hip (by decide) st, c_pq (j := 2) (a := none) hdcell hXs hip (by decide) st, c_pq (j := 3) (a := none) hdcell hXs hip (by decide) st, c_pq (j := 4) (a := none) hdcell hXs hip (by decide) st, trivial⟩) rfl rfl rfl ?_
    -- R12.2 6 := model.go:344 alloc
    refine WL.alloc (m := 5) st ty_zero102 rfl rfl rfl ?_
    intro b6 w st
    -- R12.3 None := model.go:344 store
    first | refine WL.storeW (vs := [_, _, _, _, _]) st ty_agg102 rfl rfl rfl rfl rfl rfl ?_ | refine WL.storeL (vs := [_, _, _, _, _]) st ty_agg102 rfl rfl rfl rfl (by first | decide | omega) rfl rfl ?_ | refine WL.storeW (vs := [_, _, _, _, _]) st.front1 ty_agg102 rfl rfl rfl rfl rfl rfl ?_ | refine WL.storeL (vs := [_, _, _, _, _]) st.front1 ty_agg102 rfl rfl rfl rfl (by first | decide | omega) rfl rfl ?_ | refine WL.storeW (vs := [_, _, _, _, _]) st.front2 ty_agg102 rfl rfl rfl rfl rfl rfl ?_ | refine WL.storeL (vs := [_, _, _, _, _]) st.front2 ty_agg102 rfl rfl rfl rfl (by first | decide | omega) rfl rfl ?_ | refine WL.storeW (vs := [_, _, _, _, _]) st.front3 ty_agg102 rfl rfl rfl rfl rfl rfl ?_ | refine WL.storeL (vs := [_, _, _, _, _]) st.front3 ty_agg102 rfl rfl rfl rfl (by first | decide | omega) rfl rfl ?_ | refine WL.storeW (vs := [_, _, _, _, _]) st.front4 ty_agg102 rfl rfl rfl rfl rfl rfl ?_ | refine WL.storeL (vs := [_, _, _, _, _]) st.front4 ty_agg102 rfl rfl rfl rfl (by first | decide | omega) rfl rfl ?_ | refine WL.storeW (vs := [_, _, _, _, _]) st.front5 ty_agg102 rfl rfl rfl rfl rfl rfl ?_ | refine WL.storeL (vs := [_, _, _, _, _]) st.front5 ty_agg102 rfl rfl rfl rfl (by first | decide | omega) rfl rfl ?_ | refine WL.storeW (vs := [_, _, _, _, _]) st.front6 ty_agg102 rfl rfl rfl rfl rfl rfl ?_ | refine WL.storeL (vs := [_, _, _, _, _]) st.front6 ty_agg102 rfl rfl rfl rfl (by first | decide | omega) rfl rfl ?_ | refine WL.storeW (vs := [_, _, _, _, _]) st.front7 ty_agg102 rfl rfl rfl rfl rfl rfl ?_ | refine WL.storeL (vs := [_, _, _, _, _]) st.front7 ty_agg102 rfl rfl rfl rfl (by first | decide | omega) rfl rfl ?_ | refine WL.storeW (vs := [_, _, _, _, _]) st.front8 ty_agg102 rfl rfl rfl rfl rfl rfl ?_ | refine WL.storeL (vs := [_, _, _, _, _]) st.front8 ty_agg102 rfl rfl rfl rfl (by first | decide | omega) rfl rfl ?_
    intro w st
    refine WL.fin hK3244 (fun _ _ h => h) ?_
    refine WC.seq fun K3245 hK3245 => ?_
    -- region 13
    refine WC.region ?_
    -- R13.0 56 := model.go:345 move
    refine WL.v (by first | exact r_move (v := .pointer _) rfl | exact r_move rfl) rfl rfl rfl ?_
    -- R13.1 57 := model.go:345 fieldAddr
    refine WL.v (by exact r_field ty_fld102_0 rfl) rfl rfl rfl ?_
    -- R13.2 58 := model.go:345 load
    refine WL.v (by exact r_load1 (v := .int .i64 (p.t : Nat)) ty_one31 rfl (st.c0 (by decide))) rfl rfl rfl ?_
    -- R13.3 59 := model.go:345 call
    refine WL.call (r_call ty_call98 rfl) rfl rfl rfl (pl_none (t := p.t) hfree (List.mem_cons_of_mem _ List.mem_cons_self) hp2 (hXs2 _) st) ?_
    rintro _ w ⟨rfl, st⟩
    -- R13.4 7 := model.go:345 assign
    refine WL.v (by first | exact r_assign (v := .int _ _) rfl | exact r_assign rfl) rfl rfl rfl ?_
    refine WL.fin hK3245 (fun _ _ h => h) ?_
    refine WC.seq fun K3246 hK3246 => ?_
    refine WC.seq fun K3247 hK3247 => ?_
    -- region 14
    refine WC.region ?_
    -- R14.0 60 := model.go:346 move
    refine WL.v (by first | exact r_move (v := .int _ _) rfl | exact r_move rfl) rfl rfl rfl ?_
    -- R14.1 61 := model.go:346 binOp
    refine WL.v (by first | exact r_lss rfl rfl (decide_eq_true (by omega)) | exact r_lss rfl rfl (decide_eq_false (by omega)) | exact r_lss rfl rfl rfl) rfl rfl rfl ?_
    refine WL.fin hK3247 (fun _ _ h => h) ?_
    refine WC.condT rfl rfl ?_
    refine WC.exitF hK3243 (fun _ _ h => h) ?_
    -- region 18
    refine WC.region ?_
    -- R18.0 79 := model.go:344 binOp
    refine WL.v (by first | exact r_add rfl rfl (wi64 (by omega) (by omega)) | exact r_add rfl rfl rfl) rfl rfl rfl ?_
    -- R18.1 52 := model.go:344 move
    refine WL.v (by first | exact r_move (v := .int _ _) rfl | exact r_move rfl) rfl rfl rfl ?_
    refine WL.next hK2 (fun _ _ h => h) (k + 1, P2) ⟨hke', by rw [hnext]; exact hrel2, by rw [hnext]; exact ⟨pv2, XP2, tv2, XO2, hp2, ho2, st.drop⟩⟩ (by show S.length - (k + 1) < S.length - k; omega) (by repeat (first | exact sub_nil _ | refine sub_cons rfl rfl ?_))
  have htm : (s2.tk p.t).timer = p.n := by rw [hc2.keepT p.t hw, hpn]; rfl
  have e1 : tick1 s2 (toT p) = wakeP (answerP { s2 with queue := withdrawP s2.queue p.t } p.t 4) := by
    unfold tick1
    rw [if_pos ⟨hw, htm⟩]; rfl
  rw [e1] at hnext
  have hc3 : Core [toT p] s2 (answerP { s2 with queue := withdrawP s2.queue p.t } p.t 4) := .timeout (.refl s2) (toT p) (by simp) hp16 hw htm
  have hI3 := hc3.inv hI2
  have hB3 : KB (N + k + 1) (answerP { s2 with queue := withdrawP s2.queue p.t } p.t 4) := (hB2.withdraw (t := p.t)).answer
  have hrel3 : RelP (answerP { s2 with queue := withdrawP s2.queue p.t } p.t 4) (noT P2 p.t) := hrel2.del (t := p.t) (fun r hr => rfl) fun a ha => ans_other ha
  obtain ⟨i, q, hiq, hqt⟩ := hrel2.busy hI2 hp16 hw
  have hil : i < P2.length := (List.getElem?_eq_some_iff.1 hiq).1
  have heq := erase_noT hrel2.u hiq
  rw [hqt] at heq
  obtain ⟨a2, c2, b2', hpv2, -, -, -, -⟩ := hp2.form
  refine WC.seq fun K3248 hK3248 => ?_
  -- region 11
  refine WC.region ?_
  -- R11.0 53 := model.go:344 binOp
  refine WL.v (by first | exact r_lss rfl rfl (decide_eq_true (by omega)) | exact r_lss rfl rfl (decide_eq_false (by omega)) | exact r_lss rfl rfl rfl) rfl rfl rfl ?_
  refine WL.fin hK3248 (fun _ _ h => h) ?_
  refine WC.seq fun K3249 hK3249 => ?_
  refine WC.condT rfl rfl ?_
  refine WC.skipF hK3249 (fun _ _ h => h) ?_
  refine WC.seq fun K3250 hK3250 => ?_
  refine WC.block ?_
  refine WC.seq fun K3251 hK3251 => ?_
  -- region 12
  refine WC.region ?_
  -- R12.0 54 := model.go:344 indexAddr
  refine WL.v (by exact r_indexS (j := k) ty_sl96 rfl rfl rfl (by omega)) rfl rfl rfl ?_
  -- R12.1 55 := model.go:344 load
  refine WL.v (by exact r_loadL (vs := [.int .i64 (p.t : Nat), .int .i64 (p.r : Nat), .int .i64 (p.u : Nat), .int .u64 (p.d : Nat), .int .u64 (p.n : Nat)]) ty_agg102 rfl ⟨c_pq (j := 0) (a := none) hdcell hXs hip (by decide) st, c_pq (j := 1) (a := none) hdcell hXs hip (by decide) st, c_pq (j := 2) (a := none) hdcell hXs hip (by decide) st, c_pq (j := 3) (a := none) hdcell hXs hip (by decide) st, c_pq (j := 4) (a := none) hdcell hXs hip (by decide) st, trivial⟩) rfl rfl rfl ?_
  -- R12.2 6 := model.go:344 alloc
  refine WL.alloc (m := 5) st ty_zero102 rfl rfl rfl ?_
  intro b6 w st
  -- R12.3 None := model.go:344 store
  first | refine WL.storeW (vs := [_, _, _, _, _]) st ty_agg102 rfl rfl rfl rfl rfl rfl ?_ | refine WL.storeL (vs := [_, _, _, _, _]) st ty_agg102 rfl rfl rfl rfl (by first | decide | omega) rfl rfl ?_ | refine WL.storeW (vs := [_, _, _, _, _]) st.front1 ty_agg102 rfl rfl rfl rfl rfl rfl ?_ | refine WL.storeL (vs := [_, _, _, _, _]) st.front1 ty_agg102 rfl rfl rfl rfl (by first | decide | omega) rfl rfl ?_ | refine WL.storeW (vs := [_, _, _, _, _]) st.front2 ty_agg102 rfl rfl rfl rfl rfl rfl ?_ | refine WL.storeL (vs := [_, _, _, _, _]) st.front2 ty_agg102 rfl rfl rfl rfl (by first | decide | omega) rfl rfl ?_ | refine WL.storeW (vs := [_, _, _, _, _]) st.front3 ty_agg102 rfl rfl rfl rfl rfl rfl ?_ | refine WL.storeL (vs := [_, _, _, _, _]) st.front3 ty_agg102 rfl rfl rfl rfl (by first | decide | omega) rfl rfl ?_ | refine WL.storeW (vs := [_, _, _, _, _]) st.front4 ty_agg102 rfl rfl rfl rfl rfl rfl ?_ | refine WL.storeL (vs := [_, _, _, _, _]) st.front4 ty_agg102 rfl rfl rfl rfl (by first | decide | omega) rfl rfl ?_ | refine WL.storeW (vs := [_, _, _, _, _]) st.front5 ty_agg102 rfl rfl rfl rfl rfl rfl ?_ | refine WL.storeL (vs := [_, _, _, _, _]) st.front5 ty_agg102 rfl rfl rfl rfl (by first | decide | omega) rfl rfl ?_ | refine WL.storeW (vs := [_, _, _, _, _]) st.front6 ty_agg102 rfl rfl rfl rfl rfl rfl ?_ | refine WL.storeL (vs := [_, _, _, _, _]) st.front6 ty_agg102 rfl rfl rfl rfl (by first | decide | omega) rfl rfl ?_ | refine WL.storeW (vs := [_, _, _, _, _]) st.front7 ty_agg102 rfl rfl rfl rfl rfl rfl ?_ | refine WL.storeL (vs := [_, _, _, _, _]) st.front7 ty_agg102 rfl rfl rfl rfl (by first | decide | omega) rfl rfl ?_ | refine WL.storeW (vs := [_, _, _, _, _]) st.front8 ty_agg102 rfl rfl rfl rfl rfl rfl ?_ | refine WL.storeL (vs := [_, _, _, _, _]) st.front8 ty_agg102 rfl rfl rfl rfl (by first | decide | omega) rfl rfl ?_
  intro w st
  refine WL.fin hK3251 (fun _ _ h => h) ?_
  refine WC.seq fun K3252 hK3252 => ?_
  -- region 13
  refine WC.region ?_
  -- R13.0 56 := model.go:345 move
  refine WL.v (by first | exact r_move (v := .pointer _) rfl | exact r_move rfl) rfl rfl rfl ?_
  -- R13.1 57 := model.go:345 fieldAddr
  refine WL.v (by exact r_field ty_fld102_0 rfl) rfl rfl rfl ?_
  -- R13.2 58 := model.go:345 load
  refine WL.v (by exact r_load1 (v := .int .i64 (p.t : Nat)) ty_one31 rfl (st.c0 (by decide))) rfl rfl rfl ?_
  -- R13.3 59 := model.go:345 call
  refine WL.call (r_call ty_call98 rfl) rfl rfl rfl (pl_some hrel2.u hiq hqt (List.mem_cons_of_mem _ List.mem_cons_self) hp2 (hXs2 _) st) ?_
  rintro _ w ⟨rfl, st⟩
  -- R13.4 7 := model.go:345 assign
  refine WL.v (by first | exact r_assign (v := .int _ _) rfl | exact r_assign rfl) rfl rfl rfl ?_
  refine WL.fin hK3252 (fun _ _ h => h) ?_
  refine WC.seq fun K3253 hK3253 => ?_
  refine WC.seq fun K3254 hK3254 => ?_
  -- region 14
  refine WC.region ?_
  -- R14.0 60 := model.go:346 move
  refine WL.v (by first | exact r_move (v := .int _ _) rfl | exact r_move rfl) rfl rfl rfl ?_
  -- R14.1 61 := model.go:346 binOp
  refine WL.v (by exact r_lss rfl rfl (decide_eq_false (by omega))) rfl rfl rfl ?_
  refine WL.fin hK3254 (fun _ _ h => h) ?_
  refine WC.condF rfl rfl ?_
  refine WC.skipF hK3253 (fun _ _ h => h) ?_
  refine WC.seq fun K3255 hK3255 => ?_
  -- region 15
  refine WC.region ?_
  -- R15.0 62 := model.go:349 move
  refine WL.v (by first | exact r_move (v := .pointer _) rfl | exact r_move rfl) rfl rfl rfl ?_
  -- R15.1 63 := model.go:349 move
  refine WL.v (by first | exact r_move (v := .pointer _) rfl | exact r_move rfl) rfl rfl rfl ?_
  -- R15.2 64 := model.go:349 nilCheck
  refine WL.v (by exact r_nilCheck rfl) rfl rfl rfl ?_
  -- R15.3 65 := model.go:349 fieldAddr
  refine WL.v (by exact r_field ty_fld98_9 rfl) rfl rfl rfl ?_
  -- R15.4 66 := model.go:349 load
  refine WL.v (by exact r_load1 (v := .slice a2 P2.length c2) ty_one96 rfl (by rw [← hpv2]; exact st.c1 (by decide))) rfl rfl rfl ?_
  -- R15.5 67 := model.go:349 move
  refine WL.v (by first | exact r_move (v := .int _ _) rfl | exact r_move rfl) rfl rfl rfl ?_
  -- R15.6 68 := model.go:349 move
  refine WL.v (by first | exact r_move (v := .int _ _) rfl | exact r_move rfl) rfl rfl rfl ?_
  -- R15.7 69 := model.go:349 binOp
  refine WL.v (by exact r_add (r := ((i + 1 : Nat) : Int)) rfl rfl ((wi64 (by omega) (by omega)).trans (by omega))) rfl rfl rfl ?_
  -- R15.8 70 := model.go:349 call
  have st : S0 w0 (XP2 ++ ((b6, Row 102 5 (nth [.int .i64 (p.t : Nat), .int .i64 (p.r : Nat), .int .i64 (p.u : Nat), .int .u64 (p.d : Nat), .int .u64 (p.n : Nat)])) :: moI bm (mrOf s2) pv2 tv2 mb :: (XO2 ++ (mpI mb (odF s2) ++ ((b2, Row 96 1 (nth [dv])) :: (X' ++ l)))))) w := st.perm (by classical exact List.perm_iff_count.2 fun x => by simp only [List.count_append, List.count_cons, List.count_nil, List.append_eq, List.cons_append, List.nil_append, List.append_assoc, Nat.add_zero, Nat.zero_add] <;> ac_rfl)
  refine WL.call (r_call ty_call121 rfl) rfl rfl rfl (delP_ok (v := .slice a2 P2.length c2) (P := P2) (i := i) (by rw [← hpv2]; exact hp2) hil (by omega) st) ?_
  rintro _ w ⟨X3, hp3, st⟩
  rw [heq] at hp3
  obtain ⟨a3, c3, b3, rfl, -, -, -, -⟩ := hp3.form
  have st : S0 w0 (moI bm (mrOf s2) pv2 tv2 mb :: (b6, Row 102 5 (nth [.int .i64 (p.t : Nat), .int .i64 (p.r : Nat), .int .i64 (p.u : Nat), .int .u64 (p.d : Nat), .int .u64 (p.n : Nat)])) :: (X3 ++ (XO2 ++ (mpI mb (odF s2) ++ ((b2, Row 96 1 (nth [dv])) :: (X' ++ l)))))) w := st.perm (by classical exact List.perm_iff_count.2 fun x => by simp only [List.count_append, List.count_cons, List.count_nil, List.append_eq, List.cons_append, List.nil_append, List.append_assoc, Nat.add_zero, Nat.zero_add] <;> ac_rfl)
  -- R15.9 71 := model.go:349 nilCheck
  refine WL.v (by exact r_nilCheck rfl) rfl rfl rfl ?_
  -- R15.10 72 := model.go:349 fieldAddr
  refine WL.v (by exact r_field ty_fld98_9 rfl) rfl rfl rfl ?_
  -- R15.11 None := model.go:349 store
  refine WL.store (v := .slice a3 (noT P2 p.t).length c3) st ty_one96 rfl rfl rfl (by decide) rfl rfl ?_
  intro w st
  have st : S0 w0 (moI bm (mrOf s2) (.slice a3 (noT P2 p.t).length c3) tv2 mb :: (b6, Row 102 5 (nth [.int .i64 (p.t : Nat), .int .i64 (p.r : Nat), .int .i64 (p.u : Nat), .int .u64 (p.d : Nat), .int .u64 (p.n : Nat)])) :: (X3 ++ (XO2 ++ (mpI mb (odF s2) ++ ((b2, Row 96 1 (nth [dv])) :: (X' ++ l)))))) w := stE mw_pend st
  refine WL.fin hK3255 (fun _ _ h => h) ?_
  refine WC.seq fun K3256 hK3256 => ?_
  -- region 16
  refine WC.region ?_
  -- R16.0 73 := model.go:350 move
  refine WL.v (by first | exact r_move (v := .pointer _) rfl | exact r_move rfl) rfl rfl rfl ?_
  -- R16.1 74 := model.go:350 fieldAddr
  refine WL.v (by exact r_field ty_fld102_0 rfl) rfl rfl rfl ?_
  -- R16.2 75 := model.go:350 load
  refine WL.v (by exact r_load1 (v := .int .i64 (p.t : Nat)) ty_one31 rfl (st.c1 (by decide))) rfl rfl rfl ?_
  -- R16.3 76 := model.go:350 call
  have mh : MW w0 bm mb (mrOf s2) (odF s2) (noT P2 p.t) s2.told ((b6, Row 102 5 (nth [.int .i64 (p.t : Nat), .int .i64 (p.r : Nat), .int .i64 (p.u : Nat), .int .u64 (p.d : Nat), .int .u64 (p.n : Nat)])) :: (b2, Row 96 1 (nth [dv])) :: (X' ++ l)) w := ⟨.slice a3 (noT P2 p.t).length c3, X3, tv2, XO2, hp3, ho2, st.perm (by classical exact List.perm_iff_count.2 fun x => by simp only [List.count_append, List.count_cons, List.count_nil, List.append_eq, List.cons_append, List.nil_append, List.append_assoc, Nat.add_zero, Nat.zero_add] <;> ac_rfl)⟩
  refine WL.call (r_call ty_call122 rfl) rfl rfl rfl (tell_ok (code := 4) hp16 (by omega) mh) ?_
  rintro _ w ⟨rfl, mh⟩
  have st : MK w0 bm mb (answerP { s2 with queue := withdrawP s2.queue p.t } p.t 4) (noT P2 p.t) ((b2, Row 96 1 (nth [dv])) :: (X' ++ l)) w := by unfold MK; rw [mr_answer, od_answer]; exact mh.drop
  refine WL.fin hK3256 (fun _ _ h => h) ?_
  -- region 17
  refine WC.region ?_
  -- R17.0 77 := model.go:351 move
  refine WL.v (by first | exact r_move (v := .pointer _) rfl | exact r_move rfl) rfl rfl rfl ?_
  -- R17.1 78 := model.go:351 call
  refine WL.call (r_call ty_call123 rfl) rfl rfl rfl (settle_ok hD hB3 (by omega) hI3 hct2 hrel3 st) ?_
  rintro _ w ⟨rfl, P4, hrel4, st⟩
  refine WL.fin hK3250 (fun _ _ h => h) ?_
  -- region 18
  refine WC.region ?_
  -- R18.0 79 := model.go:344 binOp
  refine WL.v (by first | exact r_add rfl rfl (wi64 (by omega) (by omega)) | exact r_add rfl rfl rfl) rfl rfl rfl ?_
  -- R18.1 52 := model.go:344 move
  refine WL.v (by first | exact r_move (v := .int _ _) rfl | exact r_move rfl) rfl rfl rfl ?_
  refine WL.next hK2 (fun _ _ h => h) (k + 1, P4) ⟨hke', by rw [hnext]; exact hrel4, by rw [hnext]; exact st⟩ (by show S.length - (k + 1) < S.length - k; omega) (by repeat (first | exact sub_nil _ | refine sub_cons rfl rfl ?_))
end Go.Proofs.Qxb6500834aGreatDoor

