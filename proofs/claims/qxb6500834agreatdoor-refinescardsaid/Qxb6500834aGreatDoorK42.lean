import Derived.Test.Qxb6500834aGreatDoorK40
import Derived.Test.Qxb6500834aGreatDoorE33
set_option linter.unusedVariables false
set_option linter.unusedSimpArgs false
set_option maxRecDepth 20000
namespace Go.Proofs.Qxb6500834aGreatDoor
open Go.RowKit Go.E1 Go.Kern
theorem ty_agg43 : aggT Tryz.prog 43 = some 96 := by kernel_rfl
theorem ty_call71 : callT Tryz.prog 71 = true := by kernel_rfl
theorem ty_fld50_0 : fldOff Tryz.prog 50 0 = some 0 := by kernel_rfl
theorem ty_fld50_1 : fldOff Tryz.prog 50 1 = some 1 := by kernel_rfl
theorem ty_fld50_2 : fldOff Tryz.prog 50 2 = some 2 := by kernel_rfl
theorem ty_fld50_4 : fldOff Tryz.prog 50 4 = some 99 := by kernel_rfl
theorem ty_fld50_5 : fldOff Tryz.prog 50 5 = some 419 := by kernel_rfl
theorem ty_fld50_7 : fldOff Tryz.prog 50 7 = some 759 := by kernel_rfl
variable {w0 : World} {l X X' : List HI} {w : World} {s s' s0 : KS} {t r N n : Nat} {qv qv' : Nat → Value}

/-! Comparing visible states. -/
theorem eqReq : eqT Tryz.prog 61 = some [false, false] := by kernel_rfl
theorem eqAns : eqT Tryz.prog 83 = some [false, false, false] := by kernel_rfl
def pat6 : List Bool := [true, false, false, true, false, false]
theorem eqTs : eqT Tryz.prog 42 = some pat6 := by kernel_rfl
theorem eqTsA : eqT Tryz.prog 43 = some ((List.replicate 16 pat6).flatten) := by kernel_rfl
theorem eqHA : eqT Tryz.prog 45 = some (List.replicate 320 false) := by kernel_rfl
theorem eqH : eqT Tryz.prog 44 = some (List.replicate 20 false) := by kernel_rfl
theorem eqC : eqT Tryz.prog 48 = some (List.replicate 12 false) := by kernel_rfl
theorem rep_get {n i : Nat} {b : Bool} (hi : i < n) : (List.replicate n b)[i]?.getD false = b := by simp [hi]
theorem KFit.int {κ : IntKind} {p q : Int} : KFit false (.int κ p) (.int κ q) := .inr ⟨rfl, κ, p, q, rfl, rfl⟩
theorem KFit.bool {p q : Bool} : KFit true (.bool p) (.bool q) := .inl ⟨rfl, p, q, rfl, rfl⟩
theorem ts_fit {T T' : TK} : ∀ i, i < 6 → KFit (pat6[i]?.getD false) (tsF T i) (tsF T' i)
  | 0, _ => KFit.bool
  | 1, _ => KFit.int
  | 2, _ => KFit.int
  | 3, _ => KFit.bool
  | 4, _ => KFit.int
  | 5, _ => KFit.int
  | k + 6, h => by omega
def taF (tk : Nat → TK) (i : Nat) : Value := tsF (tk (i / 6)) (i % 6)
theorem patA : ∀ i, i < 96 → ((List.replicate 16 pat6).flatten)[i]?.getD false = pat6[i % 6]?.getD false := by decide
theorem ta_fit {tk tk' : Nat → TK} (i : Nat) (hi : i < 96) : KFit (((List.replicate 16 pat6).flatten)[i]?.getD false) (taF tk i) (taF tk' i) := by
  rw [patA i hi]; exact ts_fit _ (Nat.mod_lt _ (by decide))
theorem reqEq_ok {v v' : Value} {Q : List (Nat × Nat)} (h : QL0 v Q X) (h' : QL0 v' Q X') (hX : X ⊆ l) (hX' : X' ⊆ l) (st : S0 w0 l w) :
    Calls Tryz.prog 71 #[v, v'] w (Ret fun r w' => r = .bool true ∧ S0 w0 l w') := by
  obtain ⟨a, c, b, rfl, hc1, hc2, ha, hcell⟩ := h.form
  obtain ⟨a', c', b', rfl, hc1', hc2', ha', hcell'⟩ := h'.form
  refine enter [.slice a Q.length c, .slice a' Q.length c'] Tryz.func71 rfl Tryz.ntmps71 rfl ?_
  show WC _ _ _ 26 [] [(0, .slice a Q.length c), (1, .slice a' Q.length c')] _
  refine WC.seq fun K1446 hK1446 => ?_
  -- region 0
  refine WC.region ?_
  -- R0.0 4 := slices.go:20 assign
  refine WL.v (by first | exact r_assign (v := .bool _) rfl | exact r_assign rfl) rfl rfl rfl ?_
  refine WL.fin hK1446 (fun _ _ h => h) ?_
  refine WC.seq fun K1447 hK1447 => ?_
  refine WC.seq fun K1448 hK1448 => ?_
  -- region 1
  refine WC.region ?_
  -- R1.0 6 := slices.go:21 move
  refine WL.v (by first | exact r_move (v := .slice _ _ _) rfl | exact r_move rfl) rfl rfl rfl ?_
  -- R1.1 7 := slices.go:21 call
  refine WL.v (by exact r_len ty_usl46 rfl) rfl rfl rfl ?_
  -- R1.2 8 := slices.go:21 move
  refine WL.v (by first | exact r_move (v := .slice _ _ _) rfl | exact r_move rfl) rfl rfl rfl ?_
  -- R1.3 9 := slices.go:21 call
  refine WL.v (by exact r_len ty_usl46 rfl) rfl rfl rfl ?_
  -- R1.4 10 := slices.go:21 binOp
  refine WL.v (by first | exact r_neq rfl rfl (decide_eq_true (by omega)) | exact r_neq rfl rfl (decide_eq_false (by omega)) | exact r_neq rfl rfl rfl) rfl rfl rfl ?_
  refine WL.fin hK1448 (fun _ _ h => h) ?_
  refine WC.condF rfl rfl ?_
  refine WC.skipF hK1447 (fun _ _ h => h) ?_
  refine WC.seq fun K1449 hK1449 => ?_
  refine WC.seq fun K1450 hK1450 => ?_
  -- region 3
  refine WC.region ?_
  -- R3.0 11 := slices.go:24 move
  refine WL.v (by first | exact r_move (v := .slice _ _ _) rfl | exact r_move rfl) rfl rfl rfl ?_
  -- R3.1 12 := slices.go:24 call
  refine WL.v (by exact r_len ty_usl46 rfl) rfl rfl rfl ?_
  -- R3.2 13 := slices.go:24 move
  refine WL.v (by first | exact r_move (v := .int _ _) rfl | exact r_move rfl) rfl rfl rfl ?_
  refine WL.fin hK1450 (fun _ _ h => h) ?_
  refine WC.block ?_
  refine WC.loop (ι := Nat) (fun k => [(0, .slice a Q.length c), (1, .slice a' Q.length c'), (12, .int .i64 (Q.length : Nat)), (13, .int .i64 (k : Nat))])
    (fun k w' => k ≤ Q.length ∧ S0 w0 l w') (fun k => Q.length - k) 0 ⟨Nat.zero_le _, st⟩ ?_ ?_
  · skip
    repeat (first | exact sub_nil _ | refine sub_cons rfl rfl ?_)
  clear st
  rintro k w ⟨hk, st⟩ K1 hK1
  by_cases hkl : k = Q.length
  · skip
    refine WC.seq fun K1451 hK1451 => ?_
    -- region 4
    refine WC.region ?_
    -- R4.0 14 := slices.go:24 binOp
    refine WL.v (by first | exact r_lss rfl rfl (decide_eq_true (by omega)) | exact r_lss rfl rfl (decide_eq_false (by omega)) | exact r_lss rfl rfl rfl) rfl rfl rfl ?_
    refine WL.fin hK1451 (fun _ _ h => h) ?_
    refine WC.seq fun K1452 hK1452 => ?_
    refine WC.condF rfl rfl ?_
    refine WC.exitF hK1449 (fun _ _ h => h) ?_
    refine WC.seq fun K1453 hK1453 => ?_
    -- region 9
    refine WC.region ?_
    -- R9.0 4 := slices.go:29 assign
    refine WL.v (by first | exact r_assign (v := .bool _) rfl | exact r_assign rfl) rfl rfl rfl ?_
    refine WL.fin hK1453 (fun _ _ h => h) ?_
    refine WC.ret1 Tryz.results71 (fun _ _ h => h) rfl ?_
    exact ⟨_, rfl, rfl, st⟩
  have hkl' : k < Q.length := by omega
  obtain ⟨e, he⟩ : ∃ e, Q[k]? = some e := ⟨Q[k], List.getElem?_eq_getElem hkl'⟩
  have hae := ha (by omega)
  have hae' := ha' (by omega)
  have hce := fun {w : World} (st : S0 w0 l w) j hj => hcell st hX k e he j hj
  have hce' := fun {w : World} (st : S0 w0 l w) j hj => hcell' st hX' k e he j hj
  refine WC.seq fun K1454 hK1454 => ?_
  -- region 4
  refine WC.region ?_
  -- R4.0 14 := slices.go:24 binOp
  refine WL.v (by first | exact r_lss rfl rfl (decide_eq_true (by omega)) | exact r_lss rfl rfl (decide_eq_false (by omega)) | exact r_lss rfl rfl rfl) rfl rfl rfl ?_
  refine WL.fin hK1454 (fun _ _ h => h) ?_
  refine WC.seq fun K1455 hK1455 => ?_
  refine WC.condT rfl rfl ?_
  refine WC.skipF hK1455 (fun _ _ h => h) ?_
  refine WC.seq fun K1456 hK1456 => ?_
  refine WC.block ?_
  refine WC.seq fun K1457 hK1457 => ?_
  -- region 5
  refine WC.region ?_
  -- R5.0 15 := slices.go:24 move
  refine WL.v (by first | exact r_move (v := .int _ _) rfl | exact r_move rfl) rfl rfl rfl ?_
  -- R5.1 5 := slices.go:24 assign
  refine WL.v (by first | exact r_assign (v := .int _ _) rfl | exact r_assign rfl) rfl rfl rfl ?_
  refine WL.fin hK1457 (fun _ _ h => h) ?_
  refine WC.seq fun K1458 hK1458 => ?_
  -- region 6 (draws)
  refine WC.quietS st ty_mixed (by kernel_rfl) fun Kq hKq => ?_
  -- R6.0 16 := slices.go:25 move
  refine QL.v (fun w st => by first | exact r_move (v := .slice _ _ _) rfl | exact r_move rfl) rfl rfl rfl ?_
  -- R6.1 17 := slices.go:25 move
  refine QL.v (fun w st => by first | exact r_move (v := .int _ _) rfl | exact r_move rfl) rfl rfl rfl ?_
  -- R6.2 18 := slices.go:25 indexAddr
  refine QL.v (fun w st => by exact r_indexS (j := k) ty_sl46 (congrArg (fun q => Value.slice q Q.length c) hae) rfl rfl (by omega)) rfl rfl rfl ?_
  -- R6.3 19 := slices.go:25 load
  refine QL.v (fun w st => by exact r_loadL (vs := [.int .i64 (e.1 : Nat), .int .i64 (e.2 : Nat)]) ty_agg61 rfl ⟨by rw [Nat.zero_add]; exact hce st 0 (by decide), by rw [Nat.zero_add]; exact hce st 1 (by decide), trivial⟩) rfl rfl rfl ?_
  -- R6.4 20 := slices.go:25 move
  refine QL.v (fun w st => by first | exact r_move (v := .slice _ _ _) rfl | exact r_move rfl) rfl rfl rfl ?_
  -- R6.5 21 := slices.go:25 move
  refine QL.v (fun w st => by first | exact r_move (v := .int _ _) rfl | exact r_move rfl) rfl rfl rfl ?_
  -- R6.6 22 := slices.go:25 indexAddr
  refine QL.v (fun w st => by exact r_indexS (j := k) ty_sl46 (congrArg (fun q => Value.slice q Q.length c') hae') rfl rfl (by omega)) rfl rfl rfl ?_
  -- R6.7 23 := slices.go:25 load
  refine QL.v (fun w st => by exact r_loadL (vs := [.int .i64 (e.1 : Nat), .int .i64 (e.2 : Nat)]) ty_agg61 rfl ⟨by rw [Nat.zero_add]; exact hce' st 0 (by decide), by rw [Nat.zero_add]; exact hce' st 1 (by decide), trivial⟩) rfl rfl rfl ?_
  -- R6.8 24 := slices.go:25 binOp
  refine QL.v (fun w st => by exact r_aneq (n := 2) (F := qE e) (G := qE e) (t := false) eqReq rfl rfl rfl (fun i hi => by { match i, hi with | 0, _ => exact KFit.int | 1, _ => exact KFit.int | k + 2, h => omega }) ⟨fun _ _ _ => rfl, fun _ => rfl⟩) rfl rfl rfl ?_
  refine QL.wl hKq fun w st => ?_
  refine WL.fin hK1458 (fun _ _ h => h) ?_
  refine WC.condF rfl rfl ?_
  refine WC.skipF hK1456 (fun _ _ h => h) ?_
  -- region 8
  refine WC.region ?_
  -- R8.0 25 := slices.go:24 binOp
  refine WL.v (by first | exact r_add rfl rfl (wi64 (by omega) (by omega)) | exact r_add rfl rfl rfl) rfl rfl rfl ?_
  -- R8.1 13 := slices.go:24 move
  refine WL.v (by first | exact r_move (v := .int _ _) rfl | exact r_move rfl) rfl rfl rfl ?_
  refine WL.next hK1 (fun _ _ h => h) (k + 1) ⟨hkl', st⟩ (by omega) (by repeat (first | exact sub_nil _ | refine sub_cons rfl rfl ?_))
theorem c_s {b i : Nat} {v : Value} (hm : sI b s qv ∈ l) (hi : i < 771) (hv : sF s qv i = v) (st : S0 w0 l w) : w.cell? ⟨b, i, none⟩ = some v := by
  rw [st.cell hm hi, hv]
theorem sF_t {i : Nat} (hi : i < 96) : sF s qv (3 + i) = taF s.tk i := by
  unfold sF taF
  rw [if_neg (by omega), if_pos (by omega), show 3 + i - 3 = i by omega]
theorem sF_h {i : Nat} (hi : i < 320) : sF s qv (99 + i) = hM s.held i := by
  unfold sF
  rw [if_neg (by omega), if_neg (by omega), if_pos (by omega), show 99 + i - 99 = i by omega]
theorem sF_c {i : Nat} (hi : i < 320) : sF s qv (419 + i) = hM s.claim i := by
  unfold sF
  rw [if_neg (by omega), if_neg (by omega), if_neg (by omega), if_pos (by omega), show 419 + i - 419 = i by omega]
theorem sF_w {i : Nat} (hi : i < 12) : sF s qv (759 + i) = uF s.cells i := by
  unfold sF
  rw [if_neg (by omega), if_neg (by omega), if_neg (by omega), if_neg (by omega), if_neg (by omega), show 759 + i - 759 = i by omega]; rfl
theorem hM_fit {h h' : Nat → Nat → Nat} (i : Nat) (hi : i < 320) : KFit ((List.replicate 320 false)[i]?.getD false) (hM h i) (hM h' i) := by rw [rep_get hi]; exact KFit.int
theorem uF_fit {h h' : Nat → Nat} (i : Nat) (hi : i < 12) : KFit ((List.replicate 12 false)[i]?.getD false) (uF h i) (uF h' i) := by rw [rep_get hi]; exact KFit.int
set_option maxHeartbeats 4000000 in
theorem stateEq_ok {bA bB : Nat} (hA : sI bA s qv ∈ l) (hB : sI bB s qv' ∈ l) (hq : ∀ r, r < 20 → ∃ X, QL0 (qv r) (s.queue r) X ∧ X ⊆ l) (hq' : ∀ r, r < 20 → ∃ X, QL0 (qv' r) (s.queue r) X ∧ X ⊆ l) (st : S0 w0 l w) :
    Calls Tryz.prog 45 #[.pointer (some ⟨bA, 0, none⟩), .pointer (some ⟨bB, 0, none⟩)] w (Ret fun r w' => r = .bool true ∧ S0 w0 l w') := by
  refine enter [.pointer (some ⟨bA, 0, none⟩), .pointer (some ⟨bB, 0, none⟩)] Tryz.func45 rfl Tryz.ntmps45 rfl ?_
  show WC _ _ _ 99 [] [(0, .pointer (some ⟨bA, 0, none⟩)), (1, .pointer (some ⟨bB, 0, none⟩))] _
  refine WC.seq fun K1459 hK1459 => ?_
  -- region 0
  refine WC.region ?_
  -- R0.0 4 := api.go:212 assign
  refine WL.v (by first | exact r_assign (v := .bool _) rfl | exact r_assign rfl) rfl rfl rfl ?_
  refine WL.fin hK1459 (fun _ _ h => h) ?_
  refine WC.seq fun K1460 hK1460 => ?_
  refine WC.seq fun K1461 hK1461 => ?_
  -- region 1 (draws)
  refine WC.quietS st ty_mixed (by kernel_rfl) fun Kq hKq => ?_
  -- R1.0 6 := api.go:213 move
  refine QL.v (fun w st => by first | exact r_move (v := .pointer _) rfl | exact r_move rfl) rfl rfl rfl ?_
  -- R1.1 7 := api.go:213 nilCheck
  refine QL.v (fun w st => by exact r_nilCheck rfl) rfl rfl rfl ?_
  -- R1.2 8 := api.go:213 fieldAddr
  refine QL.v (fun w st => by exact r_field ty_fld50_0 rfl) rfl rfl rfl ?_
  -- R1.3 9 := api.go:213 load
  refine QL.v (fun w st => by exact r_load1 (v := .int .i64 (s.mode : Nat)) ty_one40 rfl (c_s hA (by decide) rfl st)) rfl rfl rfl ?_
  -- R1.4 10 := api.go:213 move
  refine QL.v (fun w st => by first | exact r_move (v := .pointer _) rfl | exact r_move rfl) rfl rfl rfl ?_
  -- R1.5 11 := api.go:213 nilCheck
  refine QL.v (fun w st => by exact r_nilCheck rfl) rfl rfl rfl ?_
  -- R1.6 12 := api.go:213 fieldAddr
  refine QL.v (fun w st => by exact r_field ty_fld50_0 rfl) rfl rfl rfl ?_
  -- R1.7 13 := api.go:213 load
  refine QL.v (fun w st => by exact r_load1 (v := .int .i64 (s.mode : Nat)) ty_one40 rfl (c_s hB (by decide) rfl st)) rfl rfl rfl ?_
  -- R1.8 14 := api.go:213 binOp
  refine QL.v (fun w st => by exact r_neq rfl rfl (decide_eq_false (fun h => h rfl))) rfl rfl rfl ?_
  -- R1.9 15 := api.go:213 move
  refine QL.v (fun w st => by first | exact r_move (v := .bool _) rfl | exact r_move rfl) rfl rfl rfl ?_
  -- R1.10 16 := api.go:213 move
  refine QL.v (fun w st => by first | exact r_move (v := .pointer _) rfl | exact r_move rfl) rfl rfl rfl ?_
  -- R1.11 17 := api.go:213 nilCheck
  refine QL.v (fun w st => by exact r_nilCheck rfl) rfl rfl rfl ?_
  -- R1.12 18 := api.go:213 fieldAddr
  refine QL.v (fun w st => by exact r_field ty_fld50_1 rfl) rfl rfl rfl ?_
  -- R1.13 19 := api.go:213 load
  refine QL.v (fun w st => by exact r_load1 (v := .int .u64 (s.now : Nat)) ty_one26 rfl (c_s hA (by decide) rfl st)) rfl rfl rfl ?_
  -- R1.14 20 := api.go:213 move
  refine QL.v (fun w st => by first | exact r_move (v := .pointer _) rfl | exact r_move rfl) rfl rfl rfl ?_
  -- R1.15 21 := api.go:213 nilCheck
  refine QL.v (fun w st => by exact r_nilCheck rfl) rfl rfl rfl ?_
  -- R1.16 22 := api.go:213 fieldAddr
  refine QL.v (fun w st => by exact r_field ty_fld50_1 rfl) rfl rfl rfl ?_
  -- R1.17 23 := api.go:213 load
  refine QL.v (fun w st => by exact r_load1 (v := .int .u64 (s.now : Nat)) ty_one26 rfl (c_s hB (by decide) rfl st)) rfl rfl rfl ?_
  -- R1.18 24 := api.go:213 binOp
  refine QL.v (fun w st => by exact r_neq rfl rfl (decide_eq_false (fun h => h rfl))) rfl rfl rfl ?_
  -- R1.19 25 := api.go:213 pick
  refine QL.v (fun w st => by first | exact r_pickT (v := .bool _) rfl rfl | exact r_pickF (v := .bool _) rfl rfl) rfl rfl rfl ?_
  -- R1.20 26 := api.go:213 move
  refine QL.v (fun w st => by first | exact r_move (v := .bool _) rfl | exact r_move rfl) rfl rfl rfl ?_
  -- R1.21 27 := api.go:213 move
  refine QL.v (fun w st => by first | exact r_move (v := .pointer _) rfl | exact r_move rfl) rfl rfl rfl ?_
  -- R1.22 28 := api.go:213 nilCheck
  refine QL.v (fun w st => by exact r_nilCheck rfl) rfl rfl rfl ?_
  -- R1.23 29 := api.go:213 fieldAddr
  refine QL.v (fun w st => by exact r_field ty_fld50_2 rfl) rfl rfl rfl ?_
  -- R1.24 30 := api.go:213 load
  refine QL.v (fun w st => by exact r_load1 (v := .int .u64 (s.births : Nat)) ty_one26 rfl (c_s hA (by decide) rfl st)) rfl rfl rfl ?_
  -- R1.25 31 := api.go:213 move
  refine QL.v (fun w st => by first | exact r_move (v := .pointer _) rfl | exact r_move rfl) rfl rfl rfl ?_
  -- R1.26 32 := api.go:213 nilCheck
  refine QL.v (fun w st => by exact r_nilCheck rfl) rfl rfl rfl ?_
  -- R1.27 33 := api.go:213 fieldAddr
  refine QL.v (fun w st => by exact r_field ty_fld50_2 rfl) rfl rfl rfl ?_
  -- R1.28 34 := api.go:213 load
  refine QL.v (fun w st => by exact r_load1 (v := .int .u64 (s.births : Nat)) ty_one26 rfl (c_s hB (by decide) rfl st)) rfl rfl rfl ?_
  -- R1.29 35 := api.go:213 binOp
  refine QL.v (fun w st => by exact r_neq rfl rfl (decide_eq_false (fun h => h rfl))) rfl rfl rfl ?_
  -- R1.30 36 := api.go:213 pick
  refine QL.v (fun w st => by first | exact r_pickT (v := .bool _) rfl rfl | exact r_pickF (v := .bool _) rfl rfl) rfl rfl rfl ?_
  -- R1.31 37 := api.go:213 move
  refine QL.v (fun w st => by first | exact r_move (v := .bool _) rfl | exact r_move rfl) rfl rfl rfl ?_
  -- R1.32 38 := api.go:213 move
  refine QL.v (fun w st => by first | exact r_move (v := .pointer _) rfl | exact r_move rfl) rfl rfl rfl ?_
  -- R1.33 39 := api.go:213 nilCheck
  refine QL.v (fun w st => by exact r_nilCheck rfl) rfl rfl rfl ?_
  -- R1.34 40 := api.go:213 fieldAddr
  refine QL.v (fun w st => by exact r_field ty_fld50_3 rfl) rfl rfl rfl ?_
  -- R1.35 41 := api.go:213 load
  refine QL.v (fun w st => by exact r_loadN (f := taF s.tk) ty_agg43 rfl (fun k hk => c_s hA (by omega) (by rw [show 0 + 3 + k = 3 + k by omega]; exact sF_t hk) st)) rfl rfl rfl ?_
  -- R1.36 42 := api.go:213 move
  refine QL.v (fun w st => by first | exact r_move (v := .pointer _) rfl | exact r_move rfl) rfl rfl rfl ?_
  -- R1.37 43 := api.go:213 nilCheck
  refine QL.v (fun w st => by exact r_nilCheck rfl) rfl rfl rfl ?_
  -- R1.38 44 := api.go:213 fieldAddr
  refine QL.v (fun w st => by exact r_field ty_fld50_3 rfl) rfl rfl rfl ?_
  -- R1.39 45 := api.go:213 load
  refine QL.v (fun w st => by exact r_loadN (f := taF s.tk) ty_agg43 rfl (fun k hk => c_s hB (by omega) (by rw [show 0 + 3 + k = 3 + k by omega]; exact sF_t hk) st)) rfl rfl rfl ?_
  -- R1.40 46 := api.go:213 binOp
  refine QL.v (fun w st => by exact r_aneq (n := 96) (F := taF s.tk) (G := taF s.tk) (t := false) eqTsA rfl rfl rfl ta_fit ⟨fun _ _ _ => rfl, fun _ => rfl⟩) rfl rfl rfl ?_
  -- R1.41 47 := api.go:213 pick
  refine QL.v (fun w st => by first | exact r_pickT (v := .bool _) rfl rfl | exact r_pickF (v := .bool _) rfl rfl) rfl rfl rfl ?_
  -- R1.42 48 := api.go:213 move
  refine QL.v (fun w st => by first | exact r_move (v := .bool _) rfl | exact r_move rfl) rfl rfl rfl ?_
  -- R1.43 49 := api.go:213 move
  refine QL.v (fun w st => by first | exact r_move (v := .pointer _) rfl | exact r_move rfl) rfl rfl rfl ?_
  -- R1.44 50 := api.go:213 nilCheck
  refine QL.v (fun w st => by exact r_nilCheck rfl) rfl rfl rfl ?_
  -- R1.45 51 := api.go:213 fieldAddr
  refine QL.v (fun w st => by exact r_field ty_fld50_4 rfl) rfl rfl rfl ?_
  -- R1.46 52 := api.go:213 load
  refine QL.v (fun w st => by exact r_loadN (f := hM s.held) ty_agg45 rfl (fun k hk => c_s hA (by omega) (by rw [show 0 + 99 + k = 99 + k by omega]; exact sF_h hk) st)) rfl rfl rfl ?_
  -- R1.47 53 := api.go:213 move
  refine QL.v (fun w st => by first | exact r_move (v := .pointer _) rfl | exact r_move rfl) rfl rfl rfl ?_
  -- R1.48 54 := api.go:213 nilCheck
  refine QL.v (fun w st => by exact r_nilCheck rfl) rfl rfl rfl ?_
  -- R1.49 55 := api.go:213 fieldAddr
  refine QL.v (fun w st => by exact r_field ty_fld50_4 rfl) rfl rfl rfl ?_
  -- R1.50 56 := api.go:213 load
  refine QL.v (fun w st => by exact r_loadN (f := hM s.held) ty_agg45 rfl (fun k hk => c_s hB (by omega) (by rw [show 0 + 99 + k = 99 + k by omega]; exact sF_h hk) st)) rfl rfl rfl ?_
  -- R1.51 57 := api.go:213 binOp
  refine QL.v (fun w st => by exact r_aneq (n := 320) (F := hM s.held) (G := hM s.held) (t := false) eqHA List.length_replicate rfl rfl hM_fit ⟨fun _ _ _ => rfl, fun _ => rfl⟩) rfl rfl rfl ?_
  -- R1.52 58 := api.go:213 pick
  refine QL.v (fun w st => by first | exact r_pickT (v := .bool _) rfl rfl | exact r_pickF (v := .bool _) rfl rfl) rfl rfl rfl ?_
  -- R1.53 59 := api.go:213 move
  refine QL.v (fun w st => by first | exact r_move (v := .bool _) rfl | exact r_move rfl) rfl rfl rfl ?_
  -- R1.54 60 := api.go:213 move
  refine QL.v (fun w st => by first | exact r_move (v := .pointer _) rfl | exact r_move rfl) rfl rfl rfl ?_
  -- R1.55 61 := api.go:213 nilCheck
  refine QL.v (fun w st => by exact r_nilCheck rfl) rfl rfl rfl ?_
  -- R1.56 62 := api.go:213 fieldAddr
  refine QL.v (fun w st => by exact r_field ty_fld50_5 rfl) rfl rfl rfl ?_
  -- R1.57 63 := api.go:213 load
  refine QL.v (fun w st => by exact r_loadN (f := hM s.claim) ty_agg45 rfl (fun k hk => c_s hA (by omega) (by rw [show 0 + 419 + k = 419 + k by omega]; exact sF_c hk) st)) rfl rfl rfl ?_
  -- R1.58 64 := api.go:213 move
  refine QL.v (fun w st => by first | exact r_move (v := .pointer _) rfl | exact r_move rfl) rfl rfl rfl ?_
  -- R1.59 65 := api.go:213 nilCheck
  refine QL.v (fun w st => by exact r_nilCheck rfl) rfl rfl rfl ?_
  -- R1.60 66 := api.go:213 fieldAddr
  refine QL.v (fun w st => by exact r_field ty_fld50_5 rfl) rfl rfl rfl ?_
  -- R1.61 67 := api.go:213 load
  refine QL.v (fun w st => by exact r_loadN (f := hM s.claim) ty_agg45 rfl (fun k hk => c_s hB (by omega) (by rw [show 0 + 419 + k = 419 + k by omega]; exact sF_c hk) st)) rfl rfl rfl ?_
  -- R1.62 68 := api.go:213 binOp
  refine QL.v (fun w st => by exact r_aneq (n := 320) (F := hM s.claim) (G := hM s.claim) (t := false) eqHA List.length_replicate rfl rfl hM_fit ⟨fun _ _ _ => rfl, fun _ => rfl⟩) rfl rfl rfl ?_
  -- R1.63 69 := api.go:213 pick
  refine QL.v (fun w st => by first | exact r_pickT (v := .bool _) rfl rfl | exact r_pickF (v := .bool _) rfl rfl) rfl rfl rfl ?_
  -- R1.64 70 := api.go:213 move
  refine QL.v (fun w st => by first | exact r_move (v := .bool _) rfl | exact r_move rfl) rfl rfl rfl ?_
  -- R1.65 71 := api.go:213 move
  refine QL.v (fun w st => by first | exact r_move (v := .pointer _) rfl | exact r_move rfl) rfl rfl rfl ?_
  -- R1.66 72 := api.go:213 nilCheck
  refine QL.v (fun w st => by exact r_nilCheck rfl) rfl rfl rfl ?_
  -- R1.67 73 := api.go:213 fieldAddr
  refine QL.v (fun w st => by exact r_field ty_fld50_7 rfl) rfl rfl rfl ?_
  -- R1.68 74 := api.go:213 load
  refine QL.v (fun w st => by exact r_loadN (f := uF s.cells) ty_agg48 rfl (fun k hk => c_s hA (by omega) (by rw [show 0 + 759 + k = 759 + k by omega]; exact sF_w hk) st)) rfl rfl rfl ?_
  -- R1.69 75 := api.go:213 move
  refine QL.v (fun w st => by first | exact r_move (v := .pointer _) rfl | exact r_move rfl) rfl rfl rfl ?_
  -- R1.70 76 := api.go:213 nilCheck
  refine QL.v (fun w st => by exact r_nilCheck rfl) rfl rfl rfl ?_
  -- R1.71 77 := api.go:213 fieldAddr
  refine QL.v (fun w st => by exact r_field ty_fld50_7 rfl) rfl rfl rfl ?_
  -- R1.72 78 := api.go:213 load
  refine QL.v (fun w st => by exact r_loadN (f := uF s.cells) ty_agg48 rfl (fun k hk => c_s hB (by omega) (by rw [show 0 + 759 + k = 759 + k by omega]; exact sF_w hk) st)) rfl rfl rfl ?_
  -- R1.73 79 := api.go:213 binOp
  refine QL.v (fun w st => by exact r_aneq (n := 12) (F := uF s.cells) (G := uF s.cells) (t := false) eqC List.length_replicate rfl rfl uF_fit ⟨fun _ _ _ => rfl, fun _ => rfl⟩) rfl rfl rfl ?_
  -- R1.74 80 := api.go:213 pick
  refine QL.v (fun w st => by first | exact r_pickT (v := .bool _) rfl rfl | exact r_pickF (v := .bool _) rfl rfl) rfl rfl rfl ?_
  refine QL.wl hKq fun w st => ?_
  refine WL.fin hK1461 (fun _ _ h => h) ?_
  refine WC.condF rfl rfl ?_
  refine WC.skipF hK1460 (fun _ _ h => h) ?_
  refine WC.seq fun K1462 hK1462 => ?_
  refine WC.seq fun K1463 hK1463 => ?_
  -- region 3
  refine WC.region ?_
  -- R3.0 81 := api.go:217 move
  refine WL.v (by first | exact r_move (v := .int _ _) rfl | exact r_move rfl) rfl rfl rfl ?_
  refine WL.fin hK1463 (fun _ _ h => h) ?_
  refine WC.block ?_
  refine WC.loop (ι := Nat) (fun k => [(0, .pointer (some ⟨bA, 0, none⟩)), (1, .pointer (some ⟨bB, 0, none⟩)), (81, .int .i64 (k : Nat))])
    (fun k w' => k ≤ 20 ∧ S0 w0 l w') (fun k => 20 - k) 0 ⟨Nat.zero_le _, st⟩ ?_ ?_
  · skip
    repeat (first | exact sub_nil _ | refine sub_cons rfl rfl ?_)
  clear st
  rintro k w ⟨hk, st⟩ K1 hK1
  by_cases hkl : k = 20
  · skip
    refine WC.seq fun K1464 hK1464 => ?_
    -- region 4
    refine WC.region ?_
    -- R4.0 82 := api.go:217 binOp
    refine WL.v (by first | exact r_lss rfl rfl (decide_eq_true (by omega)) | exact r_lss rfl rfl (decide_eq_false (by omega)) | exact r_lss rfl rfl rfl) rfl rfl rfl ?_
    refine WL.fin hK1464 (fun _ _ h => h) ?_
    refine WC.seq fun K1465 hK1465 => ?_
    refine WC.condF rfl rfl ?_
    refine WC.exitF hK1462 (fun _ _ h => h) ?_
    refine WC.seq fun K1466 hK1466 => ?_
    -- region 9
    refine WC.region ?_
    -- R9.0 4 := api.go:222 assign
    refine WL.v (by first | exact r_assign (v := .bool _) rfl | exact r_assign rfl) rfl rfl rfl ?_
    refine WL.fin hK1466 (fun _ _ h => h) ?_
    refine WC.ret1 Tryz.results45 (fun _ _ h => h) rfl ?_
    exact ⟨_, rfl, rfl, st⟩
  have hk' : k < 20 := by omega
  obtain ⟨X1, hX1, hs1⟩ := hq k hk'
  obtain ⟨X2, hX2, hs2⟩ := hq' k hk'
  refine WC.seq fun K1467 hK1467 => ?_
  -- region 4
  refine WC.region ?_
  -- R4.0 82 := api.go:217 binOp
  refine WL.v (by first | exact r_lss rfl rfl (decide_eq_true (by omega)) | exact r_lss rfl rfl (decide_eq_false (by omega)) | exact r_lss rfl rfl rfl) rfl rfl rfl ?_
  refine WL.fin hK1467 (fun _ _ h => h) ?_
  refine WC.seq fun K1468 hK1468 => ?_
  refine WC.condT rfl rfl ?_
  refine WC.skipF hK1468 (fun _ _ h => h) ?_
  refine WC.seq fun K1469 hK1469 => ?_
  refine WC.block ?_
  refine WC.seq fun K1470 hK1470 => ?_
  -- region 5
  refine WC.region ?_
  -- R5.0 83 := api.go:217 move
  refine WL.v (by first | exact r_move (v := .int _ _) rfl | exact r_move rfl) rfl rfl rfl ?_
  -- R5.1 5 := api.go:217 assign
  refine WL.v (by first | exact r_assign (v := .int _ _) rfl | exact r_assign rfl) rfl rfl rfl ?_
  refine WL.fin hK1470 (fun _ _ h => h) ?_
  refine WC.seq fun K1471 hK1471 => ?_
  -- region 6 (draws)
  refine WC.quietS st ty_mixed (by kernel_rfl) fun Kq hKq => ?_
  -- R6.0 84 := api.go:218 move
  refine QL.v (fun w st => by first | exact r_move (v := .pointer _) rfl | exact r_move rfl) rfl rfl rfl ?_
  -- R6.1 85 := api.go:218 move
  refine QL.v (fun w st => by first | exact r_move (v := .int _ _) rfl | exact r_move rfl) rfl rfl rfl ?_
  -- R6.2 86 := api.go:218 nilCheck
  refine QL.v (fun w st => by exact r_nilCheck rfl) rfl rfl rfl ?_
  -- R6.3 87 := api.go:218 fieldAddr
  refine QL.v (fun w st => by exact r_field ty_fld50_6 rfl) rfl rfl rfl ?_
  -- R6.4 88 := api.go:218 indexAddr
  refine QL.v (fun w st => by exact r_indexA (j := k) ty_ar47 rfl rfl rfl hk') rfl rfl rfl ?_
  -- R6.5 89 := api.go:218 load
  refine QL.v (fun w st => by exact r_load1 (v := qv k) ty_one46 rfl (c_sQ hA hk' (by omega) st)) rfl rfl rfl ?_
  -- R6.6 90 := api.go:218 move
  refine QL.v (fun w st => by first | exact r_move (v := .pointer _) rfl | exact r_move rfl) rfl rfl rfl ?_
  -- R6.7 91 := api.go:218 move
  refine QL.v (fun w st => by first | exact r_move (v := .int _ _) rfl | exact r_move rfl) rfl rfl rfl ?_
  -- R6.8 92 := api.go:218 nilCheck
  refine QL.v (fun w st => by exact r_nilCheck rfl) rfl rfl rfl ?_
  -- R6.9 93 := api.go:218 fieldAddr
  refine QL.v (fun w st => by exact r_field ty_fld50_6 rfl) rfl rfl rfl ?_
  -- R6.10 94 := api.go:218 indexAddr
  refine QL.v (fun w st => by exact r_indexA (j := k) ty_ar47 rfl rfl rfl hk') rfl rfl rfl ?_
  -- R6.11 95 := api.go:218 load
  refine QL.v (fun w st => by exact r_load1 (v := qv' k) ty_one46 rfl (c_sQ hB hk' (by omega) st)) rfl rfl rfl ?_
  -- R6.12 96 := api.go:218 call
  refine QL.call (val := .bool true) (fun w st => r_call ty_call71 rfl) rfl rfl rfl (fun w st => reqEq_ok hX1 hX2 hs1 hs2 st) ?_
  -- R6.13 97 := api.go:218 unOp
  refine QL.v (fun w st => by first | exact r_notT rfl | exact r_notF rfl | exact r_not rfl) rfl rfl rfl ?_
  refine QL.wl hKq fun w st => ?_
  refine WL.fin hK1471 (fun _ _ h => h) ?_
  refine WC.condF rfl rfl ?_
  refine WC.skipF hK1469 (fun _ _ h => h) ?_
  -- region 8
  refine WC.region ?_
  -- R8.0 98 := api.go:217 binOp
  refine WL.v (by first | exact r_add rfl rfl (wi64 (by omega) (by omega)) | exact r_add rfl rfl rfl) rfl rfl rfl ?_
  -- R8.1 81 := api.go:217 move
  refine WL.v (by first | exact r_move (v := .int _ _) rfl | exact r_move rfl) rfl rfl rfl ?_
  refine WL.next hK1 (fun _ _ h => h) (k + 1) ⟨hk', st⟩ (by omega) (by repeat (first | exact sub_nil _ | refine sub_cons rfl rfl ?_))

/-- What a law's question is handed: two states, the answers. -/
structure CK (s s' : KS) (ans : List (Nat × Nat × Nat)) (bB bA : Nat) (qv qv' : Nat → Value) (ov : Value) (l : List HI) : Prop where
  a : ∃ X, OL0 ov ans X ∧ X ⊆ l
  q : ∀ r, r < 20 → ∃ X, QL0 (qv r) (s.queue r) X ∧ X ⊆ l
  q' : ∀ r, r < 20 → ∃ X, QL0 (qv' r) (s'.queue r) X ∧ X ⊆ l
  B : sI bB s qv ∈ l
  A : sI bA s' qv' ∈ l
theorem CK.mono {ans : List (Nat × Nat × Nat)} {bB bA : Nat} {ov : Value} {l' : List HI} (h : CK s s' ans bB bA qv qv' ov l) (hl : l ⊆ l') : CK s s' ans bB bA qv qv' ov l' :=
  ⟨let ⟨X, h1, h2⟩ := h.a; ⟨X, h1, fun x hx => hl (h2 hx)⟩, fun r hr => let ⟨X, h1, h2⟩ := h.q r hr; ⟨X, h1, fun x hx => hl (h2 hx)⟩, fun r hr => let ⟨X, h1, h2⟩ := h.q' r hr; ⟨X, h1, fun x hx => hl (h2 hx)⟩, hl h.B, hl h.A⟩
theorem CK.c {ans : List (Nat × Nat × Nat)} {bB bA : Nat} {ov : Value} {a : HI} (h : CK s s' ans bB bA qv qv' ov l) : CK s s' ans bB bA qv qv' ov (a :: l) := h.mono fun _ hx => List.mem_cons_of_mem _ hx
theorem CK.of {ans : List (Nat × Nat × Nat)} {bB bA : Nat} {ov : Value} {XS XS' : Nat → List HI} {XO : List HI} (h : Qs w0 s s' ans bB bA qv qv' XS XS' ov XO) : CK s s' ans bB bA qv qv' ov (QIs s s' bB bA qv qv' XS XS' XO l) where
  a := ⟨XO, h.o, fun x hx => by simp only [List.mem_cons, List.mem_append]; exact .inr (.inr (.inr (.inr (.inl hx))))⟩
  q r hr := ⟨XS r, h.q r hr, fun x hx => by simp only [List.mem_cons, List.mem_append]; exact .inr (.inr (.inl (gather_sub hr hx)))⟩
  q' r hr := ⟨XS' r, h.q' r hr, fun x hx => by simp only [List.mem_cons, List.mem_append]; exact .inr (.inr (.inr (.inl (gather_sub hr hx))))⟩
  B := List.mem_cons_self
  A := List.mem_cons_of_mem _ List.mem_cons_self
theorem check_pure {F : Nat} {op : Nat → Kern.Op} {n : Nat} (h : ∀ i, i < n → ∀ (bB bA : Nat) (qv qv' : Nat → Value) (ov : Value) (l : List HI) (w : World), CK (runP op i) (runP op (i + 1)) (stepP (runP op i) (op i)).1.told bB bA qv qv' ov l → S0 w0 l w →
    Calls Tryz.prog F #[.agg (stepL (op i) bB bA (stepP (runP op i) (op i)).2.1 (stepP (runP op i) (op i)).2.2 ov).toArray] w (Ret fun v w' => v = .bool true ∧ S0 w0 l w')) : CheckOK w0 F #[] op n fun _ LI => LI = [] := by
  rintro i bB bA qv qv' XS XS' ov XO LI Z w' hi rfl hQ st'
  refine (h i hi bB bA qv qv' ov _ w' (CK.of hQ) st').mono ?_
  rintro e w'' ⟨v, rfl, rfl, st''⟩
  exact ⟨_, rfl, rfl, [], rfl, st''⟩
end Go.Proofs.Qxb6500834aGreatDoor

