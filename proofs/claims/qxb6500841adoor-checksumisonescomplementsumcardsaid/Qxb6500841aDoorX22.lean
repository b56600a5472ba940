import Derived.Test.Qxb6500841aDoorX20
set_option linter.unusedVariables false
set_option linter.unusedSimpArgs false
set_option maxRecDepth 20000
namespace Go.Proofs.Qxb6500841aDoor
open Go.RowKit Go.E1 Go.Wire
variable {w0 : World} {L : List HI} {w : World} {ET : Nat → TypeId} {EU : Nat → Value}

theorem plusV {S x : Int} (h0 : 0 ≤ S) (h1 : 0 ≤ x) (h2 : x < 65536) : (if 65535 < foldV S + x then foldV S + x - 65536 + 1 else foldV S + x) = foldV (S + x) := by
  unfold foldV
  by_cases hS : S = 0
  · subst hS
    simp only [if_true]
    by_cases hx : x = 0
    · subst hx; simp
    · rw [if_neg (show ¬ (0 + x = 0) by omega)]; split <;> omega
  · rw [if_neg hS, if_neg (show ¬ (S + x = 0) by omega)]; split <;> omega

theorem foldV_add {a b : Int} (ha : 0 ≤ a) (hb : 0 ≤ b) : foldV (foldV a + b) = foldV (a + b) := by
  have hr := foldV_rng a
  refine foldV_congr ?_ ?_
  · unfold foldV; split <;> omega
  · unfold foldV; split <;> omega

theorem wsum_last {bs : List Int} {k : Nat} (hk : k % 2 = 0) (hl : k + 1 = bs.length) : wsum bs = wsum (bs.take k) + bs.getD k 0 * 256 := by
  have e : bs = bs.take k ++ [bs.getD k 0] := by
    conv => lhs; rw [← List.take_append_drop k bs]
    congr 1
    rw [List.drop_eq_getElem_cons (show k < bs.length by omega), List.drop_eq_nil_of_le (by omega)]
    simp [List.getD_eq_getElem?_getD, show k < bs.length by omega]
  conv => lhs; rw [e]
  rw [wsum_append _ (by simp; omega)]
  simp [wsum]

theorem plus_ok (a b : Int) (ha : 0 ≤ a ∧ a < 65536) (hb : 0 ≤ b ∧ b < 65536) (st : S0 w0 L w) : Calls Tryd.prog 36 #[.int .i64 a, .int .i64 b] w (Ret fun v w' => v = .int .i64 (if 65535 < a + b then a + b - 65536 + 1 else a + b) ∧ S0 w0 L w') := by
  by_cases h : 65535 < a + b
  · skip
    refine enter [.int .i64 a, .int .i64 b] Tryd.func36 rfl Tryd.ntmps36 rfl ?_
    show WC _ _ _ 15 [] [(0, .int .i64 a), (1, .int .i64 b)] _
    refine WC.seq fun K1115 hK1115 => ?_
    -- region 0
    refine WC.region ?_
    -- R0.0 4 := wirem.go:382 assign
    refine WL.v (by first | exact r_assign (v := .int _ _) rfl | exact r_assign rfl) rfl rfl rfl ?_
    refine WL.fin hK1115 (fun _ _ h => h) ?_
    refine WC.seq fun K1116 hK1116 => ?_
    -- region 1
    refine WC.region ?_
    -- R1.0 6 := wirem.go:383 move
    refine WL.v (by first | exact r_move (v := .int _ _) rfl | exact r_move rfl) rfl rfl rfl ?_
    -- R1.1 7 := wirem.go:383 move
    refine WL.v (by first | exact r_move (v := .int _ _) rfl | exact r_move rfl) rfl rfl rfl ?_
    -- R1.2 8 := wirem.go:383 binOp
    refine WL.v (by first | exact r_add rfl rfl (wi64 (by omega) (by omega)) | exact r_add rfl rfl rfl) rfl rfl rfl ?_
    -- R1.3 5 := wirem.go:383 assign
    refine WL.v (by first | exact r_assign (v := .int _ _) rfl | exact r_assign rfl) rfl rfl rfl ?_
    refine WL.fin hK1116 (fun _ _ h => h) ?_
    refine WC.seq fun K1117 hK1117 => ?_
    refine WC.seq fun K1118 hK1118 => ?_
    -- region 2
    refine WC.region ?_
    -- R2.0 9 := wirem.go:384 move
    refine WL.v (by first | exact r_move (v := .int _ _) rfl | exact r_move rfl) rfl rfl rfl ?_
    -- R2.1 10 := wirem.go:384 binOp
    refine WL.v (by first | exact r_gtr rfl rfl (decide_eq_true (by omega)) | exact r_gtr rfl rfl (decide_eq_false (by omega)) | exact r_gtr rfl rfl rfl) rfl rfl rfl ?_
    refine WL.fin hK1118 (fun _ _ h => h) ?_
    refine WC.condT rfl rfl ?_
    -- region 3
    refine WC.region ?_
    -- R3.0 11 := wirem.go:385 move
    refine WL.v (by first | exact r_move (v := .int _ _) rfl | exact r_move rfl) rfl rfl rfl ?_
    -- R3.1 12 := wirem.go:385 binOp
    refine WL.v (by first | exact r_sub rfl rfl (wi64 (by omega) (by omega)) | exact r_sub rfl rfl rfl) rfl rfl rfl ?_
    -- R3.2 13 := wirem.go:385 binOp
    refine WL.v (by first | exact r_add rfl rfl (wi64 (by omega) (by omega)) | exact r_add rfl rfl rfl) rfl rfl rfl ?_
    -- R3.3 5 := wirem.go:385 assign
    refine WL.v (by first | exact r_assign (v := .int _ _) rfl | exact r_assign rfl) rfl rfl rfl ?_
    refine WL.fin hK1117 (fun _ _ h => h) ?_
    refine WC.seq fun K1119 hK1119 => ?_
    -- region 4
    refine WC.region ?_
    -- R4.0 14 := wirem.go:387 move
    refine WL.v (by first | exact r_move (v := .int _ _) rfl | exact r_move rfl) rfl rfl rfl ?_
    -- R4.1 4 := wirem.go:387 assign
    refine WL.v (by first | exact r_assign (v := .int _ _) rfl | exact r_assign rfl) rfl rfl rfl ?_
    refine WL.fin hK1119 (fun _ _ h => h) ?_
    refine WC.ret1 Tryd.results36 (fun _ _ h => h) rfl ?_
    exact ⟨_, rfl, by rw [if_pos h]; rfl, st⟩
  · skip
    refine enter [.int .i64 a, .int .i64 b] Tryd.func36 rfl Tryd.ntmps36 rfl ?_
    show WC _ _ _ 15 [] [(0, .int .i64 a), (1, .int .i64 b)] _
    refine WC.seq fun K1120 hK1120 => ?_
    -- region 0
    refine WC.region ?_
    -- R0.0 4 := wirem.go:382 assign
    refine WL.v (by first | exact r_assign (v := .int _ _) rfl | exact r_assign rfl) rfl rfl rfl ?_
    refine WL.fin hK1120 (fun _ _ h => h) ?_
    refine WC.seq fun K1121 hK1121 => ?_
    -- region 1
    refine WC.region ?_
    -- R1.0 6 := wirem.go:383 move
    refine WL.v (by first | exact r_move (v := .int _ _) rfl | exact r_move rfl) rfl rfl rfl ?_
    -- R1.1 7 := wirem.go:383 move
    refine WL.v (by first | exact r_move (v := .int _ _) rfl | exact r_move rfl) rfl rfl rfl ?_
    -- R1.2 8 := wirem.go:383 binOp
    refine WL.v (by first | exact r_add rfl rfl (wi64 (by omega) (by omega)) | exact r_add rfl rfl rfl) rfl rfl rfl ?_
    -- R1.3 5 := wirem.go:383 assign
    refine WL.v (by first | exact r_assign (v := .int _ _) rfl | exact r_assign rfl) rfl rfl rfl ?_
    refine WL.fin hK1121 (fun _ _ h => h) ?_
    refine WC.seq fun K1122 hK1122 => ?_
    refine WC.seq fun K1123 hK1123 => ?_
    -- region 2
    refine WC.region ?_
    -- R2.0 9 := wirem.go:384 move
    refine WL.v (by first | exact r_move (v := .int _ _) rfl | exact r_move rfl) rfl rfl rfl ?_
    -- R2.1 10 := wirem.go:384 binOp
    refine WL.v (by first | exact r_gtr rfl rfl (decide_eq_true (by omega)) | exact r_gtr rfl rfl (decide_eq_false (by omega)) | exact r_gtr rfl rfl rfl) rfl rfl rfl ?_
    refine WL.fin hK1123 (fun _ _ h => h) ?_
    refine WC.condF rfl rfl ?_
    refine WC.skipF hK1122 (fun _ _ h => h) ?_
    refine WC.seq fun K1124 hK1124 => ?_
    -- region 4
    refine WC.region ?_
    -- R4.0 14 := wirem.go:387 move
    refine WL.v (by first | exact r_move (v := .int _ _) rfl | exact r_move rfl) rfl rfl rfl ?_
    -- R4.1 4 := wirem.go:387 assign
    refine WL.v (by first | exact r_assign (v := .int _ _) rfl | exact r_assign rfl) rfl rfl rfl ?_
    refine WL.fin hK1124 (fun _ _ h => h) ?_
    refine WC.ret1 Tryd.results36 (fun _ _ h => h) rfl ?_
    exact ⟨_, rfl, by rw [if_neg h]; rfl, st⟩

set_option maxHeartbeats 4000000 in
theorem ones_ok (s : SV) (hs : s.ok) (hl : s.bs.length ≤ 1000000000) (hrd : ∀ w', S0 w0 L w' → s.rd w') (st : S0 w0 L w) :
    Calls Tryd.prog 15 #[.slice s.a s.bs.length s.c] w (Ret fun v w' => v = .int .u16 (foldV (wsum s.bs)) ∧ S0 w0 L w') := by
  obtain ⟨a, c, b, o, bs⟩ := s
  obtain ⟨hle, hcap, hadr, hbyt⟩ := hs
  simp only [SV.rd] at hle hcap hadr hbyt hl hrd ⊢
  have hat : ∀ i, i < bs.length → 0 ≤ bs.getD i 0 ∧ bs.getD i 0 < 256 := fun i hi => hbyt _ (getD_mem hi)
  have hnn : ∀ i, 0 ≤ wsum (bs.take i) := fun i => wsum_nonneg (fun x hx => hbyt x (List.mem_of_mem_take hx))
  refine enter [.slice a bs.length c] Tryd.func15 rfl Tryd.ntmps15 rfl ?_
  show WC _ _ _ 36 [] [(0, .slice a bs.length c)] _
  refine WC.seq fun K1125 hK1125 => ?_
  -- region 0
  refine WC.region ?_
  -- R0.0 2 := wirem.go:369 assign
  refine WL.v (by first | exact r_assign (v := .int _ _) rfl | exact r_assign rfl) rfl rfl rfl ?_
  refine WL.fin hK1125 (fun _ _ h => h) ?_
  refine WC.seq fun K1126 hK1126 => ?_
  -- region 1
  refine WC.region ?_
  -- R1.0 3 := wirem.go:370 assign
  refine WL.v (by first | exact r_assign (v := .int _ _) rfl | exact r_assign rfl) rfl rfl rfl ?_
  refine WL.fin hK1126 (fun _ _ h => h) ?_
  refine WC.seq fun K1127 hK1127 => ?_
  refine WC.seq fun K1128 hK1128 => ?_
  -- region 2
  refine WC.region ?_
  -- R2.0 4 := wirem.go:371 assign
  refine WL.v (by first | exact r_assign (v := .int _ _) rfl | exact r_assign rfl) rfl rfl rfl ?_
  refine WL.fin hK1128 (fun _ _ h => h) ?_
  refine WC.block ?_
  refine WC.loop (ι := Nat) (fun i => [(0, .slice a bs.length c), (3, .int .i64 (foldV (wsum (bs.take i)))), (4, .int .i64 (i : Nat))]) (fun i w' => S0 w0 L w' ∧ i ≤ bs.length + 1 ∧ i % 2 = 0) (fun i => bs.length + 1 - i) 0 ⟨st, Nat.zero_le _, rfl⟩ ?_ ?_
  · skip
    repeat (first | exact sub_nil _ | refine sub_cons rfl rfl ?_)
  rintro i w ⟨st, hi, hi2⟩ K1 hK1
  by_cases hlt : ¬ i < bs.length
  · have he : bs.take i = bs := List.take_of_length_le (by omega)
    have hfr := foldV_rng (wsum (bs.take i))
    refine WC.seq fun K1129 hK1129 => ?_
    refine WC.seq fun K1130 hK1130 => ?_
    -- region 3
    refine WC.region ?_
    -- R3.0 6 := wirem.go:371 move
    refine WL.v (by first | exact r_move (v := .int _ _) rfl | exact r_move rfl) rfl rfl rfl ?_
    -- R3.1 7 := wirem.go:371 move
    refine WL.v (by first | exact r_move (v := .slice _ _ _) rfl | exact r_move rfl) rfl rfl rfl ?_
    -- R3.2 8 := wirem.go:371 call
    refine WL.v (by exact r_len ty_usl25 rfl) rfl rfl rfl ?_
    -- R3.3 9 := wirem.go:371 binOp
    refine WL.v (by first | exact r_lss rfl rfl (decide_eq_true (by omega)) | exact r_lss rfl rfl (decide_eq_false (by omega)) | exact r_lss rfl rfl rfl) rfl rfl rfl ?_
    refine WL.fin hK1130 (fun _ _ h => h) ?_
    refine WC.condF rfl rfl ?_
    refine WC.exitF hK1127 (fun _ _ h => h) ?_
    refine WC.seq fun K1131 hK1131 => ?_
    -- region 9
    refine WC.region ?_
    -- R9.0 34 := wirem.go:378 move
    refine WL.v (by first | exact r_move (v := .int _ _) rfl | exact r_move rfl) rfl rfl rfl ?_
    -- R9.1 35 := wirem.go:378 convert
    refine WL.v (by first | exact r_conv ty_cv3_30 rfl (wu16 (by omega) (by omega)) | exact r_conv ty_cv3_30 rfl rfl) rfl rfl rfl ?_
    -- R9.2 2 := wirem.go:378 assign
    refine WL.v (by first | exact r_assign (v := .int _ _) rfl | exact r_assign rfl) rfl rfl rfl ?_
    refine WL.fin hK1131 (fun _ _ h => h) ?_
    refine WC.ret1 Tryd.results15 (fun _ _ h => h) rfl ?_
    exact ⟨_, rfl, congrArg (Value.int .u16) (by rw [he]), st⟩
  have hlt : i < bs.length := by omega
  obtain rfl := hadr (by omega)
  have g0 := hat i hlt
  have hfr := foldV_rng (wsum (bs.take i))
  by_cases h1 : i + 1 < bs.length
  · have g1 := hat (i + 1) h1
    refine WC.seq fun K1132 hK1132 => ?_
    refine WC.seq fun K1133 hK1133 => ?_
    -- region 3
    refine WC.region ?_
    -- R3.0 6 := wirem.go:371 move
    refine WL.v (by first | exact r_move (v := .int _ _) rfl | exact r_move rfl) rfl rfl rfl ?_
    -- R3.1 7 := wirem.go:371 move
    refine WL.v (by first | exact r_move (v := .slice _ _ _) rfl | exact r_move rfl) rfl rfl rfl ?_
    -- R3.2 8 := wirem.go:371 call
    refine WL.v (by exact r_len ty_usl25 rfl) rfl rfl rfl ?_
    -- R3.3 9 := wirem.go:371 binOp
    refine WL.v (by first | exact r_lss rfl rfl (decide_eq_true (by omega)) | exact r_lss rfl rfl (decide_eq_false (by omega)) | exact r_lss rfl rfl rfl) rfl rfl rfl ?_
    refine WL.fin hK1133 (fun _ _ h => h) ?_
    refine WC.condT rfl rfl ?_
    refine WC.skipF hK1132 (fun _ _ h => h) ?_
    refine WC.seq fun K1134 hK1134 => ?_
    refine WC.block ?_
    refine WC.seq fun K1135 hK1135 => ?_
    -- region 5
    refine WC.region ?_
    -- R5.0 12 := wirem.go:372 move
    refine WL.v (by first | exact r_move (v := .slice _ _ _) rfl | exact r_move rfl) rfl rfl rfl ?_
    -- R5.1 13 := wirem.go:372 move
    refine WL.v (by first | exact r_move (v := .int _ _) rfl | exact r_move rfl) rfl rfl rfl ?_
    -- R5.2 14 := wirem.go:372 indexAddr
    refine WL.v (by exact r_indexS (j := i) ty_sl25 rfl rfl (by omega) (by omega)) rfl rfl rfl ?_
    -- R5.3 15 := wirem.go:372 load
    refine WL.v (by exact r_load1 ty_one5 rfl (by have := hrd _ st i hlt; rwa [show o + i = o + i * 1 by omega] at this)) rfl rfl rfl ?_
    -- R5.4 16 := wirem.go:372 convert
    refine WL.v (by first | exact r_conv ty_cv5_3 rfl (wi64 (by omega) (by omega)) | exact r_conv ty_cv5_3 rfl rfl) rfl rfl rfl ?_
    -- R5.5 17 := wirem.go:372 binOp
    refine WL.v (by first | exact r_mul rfl rfl (wi64 (by omega) (by omega)) | exact r_mul rfl rfl rfl) rfl rfl rfl ?_
    -- R5.6 5 := wirem.go:372 assign
    refine WL.v (by first | exact r_assign (v := .int _ _) rfl | exact r_assign rfl) rfl rfl rfl ?_
    refine WL.fin hK1135 (fun _ _ h => h) ?_
    refine WC.seq fun K1136 hK1136 => ?_
    refine WC.seq fun K1137 hK1137 => ?_
    -- region 6
    refine WC.region ?_
    -- R6.0 18 := wirem.go:373 move
    refine WL.v (by first | exact r_move (v := .int _ _) rfl | exact r_move rfl) rfl rfl rfl ?_
    -- R6.1 19 := wirem.go:373 binOp
    refine WL.v (by first | exact r_add rfl rfl (wi64 (by omega) (by omega)) | exact r_add rfl rfl rfl) rfl rfl rfl ?_
    -- R6.2 20 := wirem.go:373 move
    refine WL.v (by first | exact r_move (v := .slice _ _ _) rfl | exact r_move rfl) rfl rfl rfl ?_
    -- R6.3 21 := wirem.go:373 call
    refine WL.v (by exact r_len ty_usl25 rfl) rfl rfl rfl ?_
    -- R6.4 22 := wirem.go:373 binOp
    refine WL.v (by first | exact r_lss rfl rfl (decide_eq_true (by omega)) | exact r_lss rfl rfl (decide_eq_false (by omega)) | exact r_lss rfl rfl rfl) rfl rfl rfl ?_
    refine WL.fin hK1137 (fun _ _ h => h) ?_
    refine WC.condT rfl rfl ?_
    -- region 7
    refine WC.region ?_
    -- R7.0 23 := wirem.go:374 move
    refine WL.v (by first | exact r_move (v := .int _ _) rfl | exact r_move rfl) rfl rfl rfl ?_
    -- R7.1 24 := wirem.go:374 move
    refine WL.v (by first | exact r_move (v := .slice _ _ _) rfl | exact r_move rfl) rfl rfl rfl ?_
    -- R7.2 25 := wirem.go:374 move
    refine WL.v (by first | exact r_move (v := .int _ _) rfl | exact r_move rfl) rfl rfl rfl ?_
    -- R7.3 26 := wirem.go:374 binOp
    refine WL.v (by exact r_add (r := ((i + 1 : Nat) : Int)) rfl rfl (by rw [wi64 (by omega) (by omega)]; omega)) rfl rfl rfl ?_
    -- R7.4 27 := wirem.go:374 indexAddr
    refine WL.v (by exact r_indexS (j := i + 1) ty_sl25 rfl rfl (by omega) (by omega)) rfl rfl rfl ?_
    -- R7.5 28 := wirem.go:374 load
    refine WL.v (by exact r_load1 ty_one5 rfl (by have := hrd _ st (i + 1) h1; rwa [show o + (i + 1) = o + (i + 1) * 1 by omega] at this)) rfl rfl rfl ?_
    -- R7.6 29 := wirem.go:374 convert
    refine WL.v (by first | exact r_conv ty_cv5_3 rfl (wi64 (by omega) (by omega)) | exact r_conv ty_cv5_3 rfl rfl) rfl rfl rfl ?_
    -- R7.7 30 := wirem.go:374 binOp
    refine WL.v (by first | exact r_add rfl rfl (wi64 (by omega) (by omega)) | exact r_add rfl rfl rfl) rfl rfl rfl ?_
    -- R7.8 5 := wirem.go:374 assign
    refine WL.v (by first | exact r_assign (v := .int _ _) rfl | exact r_assign rfl) rfl rfl rfl ?_
    refine WL.fin hK1136 (fun _ _ h => h) ?_
    -- region 8
    refine WC.region ?_
    -- R8.0 31 := wirem.go:376 move
    refine WL.v (by first | exact r_move (v := .int _ _) rfl | exact r_move rfl) rfl rfl rfl ?_
    -- R8.1 32 := wirem.go:376 move
    refine WL.v (by first | exact r_move (v := .int _ _) rfl | exact r_move rfl) rfl rfl rfl ?_
    -- R8.2 33 := wirem.go:376 call
    refine WL.call (r_call ty_call36 rfl) rfl rfl rfl (plus_ok _ _ hfr (by omega) st) ?_
    rintro _ w ⟨rfl, st⟩
    rw [plusV (hnn i) (by omega) (by omega), ← wsum_take (by omega) hi2]
    -- R8.3 3 := wirem.go:376 assign
    refine WL.v (by first | exact r_assign (v := .int _ _) rfl | exact r_assign rfl) rfl rfl rfl ?_
    refine WL.fin hK1134 (fun _ _ h => h) ?_
    -- region 4
    refine WC.region ?_
    -- R4.0 10 := wirem.go:371 move
    refine WL.v (by first | exact r_move (v := .int _ _) rfl | exact r_move rfl) rfl rfl rfl ?_
    -- R4.1 11 := wirem.go:371 binOp
    refine WL.v (by first | exact r_add rfl rfl (wi64 (by omega) (by omega)) | exact r_add rfl rfl rfl) rfl rfl rfl ?_
    -- R4.2 4 := wirem.go:371 assign
    refine WL.v (by first | exact r_assign (v := .int _ _) rfl | exact r_assign rfl) rfl rfl rfl ?_
    refine WL.next hK1 (fun _ _ h => h) (i + 2) ⟨st, by omega, by omega⟩ (by show bs.length + 1 - (i + 2) < bs.length + 1 - i; omega) (by repeat (first | exact sub_nil _ | refine sub_cons rfl rfl ?_))
  · have he : bs.take (i + 2) = bs := List.take_of_length_le (by omega)
    refine WC.seq fun K1138 hK1138 => ?_
    refine WC.seq fun K1139 hK1139 => ?_
    -- region 3
    refine WC.region ?_
    -- R3.0 6 := wirem.go:371 move
    refine WL.v (by first | exact r_move (v := .int _ _) rfl | exact r_move rfl) rfl rfl rfl ?_
    -- R3.1 7 := wirem.go:371 move
    refine WL.v (by first | exact r_move (v := .slice _ _ _) rfl | exact r_move rfl) rfl rfl rfl ?_
    -- R3.2 8 := wirem.go:371 call
    refine WL.v (by exact r_len ty_usl25 rfl) rfl rfl rfl ?_
    -- R3.3 9 := wirem.go:371 binOp
    refine WL.v (by first | exact r_lss rfl rfl (decide_eq_true (by omega)) | exact r_lss rfl rfl (decide_eq_false (by omega)) | exact r_lss rfl rfl rfl) rfl rfl rfl ?_
    refine WL.fin hK1139 (fun _ _ h => h) ?_
    refine WC.condT rfl rfl ?_
    refine WC.skipF hK1138 (fun _ _ h => h) ?_
    refine WC.seq fun K1140 hK1140 => ?_
    refine WC.block ?_
    refine WC.seq fun K1141 hK1141 => ?_
    -- region 5
    refine WC.region ?_
    -- R5.0 12 := wirem.go:372 move
    refine WL.v (by first | exact r_move (v := .slice _ _ _) rfl | exact r_move rfl) rfl rfl rfl ?_
    -- R5.1 13 := wirem.go:372 move
    refine WL.v (by first | exact r_move (v := .int _ _) rfl | exact r_move rfl) rfl rfl rfl ?_
    -- R5.2 14 := wirem.go:372 indexAddr
    refine WL.v (by exact r_indexS (j := i) ty_sl25 rfl rfl (by omega) (by omega)) rfl rfl rfl ?_
    -- R5.3 15 := wirem.go:372 load
    refine WL.v (by exact r_load1 ty_one5 rfl (by have := hrd _ st i hlt; rwa [show o + i = o + i * 1 by omega] at this)) rfl rfl rfl ?_
    -- R5.4 16 := wirem.go:372 convert
    refine WL.v (by first | exact r_conv ty_cv5_3 rfl (wi64 (by omega) (by omega)) | exact r_conv ty_cv5_3 rfl rfl) rfl rfl rfl ?_
    -- R5.5 17 := wirem.go:372 binOp
    refine WL.v (by first | exact r_mul rfl rfl (wi64 (by omega) (by omega)) | exact r_mul rfl rfl rfl) rfl rfl rfl ?_
    -- R5.6 5 := wirem.go:372 assign
    refine WL.v (by first | exact r_assign (v := .int _ _) rfl | exact r_assign rfl) rfl rfl rfl ?_
    refine WL.fin hK1141 (fun _ _ h => h) ?_
    refine WC.seq fun K1142 hK1142 => ?_
    refine WC.seq fun K1143 hK1143 => ?_
    -- region 6
    refine WC.region ?_
    -- R6.0 18 := wirem.go:373 move
    refine WL.v (by first | exact r_move (v := .int _ _) rfl | exact r_move rfl) rfl rfl rfl ?_
    -- R6.1 19 := wirem.go:373 binOp
    refine WL.v (by first | exact r_add rfl rfl (wi64 (by omega) (by omega)) | exact r_add rfl rfl rfl) rfl rfl rfl ?_
    -- R6.2 20 := wirem.go:373 move
    refine WL.v (by first | exact r_move (v := .slice _ _ _) rfl | exact r_move rfl) rfl rfl rfl ?_
    -- R6.3 21 := wirem.go:373 call
    refine WL.v (by exact r_len ty_usl25 rfl) rfl rfl rfl ?_
    -- R6.4 22 := wirem.go:373 binOp
    refine WL.v (by first | exact r_lss rfl rfl (decide_eq_true (by omega)) | exact r_lss rfl rfl (decide_eq_false (by omega)) | exact r_lss rfl rfl rfl) rfl rfl rfl ?_
    refine WL.fin hK1143 (fun _ _ h => h) ?_
    refine WC.condF rfl rfl ?_
    refine WC.skipF hK1142 (fun _ _ h => h) ?_
    -- region 8
    refine WC.region ?_
    -- R8.0 31 := wirem.go:376 move
    refine WL.v (by first | exact r_move (v := .int _ _) rfl | exact r_move rfl) rfl rfl rfl ?_
    -- R8.1 32 := wirem.go:376 move
    refine WL.v (by first | exact r_move (v := .int _ _) rfl | exact r_move rfl) rfl rfl rfl ?_
    -- R8.2 33 := wirem.go:376 call
    refine WL.call (r_call ty_call36 rfl) rfl rfl rfl (plus_ok _ _ hfr (by omega) st) ?_
    rintro _ w ⟨rfl, st⟩
    rw [plusV (hnn i) (by omega) (by omega), ← wsum_last hi2 (by omega), show wsum bs = wsum (bs.take (i + 2)) by rw [he]]
    -- R8.3 3 := wirem.go:376 assign
    refine WL.v (by first | exact r_assign (v := .int _ _) rfl | exact r_assign rfl) rfl rfl rfl ?_
    refine WL.fin hK1140 (fun _ _ h => h) ?_
    -- region 4
    refine WC.region ?_
    -- R4.0 10 := wirem.go:371 move
    refine WL.v (by first | exact r_move (v := .int _ _) rfl | exact r_move rfl) rfl rfl rfl ?_
    -- R4.1 11 := wirem.go:371 binOp
    refine WL.v (by first | exact r_add rfl rfl (wi64 (by omega) (by omega)) | exact r_add rfl rfl rfl) rfl rfl rfl ?_
    -- R4.2 4 := wirem.go:371 assign
    refine WL.v (by first | exact r_assign (v := .int _ _) rfl | exact r_assign rfl) rfl rfl rfl ?_
    refine WL.next hK1 (fun _ _ h => h) (i + 2) ⟨st, by omega, by omega⟩ (by show bs.length + 1 - (i + 2) < bs.length + 1 - i; omega) (by repeat (first | exact sub_nil _ | refine sub_cons rfl rfl ?_))

theorem cksum_ok (s : SV) (hs : s.ok) (hl : s.bs.length ≤ 1000000000) (hrd : ∀ its w', S0 w0 (its ++ L) w' → s.rd w') (st : S0 w0 L w) :
    Calls Tryd.prog 17 #[.slice s.a s.bs.length s.c] w (Ret fun v w' => v = .int .u16 (65535 - foldV (wsum s.bs)) ∧ S0 w0 L w') := by
  refine enter [.slice s.a s.bs.length s.c] Tryd.func17 rfl Tryd.ntmps17 rfl ?_
  show WC _ _ _ 6 [] [(0, .slice s.a s.bs.length s.c)] _
  refine WC.seq fun K1144 hK1144 => ?_
  -- region 0
  refine WC.region ?_
  -- R0.0 2 := checksum.go:51 assign
  refine WL.v (by first | exact r_assign (v := .int _ _) rfl | exact r_assign rfl) rfl rfl rfl ?_
  refine WL.fin hK1144 (fun _ _ h => h) ?_
  refine WC.seq fun K1145 hK1145 => ?_
  -- region 1
  refine WC.region ?_
  -- R1.0 3 := checksum.go:52 move
  refine WL.v (by first | exact r_move (v := .slice _ _ _) rfl | exact r_move rfl) rfl rfl rfl ?_
  -- R1.1 4 := checksum.go:52 call
  refine WL.call (r_call ty_call16 rfl) rfl rfl rfl (sum_ok 0 s (by omega) (by omega) hs hl hrd st) ?_
  rintro _ w ⟨rfl, st⟩
  rw [Int.zero_add]
  -- R1.2 5 := checksum.go:52 unOp
  refine WL.v (by exact r_compl rfl (foldV_rng _)) rfl rfl rfl ?_
  -- R1.3 2 := checksum.go:52 assign
  refine WL.v (by first | exact r_assign (v := .int _ _) rfl | exact r_assign rfl) rfl rfl rfl ?_
  refine WL.fin hK1145 (fun _ _ h => h) ?_
  refine WC.ret1 Tryd.results17 (fun _ _ h => h) rfl ?_
  exact ⟨_, rfl, rfl, st⟩

theorem right_ok (a b : Int) (ha : 0 ≤ a ∧ a < 65536) (hb : 0 ≤ b ∧ b < 65536) (st : S0 w0 L w) : Calls Tryd.prog 42 #[.int .u16 a, .int .u16 b] w (Ret fun v w' => v = .bool (decide (foldV (a + b) = 65535)) ∧ S0 w0 L w') := by
  refine enter [.int .u16 a, .int .u16 b] Tryd.func42 rfl Tryd.ntmps42 rfl ?_
  show WC _ _ _ 12 [] [(0, .int .u16 a), (1, .int .u16 b)] _
  refine WC.seq fun K1146 hK1146 => ?_
  -- region 0
  refine WC.region ?_
  -- R0.0 4 := checksum.go:81 assign
  refine WL.v (by first | exact r_assign (v := .bool _) rfl | exact r_assign rfl) rfl rfl rfl ?_
  refine WL.fin hK1146 (fun _ _ h => h) ?_
  refine WC.seq fun K1147 hK1147 => ?_
  -- region 1
  refine WC.region ?_
  -- R1.0 5 := checksum.go:82 move
  refine WL.v (by first | exact r_move (v := .int _ _) rfl | exact r_move rfl) rfl rfl rfl ?_
  -- R1.1 6 := checksum.go:82 convert
  refine WL.v (by first | exact r_conv ty_cv30_81 rfl (wu64 (by omega) (by omega)) | exact r_conv ty_cv30_81 rfl rfl) rfl rfl rfl ?_
  -- R1.2 7 := checksum.go:82 move
  refine WL.v (by first | exact r_move (v := .int _ _) rfl | exact r_move rfl) rfl rfl rfl ?_
  -- R1.3 8 := checksum.go:82 convert
  refine WL.v (by first | exact r_conv ty_cv30_81 rfl (wu64 (by omega) (by omega)) | exact r_conv ty_cv30_81 rfl rfl) rfl rfl rfl ?_
  -- R1.4 9 := checksum.go:82 binOp
  refine WL.v (by first | exact r_add rfl rfl (wu64 (by omega) (by omega)) | exact r_add rfl rfl rfl) rfl rfl rfl ?_
  -- R1.5 10 := checksum.go:82 call
  refine WL.call (r_call ty_call39 rfl) rfl rfl rfl (fold_ok (a + b) (by omega) (by omega) st) ?_
  rintro _ w ⟨rfl, st⟩
  -- R1.6 11 := checksum.go:82 binOp
  refine WL.v (by exact r_eql rfl rfl rfl) rfl rfl rfl ?_
  -- R1.7 4 := checksum.go:82 assign
  refine WL.v (by first | exact r_assign (v := .bool _) rfl | exact r_assign rfl) rfl rfl rfl ?_
  refine WL.fin hK1147 (fun _ _ h => h) ?_
  refine WC.ret1 Tryd.results42 (fun _ _ h => h) rfl ?_
  exact ⟨_, rfl, rfl, st⟩

theorem vIp_ok (b o : Nat) (x : Nat → Int) (s : SV) (hx : IpR x) (hs : s.ok) (hP : ipP x s.bs.length) (hr : ∀ its w', S0 w0 (its ++ L) w' → CF w' b o 17 (nth (ipL x s.v))) (hsr : ∀ its w', S0 w0 (its ++ L) w' → s.rd w') (st : S0 w0 L w) :
    Calls Tryd.prog 41 #[.pointer (some ⟨b, o, none⟩)] w (Ret fun v w' => v = .bool (decide (foldV (ipSumV x s.bs + x 7) = 65535)) ∧ S0 w0 L w') := by
  refine enter [.pointer (some ⟨b, o, none⟩)] Tryd.func41 rfl Tryd.ntmps41 rfl ?_
  show WC _ _ _ 10 [] [(0, .pointer (some ⟨b, o, none⟩))] _
  refine WC.seq fun K1148 hK1148 => ?_
  -- region 0
  refine WC.region ?_
  -- R0.0 2 := ipv4.go:126 assign
  refine WL.v (by first | exact r_assign (v := .bool _) rfl | exact r_assign rfl) rfl rfl rfl ?_
  refine WL.fin hK1148 (fun _ _ h => h) ?_
  refine WC.seq fun K1149 hK1149 => ?_
  -- region 1 (draws)
  refine WC.quietS st ty_mixed (by kernel_rfl) fun Kq hKq => ?_
  -- R1.0 3 := ipv4.go:127 move
  refine QL.v (fun w st => by first | exact r_move (v := .pointer _) rfl | exact r_move rfl) rfl rfl rfl ?_
  -- R1.1 4 := ipv4.go:127 call
  refine QL.call (val := .int .u16 (ipSumV x s.bs)) (fun w st => r_call ty_call57 rfl) rfl rfl rfl (fun w st => ipSum_ok b o x s hx hs hP hr hsr st) ?_
  -- R1.2 5 := ipv4.go:127 move
  refine QL.v (fun w st => by first | exact r_move (v := .pointer _) rfl | exact r_move rfl) rfl rfl rfl ?_
  -- R1.3 6 := ipv4.go:127 nilCheck
  refine QL.v (fun w st => by exact r_nilCheck rfl) rfl rfl rfl ?_
  -- R1.4 7 := ipv4.go:127 fieldAddr
  refine QL.v (fun w st => by exact r_field ty_fld36_7 rfl) rfl rfl rfl ?_
  -- R1.5 8 := ipv4.go:127 load
  refine QL.v (fun w st => by first | exact r_load1 ty_one30 rfl (hr [] _ st 7 (by decide)) | exact r_load1 ty_one30 rfl (hr _ _ st 7 (by decide)) | exact r_load1 ty_one30 rfl (hr [_] _ st 7 (by decide)) | exact r_load1 ty_one30 rfl (hr [_, _] _ st 7 (by decide)) | exact r_load1 ty_one30 rfl (hr [_, _, _] _ st 7 (by decide))) rfl rfl rfl ?_
  -- R1.6 9 := ipv4.go:127 call
  refine QL.call (val := .bool (decide (foldV (ipSumV x s.bs + x 7) = 65535))) (fun w st => r_call ty_call42 rfl) rfl rfl rfl (fun w st => right_ok _ _ (foldV_rng _) hx.r7 st) ?_
  -- R1.7 2 := ipv4.go:127 assign
  refine QL.v (fun w st => by first | exact r_assign (v := .bool _) rfl | exact r_assign rfl) rfl rfl rfl ?_
  refine QL.wl hKq fun w st => ?_
  refine WL.fin hK1149 (fun _ _ h => h) ?_
  refine WC.ret1 Tryd.results41 (fun _ _ h => h) rfl ?_
  exact ⟨_, rfl, rfl, st⟩

/-- What Verify answers. -/
def verV (f : FD) : Bool := decide (f.k = 0) || (decide (foldV (ipSumV f.x f.s1.bs + f.x 7) = 65535) &&
  (if f.k = 2 then decide (foldV (tcpSumV (tcpPs (f.x 8) (f.x 9) (f.x 10) (f.x 11) (f.x 12) (f.x 13) (f.x 14) (f.x 15) f.s2.bs.length f.s4.bs.length) f.t f.s2.bs f.s4.bs + f.t 7) = 65535)
   else if f.k = 3 then decide (foldV (icSumV f.y f.z f.s3.bs f.s4.bs + f.y 2) = 65535) else true))

set_option maxHeartbeats 4000000 in
theorem ver_ok (b o : Nat) (f : FD) (hf : f.ok) (hP : checkP f) (hr : ∀ its w', S0 w0 (its ++ L) w' → FrAt w' b o f) (st : S0 w0 L w) :
    Calls Tryd.prog 20 #[.pointer (some ⟨b, o, none⟩)] w (Ret fun v w' => v = .bool (verV f) ∧ S0 w0 L w') := by
  have hrc := fun its w' q => (hr its w' q).c
  obtain ⟨k4, _, hP2⟩ := hP
  have hip : f.k ≠ 0 → ipP f.x f.s1.bs.length := fun h => hP2.elim (fun q => absurd q.1 h) (fun q => q.2.2.1)
  have htcp : f.k = 2 → tcpP f.t f.s2.bs.length := fun h => hP2.elim (fun q => by omega) (fun q => q.2.2.2.1.elim (fun r => by omega) (fun r => r.2.2.elim (fun r => r.2.2) (fun r => absurd h r.1)))
  have hic : f.k = 3 → ipP f.z f.s3.bs.length := fun h => hP2.elim (fun q => by omega) (fun q => q.2.2.2.1.elim (fun r => by omega) (fun r => r.2.2.elim (fun r => by omega) (fun r => r.2.2.2.1)))
  have hx1 := hf.xr
  by_cases k0 : f.k = 0
  · skip
    refine enter [.pointer (some ⟨b, o, none⟩)] Tryd.func20 rfl Tryd.ntmps20 rfl ?_
    show WC _ _ _ 59 [] [(0, .pointer (some ⟨b, o, none⟩))] _
    refine WC.seq fun K1150 hK1150 => ?_
    -- region 0
    refine WC.region ?_
    -- R0.0 2 := frame.go:234 assign
    refine WL.v (by first | exact r_assign (v := .bool _) rfl | exact r_assign rfl) rfl rfl rfl ?_
    refine WL.fin hK1150 (fun _ _ h => h) ?_
    refine WC.seq fun K1151 hK1151 => ?_
    refine WC.seq fun K1152 hK1152 => ?_
    -- region 1
    refine WC.region ?_
    -- R1.0 3 := frame.go:235 move
    refine WL.v (by first | exact r_move (v := .pointer _) rfl | exact r_move rfl) rfl rfl rfl ?_
    -- R1.1 4 := frame.go:235 nilCheck
    refine WL.v (by exact r_nilCheck rfl) rfl rfl rfl ?_
    -- R1.2 5 := frame.go:235 fieldAddr
    refine WL.v (by exact r_field ty_fld43_0 rfl) rfl rfl rfl ?_
    -- R1.3 6 := frame.go:235 load
    refine WL.v (by first | exact r_load1 ty_one27 rfl (hrc [] _ st 0 (by decide)) | exact r_load1 ty_one27 rfl (hrc _ _ st 0 (by decide)) | exact r_load1 ty_one27 rfl (hrc [_] _ st 0 (by decide)) | exact r_load1 ty_one27 rfl (hrc [_, _] _ st 0 (by decide)) | exact r_load1 ty_one27 rfl (hrc [_, _, _] _ st 0 (by decide))) rfl rfl rfl ?_
    -- R1.4 7 := frame.go:235 binOp
    refine WL.v (by first | exact r_eql rfl rfl (decide_eq_true (by omega)) | exact r_eql rfl rfl (decide_eq_false (by omega)) | exact r_eql rfl rfl rfl) rfl rfl rfl ?_
    refine WL.fin hK1152 (fun _ _ h => h) ?_
    refine WC.condT rfl rfl ?_
    refine WC.seq fun K1153 hK1153 => ?_
    -- region 2
    refine WC.region ?_
    -- R2.0 2 := frame.go:236 assign
    refine WL.v (by first | exact r_assign (v := .bool _) rfl | exact r_assign rfl) rfl rfl rfl ?_
    refine WL.fin hK1153 (fun _ _ h => h) ?_
    refine WC.ret1 Tryd.results20 (fun _ _ h => h) rfl ?_
    exact ⟨_, rfl, by simp [verV, k0]; rfl, st⟩
  refine enter [.pointer (some ⟨b, o, none⟩)] Tryd.func20 rfl Tryd.ntmps20 rfl ?_
  show WC _ _ _ 59 [] [(0, .pointer (some ⟨b, o, none⟩))] _
  refine WC.seq fun K1154 hK1154 => ?_
  -- region 0
  refine WC.region ?_
  -- R0.0 2 := frame.go:234 assign
  refine WL.v (by first | exact r_assign (v := .bool _) rfl | exact r_assign rfl) rfl rfl rfl ?_
  refine WL.fin hK1154 (fun _ _ h => h) ?_
  refine WC.seq fun K1155 hK1155 => ?_
  refine WC.seq fun K1156 hK1156 => ?_
  -- region 1
  refine WC.region ?_
  -- R1.0 3 := frame.go:235 move
  refine WL.v (by first | exact r_move (v := .pointer _) rfl | exact r_move rfl) rfl rfl rfl ?_
  -- R1.1 4 := frame.go:235 nilCheck
  refine WL.v (by exact r_nilCheck rfl) rfl rfl rfl ?_
  -- R1.2 5 := frame.go:235 fieldAddr
  refine WL.v (by exact r_field ty_fld43_0 rfl) rfl rfl rfl ?_
  -- R1.3 6 := frame.go:235 load
  refine WL.v (by first | exact r_load1 ty_one27 rfl (hrc [] _ st 0 (by decide)) | exact r_load1 ty_one27 rfl (hrc _ _ st 0 (by decide)) | exact r_load1 ty_one27 rfl (hrc [_] _ st 0 (by decide)) | exact r_load1 ty_one27 rfl (hrc [_, _] _ st 0 (by decide)) | exact r_load1 ty_one27 rfl (hrc [_, _, _] _ st 0 (by decide))) rfl rfl rfl ?_
  -- R1.4 7 := frame.go:235 binOp
  refine WL.v (by first | exact r_eql rfl rfl (decide_eq_true (by omega)) | exact r_eql rfl rfl (decide_eq_false (by omega)) | exact r_eql rfl rfl rfl) rfl rfl rfl ?_
  refine WL.fin hK1156 (fun _ _ h => h) ?_
  refine WC.condF rfl rfl ?_
  refine WC.skipF hK1155 (fun _ _ h => h) ?_
  refine WC.seq fun K1157 hK1157 => ?_
  refine WC.seq fun K1158 hK1158 => ?_
  -- region 3
  refine WC.region ?_
  -- R3.0 8 := frame.go:238 move
  refine WL.v (by first | exact r_move (v := .pointer _) rfl | exact r_move rfl) rfl rfl rfl ?_
  -- R3.1 9 := frame.go:238 nilCheck
  refine WL.v (by exact r_nilCheck rfl) rfl rfl rfl ?_
  -- R3.2 10 := frame.go:238 fieldAddr
  refine WL.v (by exact r_field ty_fld43_2 rfl) rfl rfl rfl ?_
  -- R3.3 11 := frame.go:238 call
  refine WL.call (r_call ty_call41 rfl) rfl rfl rfl (vIp_ok b (o + 14) f.x f.s1 hf.xr hf.o1 (hip k0) (fun its w' q => (hr its w' q).ip) (fun its w' q => (hr its w' q).rd.d1) st) ?_
  rintro _ w ⟨rfl, st⟩
  obtain ⟨tb, htb⟩ : ∃ tb, tb = decide (foldV (ipSumV f.x f.s1.bs + f.x 7) = 65535) := ⟨_, rfl⟩
  rw [← htb]
  -- R3.4 12 := frame.go:238 unOp
  refine WL.v (by first | exact r_notT rfl | exact r_notF rfl | exact r_not rfl) rfl rfl rfl ?_
  refine WL.fin hK1158 (fun _ _ h => h) ?_
  rcases tb with _ | _
  · skip
    refine WC.condT rfl rfl ?_
    refine WC.seq fun K1159 hK1159 => ?_
    -- region 4
    refine WC.region ?_
    -- R4.0 2 := frame.go:239 assign
    refine WL.v (by first | exact r_assign (v := .bool _) rfl | exact r_assign rfl) rfl rfl rfl ?_
    refine WL.fin hK1159 (fun _ _ h => h) ?_
    refine WC.ret1 Tryd.results20 (fun _ _ h => h) rfl ?_
    exact ⟨_, rfl, by unfold verV; rw [← htb]; simp [k0]; rfl, st⟩
  by_cases k2 : f.k = 2
  · skip
    refine WC.condF rfl rfl ?_
    refine WC.skipF hK1157 (fun _ _ h => h) ?_
    refine WC.seq fun K1160 hK1160 => ?_
    refine WC.seq fun K1161 hK1161 => ?_
    -- region 5
    refine WC.region ?_
    -- R5.0 13 := frame.go:241 move
    refine WL.v (by first | exact r_move (v := .pointer _) rfl | exact r_move rfl) rfl rfl rfl ?_
    -- R5.1 14 := frame.go:241 nilCheck
    refine WL.v (by exact r_nilCheck rfl) rfl rfl rfl ?_
    -- R5.2 15 := frame.go:241 fieldAddr
    refine WL.v (by exact r_field ty_fld43_0 rfl) rfl rfl rfl ?_
    -- R5.3 16 := frame.go:241 load
    refine WL.v (by first | exact r_load1 ty_one27 rfl (hrc [] _ st 0 (by decide)) | exact r_load1 ty_one27 rfl (hrc _ _ st 0 (by decide)) | exact r_load1 ty_one27 rfl (hrc [_] _ st 0 (by decide)) | exact r_load1 ty_one27 rfl (hrc [_, _] _ st 0 (by decide)) | exact r_load1 ty_one27 rfl (hrc [_, _, _] _ st 0 (by decide))) rfl rfl rfl ?_
    refine WL.fin hK1161 (fun _ _ h => h) ?_
    refine WC.block ?_
    refine WC.seq fun K1162 hK1162 => ?_
    -- region 6
    refine WC.region ?_
    -- R6.0 18 := frame.go:242 binOp
    refine WL.v (by first | exact r_eql rfl rfl (decide_eq_true (by omega)) | exact r_eql rfl rfl (decide_eq_false (by omega)) | exact r_eql rfl rfl rfl) rfl rfl rfl ?_
    -- R6.1 17 := frame.go:242 assign
    refine WL.v (by first | exact r_assign (v := .bool _) rfl | exact r_assign rfl) rfl rfl rfl ?_
    refine WL.fin hK1162 (fun _ _ h => h) ?_
    refine WC.condT rfl rfl ?_
    refine WC.seq fun K1163 hK1163 => ?_
    -- region 7 (draws)
    refine WC.quietS st ty_mixed (by kernel_rfl) fun Kq hKq => ?_
    -- R7.0 19 := frame.go:243 move
    refine QL.v (fun w st => by first | exact r_move (v := .pointer _) rfl | exact r_move rfl) rfl rfl rfl ?_
    -- R7.1 20 := frame.go:243 nilCheck
    refine QL.v (fun w st => by exact r_nilCheck rfl) rfl rfl rfl ?_
    -- R7.2 21 := frame.go:243 fieldAddr
    refine QL.v (fun w st => by exact r_field ty_fld43_2 rfl) rfl rfl rfl ?_
    -- R7.3 22 := frame.go:243 fieldAddr
    refine QL.v (fun w st => by exact r_field ty_fld36_8 rfl) rfl rfl rfl ?_
    -- R7.4 23 := frame.go:243 load
    refine QL.v (fun w st => by first | exact r_loadL (vs := [_, _, _, _]) ty_agg34 rfl ⟨hrc [] _ st 22 (by decide), hrc [] _ st 23 (by decide), hrc [] _ st 24 (by decide), hrc [] _ st 25 (by decide), trivial⟩ | exact r_loadL (vs := [_, _, _, _]) ty_agg34 rfl ⟨hrc _ _ st 22 (by decide), hrc _ _ st 23 (by decide), hrc _ _ st 24 (by decide), hrc _ _ st 25 (by decide), trivial⟩ | exact r_loadL (vs := [_, _, _, _]) ty_agg34 rfl ⟨hrc [_] _ st 22 (by decide), hrc [_] _ st 23 (by decide), hrc [_] _ st 24 (by decide), hrc [_] _ st 25 (by decide), trivial⟩ | exact r_loadL (vs := [_, _, _, _]) ty_agg34 rfl ⟨hrc [_, _] _ st 22 (by decide), hrc [_, _] _ st 23 (by decide), hrc [_, _] _ st 24 (by decide), hrc [_, _] _ st 25 (by decide), trivial⟩ | exact r_loadL (vs := [_, _, _, _]) ty_agg34 rfl ⟨hrc [_, _, _] _ st 22 (by decide), hrc [_, _, _] _ st 23 (by decide), hrc [_, _, _] _ st 24 (by decide), hrc [_, _, _] _ st 25 (by decide), trivial⟩) rfl rfl rfl ?_
    -- R7.5 24 := frame.go:243 move
    refine QL.v (fun w st => by first | exact r_move (v := .pointer _) rfl | exact r_move rfl) rfl rfl rfl ?_
    -- R7.6 25 := frame.go:243 nilCheck
    refine QL.v (fun w st => by exact r_nilCheck rfl) rfl rfl rfl ?_
    -- R7.7 26 := frame.go:243 fieldAddr
    refine QL.v (fun w st => by exact r_field ty_fld43_2 rfl) rfl rfl rfl ?_
    -- R7.8 27 := frame.go:243 fieldAddr
    refine QL.v (fun w st => by exact r_field ty_fld36_9 rfl) rfl rfl rfl ?_
    -- R7.9 28 := frame.go:243 load
    refine QL.v (fun w st => by first | exact r_loadL (vs := [_, _, _, _]) ty_agg34 rfl ⟨hrc [] _ st 26 (by decide), hrc [] _ st 27 (by decide), hrc [] _ st 28 (by decide), hrc [] _ st 29 (by decide), trivial⟩ | exact r_loadL (vs := [_, _, _, _]) ty_agg34 rfl ⟨hrc _ _ st 26 (by decide), hrc _ _ st 27 (by decide), hrc _ _ st 28 (by decide), hrc _ _ st 29 (by decide), trivial⟩ | exact r_loadL (vs := [_, _, _, _]) ty_agg34 rfl ⟨hrc [_] _ st 26 (by decide), hrc [_] _ st 27 (by decide), hrc [_] _ st 28 (by decide), hrc [_] _ st 29 (by decide), trivial⟩ | exact r_loadL (vs := [_, _, _, _]) ty_agg34 rfl ⟨hrc [_, _] _ st 26 (by decide), hrc [_, _] _ st 27 (by decide), hrc [_, _] _ st 28 (by decide), hrc [_, _] _ st 29 (by decide), trivial⟩ | exact r_loadL (vs := [_, _, _, _]) ty_agg34 rfl ⟨hrc [_, _, _] _ st 26 (by decide), hrc [_, _, _] _ st 27 (by decide), hrc [_, _, _] _ st 28 (by decide), hrc [_, _, _] _ st 29 (by decide), trivial⟩) rfl rfl rfl ?_
    -- R7.10 29 := frame.go:243 move
    refine QL.v (fun w st => by first | exact r_move (v := .pointer _) rfl | exact r_move rfl) rfl rfl rfl ?_
    -- R7.11 30 := frame.go:243 nilCheck
    refine QL.v (fun w st => by exact r_nilCheck rfl) rfl rfl rfl ?_
    -- R7.12 31 := frame.go:243 fieldAddr
    refine QL.v (fun w st => by exact r_field ty_fld43_3 rfl) rfl rfl rfl ?_
    -- R7.13 32 := frame.go:243 move
    refine QL.v (fun w st => by first | exact r_move (v := .pointer _) rfl | exact r_move rfl) rfl rfl rfl ?_
    -- R7.14 33 := frame.go:243 nilCheck
    refine QL.v (fun w st => by exact r_nilCheck rfl) rfl rfl rfl ?_
    -- R7.15 34 := frame.go:243 fieldAddr
    refine QL.v (fun w st => by exact r_field ty_fld43_5 rfl) rfl rfl rfl ?_
    -- R7.16 35 := frame.go:243 load
    refine QL.v (fun w st => by first | exact r_load1 ty_one25 rfl (hrc [] _ st 62 (by decide)) | exact r_load1 ty_one25 rfl (hrc _ _ st 62 (by decide)) | exact r_load1 ty_one25 rfl (hrc [_] _ st 62 (by decide)) | exact r_load1 ty_one25 rfl (hrc [_, _] _ st 62 (by decide)) | exact r_load1 ty_one25 rfl (hrc [_, _, _] _ st 62 (by decide))) rfl rfl rfl ?_
    -- R7.17 36 := frame.go:243 call
    refine QL.call (val := .int .u16 (tcpSumV (tcpPs (f.x 8) (f.x 9) (f.x 10) (f.x 11) (f.x 12) (f.x 13) (f.x 14) (f.x 15) f.s2.bs.length f.s4.bs.length) f.t f.s2.bs f.s4.bs)) (fun w st => r_call ty_call43 rfl) rfl rfl rfl (fun w st => tcpSum_ok (f.x 8) (f.x 9) (f.x 10) (f.x 11) (f.x 12) (f.x 13) (f.x 14) (f.x 15) hx1.r8 hx1.r9 hx1.r10 hx1.r11 hx1.r12 hx1.r13 hx1.r14 hx1.r15 b (o + 31) f.t f.s2 f.s4 hf.tr hf.o2 hf.o4 hf.l4 (htcp k2) (fun its w' q => (hr its w' q).tcp) (fun its w' q => (hr its w' q).rd.d2) (fun its w' q => (hr its w' q).rd.d4) st) ?_
    -- R7.18 37 := frame.go:243 move
    refine QL.v (fun w st => by first | exact r_move (v := .pointer _) rfl | exact r_move rfl) rfl rfl rfl ?_
    -- R7.19 38 := frame.go:243 nilCheck
    refine QL.v (fun w st => by exact r_nilCheck rfl) rfl rfl rfl ?_
    -- R7.20 39 := frame.go:243 fieldAddr
    refine QL.v (fun w st => by exact r_field ty_fld43_3 rfl) rfl rfl rfl ?_
    -- R7.21 40 := frame.go:243 fieldAddr
    refine QL.v (fun w st => by exact r_field ty_fld39_7 rfl) rfl rfl rfl ?_
    -- R7.22 41 := frame.go:243 load
    refine QL.v (fun w st => by first | exact r_load1 ty_one30 rfl (hrc [] _ st 38 (by decide)) | exact r_load1 ty_one30 rfl (hrc _ _ st 38 (by decide)) | exact r_load1 ty_one30 rfl (hrc [_] _ st 38 (by decide)) | exact r_load1 ty_one30 rfl (hrc [_, _] _ st 38 (by decide)) | exact r_load1 ty_one30 rfl (hrc [_, _, _] _ st 38 (by decide))) rfl rfl rfl ?_
    -- R7.23 42 := frame.go:243 call
    refine QL.call (val := .bool (decide (foldV (tcpSumV (tcpPs (f.x 8) (f.x 9) (f.x 10) (f.x 11) (f.x 12) (f.x 13) (f.x 14) (f.x 15) f.s2.bs.length f.s4.bs.length) f.t f.s2.bs f.s4.bs + f.t 7) = 65535))) (fun w st => r_call ty_call42 rfl) rfl rfl rfl (fun w st => right_ok _ _ (foldV_rng _) hf.tr.r7 st) ?_
    -- R7.24 2 := frame.go:243 assign
    refine QL.v (fun w st => by first | exact r_assign (v := .bool _) rfl | exact r_assign rfl) rfl rfl rfl ?_
    refine QL.wl hKq fun w st => ?_
    refine WL.fin hK1163 (fun _ _ h => h) ?_
    refine WC.ret1 Tryd.results20 (fun _ _ h => h) rfl ?_
    exact ⟨_, rfl, by unfold verV; rw [← htb, if_pos k2]; simp [k0]; rfl, st⟩
  by_cases k3 : f.k = 3
  · skip
    refine WC.condF rfl rfl ?_
    refine WC.skipF hK1157 (fun _ _ h => h) ?_
    refine WC.seq fun K1164 hK1164 => ?_
    refine WC.seq fun K1165 hK1165 => ?_
    -- region 5
    refine WC.region ?_
    -- R5.0 13 := frame.go:241 move
    refine WL.v (by first | exact r_move (v := .pointer _) rfl | exact r_move rfl) rfl rfl rfl ?_
    -- R5.1 14 := frame.go:241 nilCheck
    refine WL.v (by exact r_nilCheck rfl) rfl rfl rfl ?_
    -- R5.2 15 := frame.go:241 fieldAddr
    refine WL.v (by exact r_field ty_fld43_0 rfl) rfl rfl rfl ?_
    -- R5.3 16 := frame.go:241 load
    refine WL.v (by first | exact r_load1 ty_one27 rfl (hrc [] _ st 0 (by decide)) | exact r_load1 ty_one27 rfl (hrc _ _ st 0 (by decide)) | exact r_load1 ty_one27 rfl (hrc [_] _ st 0 (by decide)) | exact r_load1 ty_one27 rfl (hrc [_, _] _ st 0 (by decide)) | exact r_load1 ty_one27 rfl (hrc [_, _, _] _ st 0 (by decide))) rfl rfl rfl ?_
    refine WL.fin hK1165 (fun _ _ h => h) ?_
    refine WC.block ?_
    refine WC.seq fun K1166 hK1166 => ?_
    -- region 6
    refine WC.region ?_
    -- R6.0 18 := frame.go:242 binOp
    refine WL.v (by first | exact r_eql rfl rfl (decide_eq_true (by omega)) | exact r_eql rfl rfl (decide_eq_false (by omega)) | exact r_eql rfl rfl rfl) rfl rfl rfl ?_
    -- R6.1 17 := frame.go:242 assign
    refine WL.v (by first | exact r_assign (v := .bool _) rfl | exact r_assign rfl) rfl rfl rfl ?_
    refine WL.fin hK1166 (fun _ _ h => h) ?_
    refine WC.condF rfl rfl ?_
    refine WC.seq fun K1167 hK1167 => ?_
    -- region 8
    refine WC.region ?_
    -- R8.0 44 := frame.go:244 binOp
    refine WL.v (by first | exact r_eql rfl rfl (decide_eq_true (by omega)) | exact r_eql rfl rfl (decide_eq_false (by omega)) | exact r_eql rfl rfl rfl) rfl rfl rfl ?_
    -- R8.1 43 := frame.go:244 assign
    refine WL.v (by first | exact r_assign (v := .bool _) rfl | exact r_assign rfl) rfl rfl rfl ?_
    refine WL.fin hK1167 (fun _ _ h => h) ?_
    refine WC.condT rfl rfl ?_
    refine WC.seq fun K1168 hK1168 => ?_
    -- region 9 (draws)
    refine WC.quietS st ty_mixed (by kernel_rfl) fun Kq hKq => ?_
    -- R9.0 45 := frame.go:245 move
    refine QL.v (fun w st => by first | exact r_move (v := .pointer _) rfl | exact r_move rfl) rfl rfl rfl ?_
    -- R9.1 46 := frame.go:245 nilCheck
    refine QL.v (fun w st => by exact r_nilCheck rfl) rfl rfl rfl ?_
    -- R9.2 47 := frame.go:245 fieldAddr
    refine QL.v (fun w st => by exact r_field ty_fld43_4 rfl) rfl rfl rfl ?_
    -- R9.3 48 := frame.go:245 move
    refine QL.v (fun w st => by first | exact r_move (v := .pointer _) rfl | exact r_move rfl) rfl rfl rfl ?_
    -- R9.4 49 := frame.go:245 nilCheck
    refine QL.v (fun w st => by exact r_nilCheck rfl) rfl rfl rfl ?_
    -- R9.5 50 := frame.go:245 fieldAddr
    refine QL.v (fun w st => by exact r_field ty_fld43_5 rfl) rfl rfl rfl ?_
    -- R9.6 51 := frame.go:245 load
    refine QL.v (fun w st => by first | exact r_load1 ty_one25 rfl (hrc [] _ st 62 (by decide)) | exact r_load1 ty_one25 rfl (hrc _ _ st 62 (by decide)) | exact r_load1 ty_one25 rfl (hrc [_] _ st 62 (by decide)) | exact r_load1 ty_one25 rfl (hrc [_, _] _ st 62 (by decide)) | exact r_load1 ty_one25 rfl (hrc [_, _, _] _ st 62 (by decide))) rfl rfl rfl ?_
    -- R9.7 52 := frame.go:245 call
    refine QL.call (val := .int .u16 (icSumV f.y f.z f.s3.bs f.s4.bs)) (fun w st => r_call ty_call44 rfl) rfl rfl rfl (fun w st => icSum_ok b (o + 41) f.y f.z f.s3 f.s4 hf.yr hf.zr hf.o3 hf.o4 hf.l4 (hic k3) (fun its w' q => (hr its w' q).ic) (fun its w' q => (hr its w' q).rd.d3) (fun its w' q => (hr its w' q).rd.d4) st) ?_
    -- R9.8 53 := frame.go:245 move
    refine QL.v (fun w st => by first | exact r_move (v := .pointer _) rfl | exact r_move rfl) rfl rfl rfl ?_
    -- R9.9 54 := frame.go:245 nilCheck
    refine QL.v (fun w st => by exact r_nilCheck rfl) rfl rfl rfl ?_
    -- R9.10 55 := frame.go:245 fieldAddr
    refine QL.v (fun w st => by exact r_field ty_fld43_4 rfl) rfl rfl rfl ?_
    -- R9.11 56 := frame.go:245 fieldAddr
    refine QL.v (fun w st => by exact r_field ty_fld41_2 rfl) rfl rfl rfl ?_
    -- R9.12 57 := frame.go:245 load
    refine QL.v (fun w st => by first | exact r_load1 ty_one30 rfl (hrc [] _ st 43 (by decide)) | exact r_load1 ty_one30 rfl (hrc _ _ st 43 (by decide)) | exact r_load1 ty_one30 rfl (hrc [_] _ st 43 (by decide)) | exact r_load1 ty_one30 rfl (hrc [_, _] _ st 43 (by decide)) | exact r_load1 ty_one30 rfl (hrc [_, _, _] _ st 43 (by decide))) rfl rfl rfl ?_
    -- R9.13 58 := frame.go:245 call
    refine QL.call (val := .bool (decide (foldV (icSumV f.y f.z f.s3.bs f.s4.bs + f.y 2) = 65535))) (fun w st => r_call ty_call42 rfl) rfl rfl rfl (fun w st => right_ok _ _ (foldV_rng _) hf.yr.r2 st) ?_
    -- R9.14 2 := frame.go:245 assign
    refine QL.v (fun w st => by first | exact r_assign (v := .bool _) rfl | exact r_assign rfl) rfl rfl rfl ?_
    refine QL.wl hKq fun w st => ?_
    refine WL.fin hK1168 (fun _ _ h => h) ?_
    refine WC.ret1 Tryd.results20 (fun _ _ h => h) rfl ?_
    exact ⟨_, rfl, by unfold verV; rw [← htb, if_neg k2, if_pos k3]; simp [k0]; rfl, st⟩
  refine WC.condF rfl rfl ?_
  refine WC.skipF hK1157 (fun _ _ h => h) ?_
  refine WC.seq fun K1169 hK1169 => ?_
  refine WC.seq fun K1170 hK1170 => ?_
  -- region 5
  refine WC.region ?_
  -- R5.0 13 := frame.go:241 move
  refine WL.v (by first | exact r_move (v := .pointer _) rfl | exact r_move rfl) rfl rfl rfl ?_
  -- R5.1 14 := frame.go:241 nilCheck
  refine WL.v (by exact r_nilCheck rfl) rfl rfl rfl ?_
  -- R5.2 15 := frame.go:241 fieldAddr
  refine WL.v (by exact r_field ty_fld43_0 rfl) rfl rfl rfl ?_
  -- R5.3 16 := frame.go:241 load
  refine WL.v (by first | exact r_load1 ty_one27 rfl (hrc [] _ st 0 (by decide)) | exact r_load1 ty_one27 rfl (hrc _ _ st 0 (by decide)) | exact r_load1 ty_one27 rfl (hrc [_] _ st 0 (by decide)) | exact r_load1 ty_one27 rfl (hrc [_, _] _ st 0 (by decide)) | exact r_load1 ty_one27 rfl (hrc [_, _, _] _ st 0 (by decide))) rfl rfl rfl ?_
  refine WL.fin hK1170 (fun _ _ h => h) ?_
  refine WC.block ?_
  refine WC.seq fun K1171 hK1171 => ?_
  -- region 6
  refine WC.region ?_
  -- R6.0 18 := frame.go:242 binOp
  refine WL.v (by first | exact r_eql rfl rfl (decide_eq_true (by omega)) | exact r_eql rfl rfl (decide_eq_false (by omega)) | exact r_eql rfl rfl rfl) rfl rfl rfl ?_
  -- R6.1 17 := frame.go:242 assign
  refine WL.v (by first | exact r_assign (v := .bool _) rfl | exact r_assign rfl) rfl rfl rfl ?_
  refine WL.fin hK1171 (fun _ _ h => h) ?_
  refine WC.condF rfl rfl ?_
  refine WC.seq fun K1172 hK1172 => ?_
  -- region 8
  refine WC.region ?_
  -- R8.0 44 := frame.go:244 binOp
  refine WL.v (by first | exact r_eql rfl rfl (decide_eq_true (by omega)) | exact r_eql rfl rfl (decide_eq_false (by omega)) | exact r_eql rfl rfl rfl) rfl rfl rfl ?_
  -- R8.1 43 := frame.go:244 assign
  refine WL.v (by first | exact r_assign (v := .bool _) rfl | exact r_assign rfl) rfl rfl rfl ?_
  refine WL.fin hK1172 (fun _ _ h => h) ?_
  refine WC.condF rfl rfl ?_
  refine WC.skipF hK1169 (fun _ _ h => h) ?_
  refine WC.seq fun K1173 hK1173 => ?_
  -- region 10
  refine WC.region ?_
  -- R10.0 2 := frame.go:247 assign
  refine WL.v (by first | exact r_assign (v := .bool _) rfl | exact r_assign rfl) rfl rfl rfl ?_
  refine WL.fin hK1173 (fun _ _ h => h) ?_
  refine WC.ret1 Tryd.results20 (fun _ _ h => h) rfl ?_
  exact ⟨_, rfl, by unfold verV; rw [← htb, if_neg k2, if_neg k3]; simp [k0]; rfl, st⟩
end Go.Proofs.Qxb6500841aDoor

