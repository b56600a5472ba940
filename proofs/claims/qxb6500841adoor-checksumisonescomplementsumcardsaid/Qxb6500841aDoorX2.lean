import Derived.Test.Qxb6500841aDoorX1
set_option linter.unusedVariables false
set_option linter.unusedSimpArgs false
namespace Go.Proofs.Qxb6500841aDoor
open Go.RowKit Go.E1 Go.Wire
variable {w0 : World} {L : List HI} {w : World}

theorem fold_ok (x : Int) (h0 : 0 ≤ x) (h1 : x ≤ 18446744073709551615) (st : S0 w0 L w) : Calls Tryd.prog 39 #[.int .u64 x] w (Ret fun v w' => v = .int .u16 (foldV x) ∧ S0 w0 L w') := by
  refine enter [.int .u64 x] Tryd.func39 rfl Tryd.ntmps39 rfl ?_
  show WC _ _ _ 13 [] [(0, .int .u64 x)] _
  refine WC.seq fun K13 hK13 => ?_
  -- region 0
  refine WC.region ?_
  -- R0.0 2 := checksum.go:17 assign
  refine WL.v (by first | exact r_assign (v := .int _ _) rfl | exact r_assign rfl) rfl rfl rfl ?_
  refine WL.fin hK13 (fun _ _ h => h) ?_
  refine WC.seq fun K14 hK14 => ?_
  refine WC.block ?_
  refine WC.loop (ι := Int) (fun y => [(0, .int .u64 y)]) (fun y w' => S0 w0 L w' ∧ 0 ≤ y ∧ y ≤ 18446744073709551615 ∧ foldV y = foldV x) (fun y => y.toNat) x ⟨st, h0, h1, rfl⟩ ?_ ?_
  · skip
    repeat (first | exact sub_nil _ | refine sub_cons rfl rfl ?_)
  rintro y w ⟨st, hy0, hy1, hf⟩ K1 hK1
  by_cases hb : y / 65536 = 0
  · skip
    refine WC.seq fun K15 hK15 => ?_
    refine WC.seq fun K16 hK16 => ?_
    -- region 1
    refine WC.region ?_
    -- R1.0 3 := checksum.go:18 move
    refine WL.v (by first | exact r_move (v := .int _ _) rfl | exact r_move rfl) rfl rfl rfl ?_
    -- R1.1 4 := checksum.go:18 binOp
    refine WL.v (by exact r_shr (r := y / 65536) rfl rfl (by omega) (shr_u 16)) rfl rfl rfl ?_
    -- R1.2 5 := checksum.go:18 binOp
    refine WL.v (by first | exact r_neq rfl rfl (decide_eq_true (by omega)) | exact r_neq rfl rfl (decide_eq_false (by omega)) | exact r_neq rfl rfl rfl) rfl rfl rfl ?_
    refine WL.fin hK16 (fun _ _ h => h) ?_
    refine WC.condF rfl rfl ?_
    refine WC.exitF hK14 (fun _ _ h => h) ?_
    refine WC.seq fun K17 hK17 => ?_
    -- region 3
    refine WC.region ?_
    -- R3.0 11 := checksum.go:21 move
    refine WL.v (by first | exact r_move (v := .int _ _) rfl | exact r_move rfl) rfl rfl rfl ?_
    -- R3.1 12 := checksum.go:21 convert
    refine WL.v (by first | exact r_conv ty_cv81_30 rfl (wu16 (by omega) (by omega)) | exact r_conv ty_cv81_30 rfl rfl) rfl rfl rfl ?_
    -- R3.2 2 := checksum.go:21 assign
    refine WL.v (by first | exact r_assign (v := .int _ _) rfl | exact r_assign rfl) rfl rfl rfl ?_
    refine WL.fin hK17 (fun _ _ h => h) ?_
    refine WC.ret1 Tryd.results39 (fun _ _ h => h) rfl ?_
    exact ⟨_, rfl, congrArg (Value.int .u16) ((foldV_small hy0 (by omega)).symm.trans hf), st⟩
  · skip
    refine WC.seq fun K18 hK18 => ?_
    refine WC.seq fun K19 hK19 => ?_
    -- region 1
    refine WC.region ?_
    -- R1.0 3 := checksum.go:18 move
    refine WL.v (by first | exact r_move (v := .int _ _) rfl | exact r_move rfl) rfl rfl rfl ?_
    -- R1.1 4 := checksum.go:18 binOp
    refine WL.v (by exact r_shr (r := y / 65536) rfl rfl (by omega) (shr_u 16)) rfl rfl rfl ?_
    -- R1.2 5 := checksum.go:18 binOp
    refine WL.v (by first | exact r_neq rfl rfl (decide_eq_true (by omega)) | exact r_neq rfl rfl (decide_eq_false (by omega)) | exact r_neq rfl rfl rfl) rfl rfl rfl ?_
    refine WL.fin hK19 (fun _ _ h => h) ?_
    refine WC.condT rfl rfl ?_
    refine WC.skipF hK18 (fun _ _ h => h) ?_
    refine WC.block ?_
    -- region 2
    refine WC.region ?_
    -- R2.0 6 := checksum.go:19 move
    refine WL.v (by first | exact r_move (v := .int _ _) rfl | exact r_move rfl) rfl rfl rfl ?_
    -- R2.1 7 := checksum.go:19 binOp
    refine WL.v (by exact r_shr (r := y / 65536) rfl rfl (by omega) (shr_u 16)) rfl rfl rfl ?_
    -- R2.2 8 := checksum.go:19 move
    refine WL.v (by first | exact r_move (v := .int _ _) rfl | exact r_move rfl) rfl rfl rfl ?_
    -- R2.3 9 := checksum.go:19 binOp
    refine WL.v (by exact r_and (r := y % 65536) rfl rfl ((congrArg IntKind.u64.wrap (and_u 64 16 hy0 (by omega) (by omega))).trans (wu64 (by omega) (by omega)))) rfl rfl rfl ?_
    -- R2.4 10 := checksum.go:19 binOp
    refine WL.v (by first | exact r_add rfl rfl (wu64 (by omega) (by omega)) | exact r_add rfl rfl rfl) rfl rfl rfl ?_
    -- R2.5 0 := checksum.go:19 assign
    refine WL.v (by first | exact r_assign (v := .int _ _) rfl | exact r_assign rfl) rfl rfl rfl ?_
    refine WL.next hK1 (fun _ _ h => h) (y / 65536 + y % 65536) ⟨st, by omega, by omega, (foldV_step hy0).trans hf⟩ (by show (y / 65536 + y % 65536).toNat < y.toNat; omega) (by repeat (first | exact sub_nil _ | refine sub_cons rfl rfl ?_))

set_option maxHeartbeats 4000000 in
theorem sum_ok (x : Int) (s : SV) (h0 : 0 ≤ x) (h1 : x < 65536) (hs : s.ok) (hl : s.bs.length ≤ 1000000000) (hrd : ∀ its w', S0 w0 (its ++ L) w' → s.rd w') (st : S0 w0 L w) :
    Calls Tryd.prog 16 #[.int .u16 x, .slice s.a s.bs.length s.c] w (Ret fun v w' => v = .int .u16 (foldV (x + wsum s.bs)) ∧ S0 w0 L w') := by
  obtain ⟨a, c, b, o, bs⟩ := s
  obtain ⟨hle, hcap, hadr, hbyt⟩ := hs
  simp only [SV.rd] at hle hcap hadr hbyt hl hrd ⊢
  have hba : ∀ k, k ≤ bs.length → ∀ its w', S0 w0 (its ++ L) w' → BA w' b (o + k) (bs.drop k) := fun k hk its w' s' i hi => by
    simp only [List.length_drop] at hi
    rw [getD_drop, show o + k + i = o + (k + i) by omega]
    exact hrd its w' s' (k + i) (by omega)
  have hat : ∀ i, i < bs.length → 0 ≤ bs.getD i 0 ∧ bs.getD i 0 < 256 := fun i hi => hbyt _ (getD_mem hi)
  refine enter [.int .u16 x, .slice a bs.length c] Tryd.func16 rfl Tryd.ntmps16 rfl ?_
  show WC _ _ _ 59 [] [(0, .int .u16 x), (1, .slice a bs.length c)] _
  refine WC.seq fun K20 hK20 => ?_
  -- region 0
  refine WC.region ?_
  -- R0.0 4 := checksum.go:29 assign
  refine WL.v (by first | exact r_assign (v := .int _ _) rfl | exact r_assign rfl) rfl rfl rfl ?_
  refine WL.fin hK20 (fun _ _ h => h) ?_
  refine WC.seq fun K21 hK21 => ?_
  -- region 1
  refine WC.region ?_
  -- R1.0 6 := checksum.go:30 move
  refine WL.v (by first | exact r_move (v := .int _ _) rfl | exact r_move rfl) rfl rfl rfl ?_
  -- R1.1 7 := checksum.go:30 convert
  refine WL.v (by first | exact r_conv ty_cv30_81 rfl (wu64 (by omega) (by omega)) | exact r_conv ty_cv30_81 rfl rfl) rfl rfl rfl ?_
  -- R1.2 5 := checksum.go:30 assign
  refine WL.v (by first | exact r_assign (v := .int _ _) rfl | exact r_assign rfl) rfl rfl rfl ?_
  refine WL.fin hK21 (fun _ _ h => h) ?_
  refine WC.seq fun K22 hK22 => ?_
  refine WC.block ?_
  refine WC.loop (ι := Nat × Option Addr × Nat × Int) (fun z => [(1, .slice z.2.1 (bs.length - z.1) z.2.2.1), (5, .int .u64 z.2.2.2)])
    (fun z w' => S0 w0 L w' ∧ z.1 ≤ bs.length ∧ z.1 % 2 = 0 ∧ bs.length - z.1 ≤ z.2.2.1 ∧ z.2.2.1 ≤ 9223372036854775807 ∧ (0 < bs.length - z.1 → z.2.1 = some ⟨b, o + z.1, none⟩) ∧ Acc x bs z.1 z.2.2.2) (fun z => bs.length - z.1) (0, a, c, x)
    ⟨st, Nat.zero_le _, rfl, by simpa using hle, hcap, fun h => hadr (by simpa using h), Acc.start bs h0 h1⟩ ?_ ?_
  · skip
    repeat (first | exact sub_nil _ | refine sub_cons rfl rfl ?_)
  rintro ⟨k, a', c', acc⟩ w ⟨st, hk, hk2, hle', hcap', hadr', hA⟩ K1 hK1
  simp only at st hk hk2 hle' hcap' hadr' hA hK1 ⊢
  have hA1 := hA.lo
  have hA2 := hA.hi
  by_cases h8 : 8 ≤ bs.length - k
  · obtain rfl := hadr' (by omega)
    have g0 := hat k (by omega)
    have g1 := hat (k + 1) (by omega)
    have g2 := hat (k + 2) (by omega)
    have g3 := hat (k + 3) (by omega)
    have g4 := hat (k + 4) (by omega)
    have g5 := hat (k + 5) (by omega)
    have g6 := hat (k + 6) (by omega)
    have g7 := hat (k + 7) (by omega)
    refine WC.seq fun K23 hK23 => ?_
    refine WC.seq fun K24 hK24 => ?_
    -- region 2
    refine WC.region ?_
    -- R2.0 8 := checksum.go:31 move
    refine WL.v (by first | exact r_move (v := .slice _ _ _) rfl | exact r_move rfl) rfl rfl rfl ?_
    -- R2.1 9 := checksum.go:31 call
    refine WL.v (by exact r_len ty_usl25 rfl) rfl rfl rfl ?_
    -- R2.2 10 := checksum.go:31 binOp
    refine WL.v (by first | exact r_geq rfl rfl (decide_eq_true (by omega)) | exact r_geq rfl rfl (decide_eq_false (by omega)) | exact r_geq rfl rfl rfl) rfl rfl rfl ?_
    refine WL.fin hK24 (fun _ _ h => h) ?_
    refine WC.condT rfl rfl ?_
    refine WC.skipF hK23 (fun _ _ h => h) ?_
    refine WC.block ?_
    refine WC.seq fun K25 hK25 => ?_
    -- region 3 (draws)
    refine WC.quietS st ty_mixed (by kernel_rfl) fun Kq hKq => ?_
    -- R3.0 11 := checksum.go:32 move
    refine QL.v (fun w st => by first | exact r_move (v := .int _ _) rfl | exact r_move rfl) rfl rfl rfl ?_
    -- R3.1 12 := checksum.go:32 load
    refine QL.v (fun w st => by exact r_loadL (vs := []) ty_agg83 rfl trivial) rfl rfl rfl ?_
    -- R3.2 13 := checksum.go:32 move
    refine QL.v (fun w st => by first | exact r_move (v := .slice _ _ _) rfl | exact r_move rfl) rfl rfl rfl ?_
    -- R3.3 14 := checksum.go:32 call
    refine QL.call (val := .int .u32 (bs.getD k 0 * 16777216 + bs.getD (k + 1) 0 * 65536 + bs.getD (k + 2) 0 * 256 + bs.getD (k + 3) 0)) (fun w st => r_call ty_call37 rfl) rfl rfl rfl (fun w st => by
      have := u32_ok b (o + k) (bs.length - k) c' (bs.drop k) (by simp; omega) (by rw [getD_drop]; exact g0) (by rw [getD_drop]; exact g1) (by rw [getD_drop]; exact g2) (by rw [getD_drop]; exact g3) (by simp) (hba k (by omega)) st
      simp only [getD_drop, Nat.add_zero] at this
      exact this) ?_
    -- R3.4 15 := checksum.go:32 convert
    refine QL.v (fun w st => by first | exact r_conv ty_cv37_81 rfl (wu64 (by omega) (by omega)) | exact r_conv ty_cv37_81 rfl rfl) rfl rfl rfl ?_
    -- R3.5 16 := checksum.go:32 load
    refine QL.v (fun w st => by exact r_loadL (vs := []) ty_agg83 rfl trivial) rfl rfl rfl ?_
    -- R3.6 17 := checksum.go:32 move
    refine QL.v (fun w st => by first | exact r_move (v := .slice _ _ _) rfl | exact r_move rfl) rfl rfl rfl ?_
    -- R3.7 18 := checksum.go:32 slice
    refine QL.v (fun w st => by first | exact r_slS (l := 4) ty_sl25 rfl ⟨_, rfl⟩ rfl rfl (fun h => by first | rfl | cases h) (by omega) (by omega) (by omega) (by omega) | exact r_sl (l := 4) ty_sl25 rfl ⟨_, rfl⟩ rfl rfl (fun h => by first | rfl | cases h) (by omega) (by omega) (by omega)) rfl rfl rfl ?_
    -- R3.8 19 := checksum.go:32 call
    refine QL.call (val := .int .u32 (bs.getD (k + 4) 0 * 16777216 + bs.getD (k + 5) 0 * 65536 + bs.getD (k + 6) 0 * 256 + bs.getD (k + 7) 0)) (fun w st => r_call ty_call37 rfl) rfl rfl rfl (fun w st => by
      have := u32_ok b (o + (k + 4)) (bs.length - k - 4) (c' - 4) (bs.drop (k + 4)) (by simp; omega) (by rw [getD_drop]; exact g4) (by rw [getD_drop]; exact g5) (by rw [getD_drop]; exact g6) (by rw [getD_drop]; exact g7) (by simp; omega) (hba (k + 4) (by omega)) st
      simp only [getD_drop, Nat.add_zero] at this
      exact this) ?_
    -- R3.9 20 := checksum.go:32 convert
    refine QL.v (fun w st => by first | exact r_conv ty_cv37_81 rfl (wu64 (by omega) (by omega)) | exact r_conv ty_cv37_81 rfl rfl) rfl rfl rfl ?_
    -- R3.10 21 := checksum.go:32 binOp
    refine QL.v (fun w st => by first | exact r_add rfl rfl (wu64 (by omega) (by omega)) | exact r_add rfl rfl rfl) rfl rfl rfl ?_
    -- R3.11 22 := checksum.go:32 binOp
    refine QL.v (fun w st => by first | exact r_add rfl rfl (wu64 (by omega) (by omega)) | exact r_add rfl rfl rfl) rfl rfl rfl ?_
    -- R3.12 5 := checksum.go:32 assign
    refine QL.v (fun w st => by first | exact r_assign (v := .int _ _) rfl | exact r_assign rfl) rfl rfl rfl ?_
    refine QL.wl hKq fun w st => ?_
    refine WL.fin hK25 (fun _ _ h => h) ?_
    -- region 4
    refine WC.region ?_
    -- R4.0 23 := checksum.go:33 move
    refine WL.v (by first | exact r_move (v := .slice _ _ _) rfl | exact r_move rfl) rfl rfl rfl ?_
    -- R4.1 24 := checksum.go:33 slice
    refine WL.v (by exact r_sl (l := 8) ty_sl25 rfl ⟨_, rfl⟩ rfl rfl (fun h => by first | rfl | cases h) (by omega) (by omega) (by omega)) rfl rfl rfl ?_
    -- R4.2 1 := checksum.go:33 assign
    refine WL.v (by first | exact r_assign (v := .slice _ _ _) rfl | exact r_assign rfl) rfl rfl rfl ?_
    refine WL.next hK1 (fun _ _ h => h) (k + 8, slA (some ⟨b, o + k, none⟩) 8 c' 1, c' - 8, acc + (bs.getD k 0 * 16777216 + bs.getD (k + 1) 0 * 65536 + bs.getD (k + 2) 0 * 256 + bs.getD (k + 3) 0 + (bs.getD (k + 4) 0 * 16777216 + bs.getD (k + 5) 0 * 65536 + bs.getD (k + 6) 0 * 256 + bs.getD (k + 7) 0))) ⟨st, by show k + 8 ≤ bs.length; omega, by show (k + 8) % 2 = 0; omega, by show bs.length - (k + 8) ≤ c' - 8; omega, by show c' - 8 ≤ _; omega, fun hp => ?_, by have := (hA.four hk2 (by omega) hbyt h0).four (by omega) (by omega) hbyt h0; rw [Int.add_assoc] at this; exact this⟩ (by show bs.length - (k + 8) < bs.length - k; omega) (by repeat (first | exact sub_nil _ | refine sub_cons rfl rfl ?_))
    simp only at hp
    exact (slA_some (by omega)).trans (by rw [show o + k + 8 * 1 = o + (k + 8) by omega])
  by_cases c4 : 4 ≤ bs.length - k
  · have ha4 := hadr' (by omega)
    subst ha4
    by_cases c2 : 6 ≤ bs.length - k
    · by_cases c1 : bs.length - k = 7
      · have q0 := hat k (by omega)
        have q1 := hat (k + 1) (by omega)
        have q2 := hat (k + 2) (by omega)
        have q3 := hat (k + 3) (by omega)
        have q4 := hat (k + 4) (by omega)
        have q5 := hat (k + 4 + 1) (by omega)
        have q6 := hat (k + 6) (by omega)
        have hAe := ((hA.four hk2 (by omega) hbyt h0).two (by omega) (by omega) hbyt h0)
        have hlo := hAe.lo
        have hhi := hAe.hi
        refine WC.seq fun K26 hK26 => ?_
        refine WC.seq fun K27 hK27 => ?_
        -- region 2
        refine WC.region ?_
        -- R2.0 8 := checksum.go:31 move
        refine WL.v (by first | exact r_move (v := .slice _ _ _) rfl | exact r_move rfl) rfl rfl rfl ?_
        -- R2.1 9 := checksum.go:31 call
        refine WL.v (by exact r_len ty_usl25 rfl) rfl rfl rfl ?_
        -- R2.2 10 := checksum.go:31 binOp
        refine WL.v (by first | exact r_geq rfl rfl (decide_eq_true (by omega)) | exact r_geq rfl rfl (decide_eq_false (by omega)) | exact r_geq rfl rfl rfl) rfl rfl rfl ?_
        refine WL.fin hK27 (fun _ _ h => h) ?_
        refine WC.condF rfl rfl ?_
        refine WC.exitF hK22 (fun _ _ h => h) ?_
        refine WC.seq fun K28 hK28 => ?_
        refine WC.seq fun K29 hK29 => ?_
        -- region 5
        refine WC.region ?_
        -- R5.0 25 := checksum.go:35 move
        refine WL.v (by first | exact r_move (v := .slice _ _ _) rfl | exact r_move rfl) rfl rfl rfl ?_
        -- R5.1 26 := checksum.go:35 call
        refine WL.v (by exact r_len ty_usl25 rfl) rfl rfl rfl ?_
        -- R5.2 27 := checksum.go:35 binOp
        refine WL.v (by first | exact r_geq rfl rfl (decide_eq_true (by omega)) | exact r_geq rfl rfl (decide_eq_false (by omega)) | exact r_geq rfl rfl rfl) rfl rfl rfl ?_
        refine WL.fin hK29 (fun _ _ h => h) ?_
        refine WC.condT rfl rfl ?_
        refine WC.seq fun K30 hK30 => ?_
        -- region 6
        refine WC.region ?_
        -- R6.0 28 := checksum.go:36 move
        refine WL.v (by first | exact r_move (v := .int _ _) rfl | exact r_move rfl) rfl rfl rfl ?_
        -- R6.1 29 := checksum.go:36 load
        refine WL.v (by exact r_loadL (vs := []) ty_agg83 rfl trivial) rfl rfl rfl ?_
        -- R6.2 30 := checksum.go:36 move
        refine WL.v (by first | exact r_move (v := .slice _ _ _) rfl | exact r_move rfl) rfl rfl rfl ?_
        -- R6.3 31 := checksum.go:36 call
        refine WL.call (r_call ty_call37 rfl) rfl rfl rfl (u32_ok b (o + k) (bs.length - k) c' (bs.drop k) (by simp; omega) (by rw [getD_drop]; exact q0) (by rw [getD_drop]; exact q1) (by rw [getD_drop]; exact q2) (by rw [getD_drop]; exact q3) (by simp) (hba k (by omega)) st) ?_
        rintro _ w ⟨rfl, st⟩
        simp only [getD_drop, Nat.add_zero]
        -- R6.4 32 := checksum.go:36 convert
        refine WL.v (by first | exact r_conv ty_cv37_81 rfl (wu64 (by omega) (by omega)) | exact r_conv ty_cv37_81 rfl rfl) rfl rfl rfl ?_
        -- R6.5 33 := checksum.go:36 binOp
        refine WL.v (by first | exact r_add rfl rfl (wu64 (by omega) (by omega)) | exact r_add rfl rfl rfl) rfl rfl rfl ?_
        -- R6.6 5 := checksum.go:36 assign
        refine WL.v (by first | exact r_assign (v := .int _ _) rfl | exact r_assign rfl) rfl rfl rfl ?_
        refine WL.fin hK30 (fun _ _ h => h) ?_
        -- region 7
        refine WC.region ?_
        -- R7.0 34 := checksum.go:37 move
        refine WL.v (by first | exact r_move (v := .slice _ _ _) rfl | exact r_move rfl) rfl rfl rfl ?_
        -- R7.1 35 := checksum.go:37 slice
        refine WL.v (by first | exact r_slS (l := 4) ty_sl25 rfl ⟨_, rfl⟩ rfl rfl (fun h => by first | rfl | cases h) (by omega) (by omega) (by omega) (by omega) | exact r_sl (l := 4) ty_sl25 rfl ⟨_, rfl⟩ rfl rfl (fun h => by first | rfl | cases h) (by omega) (by omega) (by omega)) rfl rfl rfl ?_
        -- R7.2 1 := checksum.go:37 assign
        refine WL.v (by first | exact r_assign (v := .slice _ _ _) rfl | exact r_assign rfl) rfl rfl rfl ?_
        refine WL.fin hK28 (fun _ _ h => h) ?_
        refine WC.seq fun K31 hK31 => ?_
        refine WC.seq fun K32 hK32 => ?_
        -- region 8
        refine WC.region ?_
        -- R8.0 36 := checksum.go:39 move
        refine WL.v (by first | exact r_move (v := .slice _ _ _) rfl | exact r_move rfl) rfl rfl rfl ?_
        -- R8.1 37 := checksum.go:39 call
        refine WL.v (by exact r_len ty_usl25 rfl) rfl rfl rfl ?_
        -- R8.2 38 := checksum.go:39 binOp
        refine WL.v (by first | exact r_geq rfl rfl (decide_eq_true (by omega)) | exact r_geq rfl rfl (decide_eq_false (by omega)) | exact r_geq rfl rfl rfl) rfl rfl rfl ?_
        refine WL.fin hK32 (fun _ _ h => h) ?_
        refine WC.condT rfl rfl ?_
        refine WC.seq fun K33 hK33 => ?_
        -- region 9
        refine WC.region ?_
        -- R9.0 39 := checksum.go:40 move
        refine WL.v (by first | exact r_move (v := .int _ _) rfl | exact r_move rfl) rfl rfl rfl ?_
        -- R9.1 40 := checksum.go:40 load
        refine WL.v (by exact r_loadL (vs := []) ty_agg83 rfl trivial) rfl rfl rfl ?_
        -- R9.2 41 := checksum.go:40 move
        refine WL.v (by first | exact r_move (v := .slice _ _ _) rfl | exact r_move rfl) rfl rfl rfl ?_
        -- R9.3 42 := checksum.go:40 call
        refine WL.call (r_call ty_call38 rfl) rfl rfl rfl (u16_ok b (o + (k + 4)) (bs.length - k - 4) (c' - 4) (bs.drop (k + 4)) (by simp; omega) (by rw [getD_drop]; exact q4) (by rw [getD_drop]; exact q5) (by simp; try omega) (hba (k + 4) (by omega)) st) ?_
        rintro _ w ⟨rfl, st⟩
        simp only [getD_drop, Nat.add_zero]
        -- R9.4 43 := checksum.go:40 convert
        refine WL.v (by first | exact r_conv ty_cv30_81 rfl (wu64 (by omega) (by omega)) | exact r_conv ty_cv30_81 rfl rfl) rfl rfl rfl ?_
        -- R9.5 44 := checksum.go:40 binOp
        refine WL.v (by first | exact r_add rfl rfl (wu64 (by omega) (by omega)) | exact r_add rfl rfl rfl) rfl rfl rfl ?_
        -- R9.6 5 := checksum.go:40 assign
        refine WL.v (by first | exact r_assign (v := .int _ _) rfl | exact r_assign rfl) rfl rfl rfl ?_
        refine WL.fin hK33 (fun _ _ h => h) ?_
        -- region 10
        refine WC.region ?_
        -- R10.0 45 := checksum.go:41 move
        refine WL.v (by first | exact r_move (v := .slice _ _ _) rfl | exact r_move rfl) rfl rfl rfl ?_
        -- R10.1 46 := checksum.go:41 slice
        refine WL.v (by first | exact r_slS (l := 2) ty_sl25 rfl ⟨_, rfl⟩ rfl rfl (fun h => by first | rfl | cases h) (by omega) (by omega) (by omega) (by omega) | exact r_sl (l := 2) ty_sl25 rfl ⟨_, rfl⟩ rfl rfl (fun h => by first | rfl | cases h) (by omega) (by omega) (by omega)) rfl rfl rfl ?_
        -- R10.2 1 := checksum.go:41 assign
        refine WL.v (by first | exact r_assign (v := .slice _ _ _) rfl | exact r_assign rfl) rfl rfl rfl ?_
        refine WL.fin hK31 (fun _ _ h => h) ?_
        refine WC.seq fun K34 hK34 => ?_
        refine WC.seq fun K35 hK35 => ?_
        -- region 11
        refine WC.region ?_
        -- R11.0 47 := checksum.go:43 move
        refine WL.v (by first | exact r_move (v := .slice _ _ _) rfl | exact r_move rfl) rfl rfl rfl ?_
        -- R11.1 48 := checksum.go:43 call
        refine WL.v (by exact r_len ty_usl25 rfl) rfl rfl rfl ?_
        -- R11.2 49 := checksum.go:43 binOp
        refine WL.v (by first | exact r_eql rfl rfl (decide_eq_true (by omega)) | exact r_eql rfl rfl (decide_eq_false (by omega)) | exact r_eql rfl rfl rfl) rfl rfl rfl ?_
        refine WL.fin hK35 (fun _ _ h => h) ?_
        refine WC.condT rfl rfl ?_
        -- region 12
        refine WC.region ?_
        -- R12.0 50 := checksum.go:44 move
        refine WL.v (by first | exact r_move (v := .int _ _) rfl | exact r_move rfl) rfl rfl rfl ?_
        -- R12.1 51 := checksum.go:44 move
        refine WL.v (by first | exact r_move (v := .slice _ _ _) rfl | exact r_move rfl) rfl rfl rfl ?_
        -- R12.2 52 := checksum.go:44 indexAddr
        refine WL.v (by exact r_indexS (j := 0) ty_sl25 rfl rfl rfl (by first | decide | omega)) rfl rfl rfl ?_
        -- R12.3 53 := checksum.go:44 load
        refine WL.v (by exact r_load1 ty_one5 rfl (hrd [] _ st (k + 6) (by omega))) rfl rfl rfl ?_
        -- R12.4 54 := checksum.go:44 convert
        refine WL.v (by first | exact r_conv ty_cv5_81 rfl (wu64 (by omega) (by omega)) | exact r_conv ty_cv5_81 rfl rfl) rfl rfl rfl ?_
        -- R12.5 55 := checksum.go:44 binOp
        refine WL.v (by exact r_shl (r := bs.getD (k + 6) 0 * 2 ^ 8) rfl rfl (by omega) (wu64 (x := bs.getD (k + 6) 0 * 2 ^ 8) (by omega) (by omega))) rfl rfl rfl ?_
        -- R12.6 56 := checksum.go:44 binOp
        refine WL.v (by first | exact r_add rfl rfl (wu64 (by omega) (by omega)) | exact r_add rfl rfl rfl) rfl rfl rfl ?_
        -- R12.7 5 := checksum.go:44 assign
        refine WL.v (by first | exact r_assign (v := .int _ _) rfl | exact r_assign rfl) rfl rfl rfl ?_
        refine WL.fin hK34 (fun _ _ h => h) ?_
        refine WC.seq fun K36 hK36 => ?_
        -- region 13
        refine WC.region ?_
        -- R13.0 57 := checksum.go:46 move
        refine WL.v (by first | exact r_move (v := .int _ _) rfl | exact r_move rfl) rfl rfl rfl ?_
        -- R13.1 58 := checksum.go:46 call
        refine WL.call (r_call ty_call39 rfl) rfl rfl rfl (fold_ok _ (by omega) (by omega) st) ?_
        rintro _ w ⟨rfl, st⟩
        -- R13.2 4 := checksum.go:46 assign
        refine WL.v (by first | exact r_assign (v := .int _ _) rfl | exact r_assign rfl) rfl rfl rfl ?_
        refine WL.fin hK36 (fun _ _ h => h) ?_
        refine WC.ret1 Tryd.results16 (fun _ _ h => h) rfl ?_
        exact ⟨_, rfl, congrArg (Value.int .u16) (hAe.one (by omega) (by omega) hbyt h0), st⟩
      · have q0 := hat k (by omega)
        have q1 := hat (k + 1) (by omega)
        have q2 := hat (k + 2) (by omega)
        have q3 := hat (k + 3) (by omega)
        have q4 := hat (k + 4) (by omega)
        have q5 := hat (k + 4 + 1) (by omega)
        have hAe := ((hA.four hk2 (by omega) hbyt h0).two (by omega) (by omega) hbyt h0)
        have hlo := hAe.lo
        have hhi := hAe.hi
        refine WC.seq fun K37 hK37 => ?_
        refine WC.seq fun K38 hK38 => ?_
        -- region 2
        refine WC.region ?_
        -- R2.0 8 := checksum.go:31 move
        refine WL.v (by first | exact r_move (v := .slice _ _ _) rfl | exact r_move rfl) rfl rfl rfl ?_
        -- R2.1 9 := checksum.go:31 call
        refine WL.v (by exact r_len ty_usl25 rfl) rfl rfl rfl ?_
        -- R2.2 10 := checksum.go:31 binOp
        refine WL.v (by first | exact r_geq rfl rfl (decide_eq_true (by omega)) | exact r_geq rfl rfl (decide_eq_false (by omega)) | exact r_geq rfl rfl rfl) rfl rfl rfl ?_
        refine WL.fin hK38 (fun _ _ h => h) ?_
        refine WC.condF rfl rfl ?_
        refine WC.exitF hK22 (fun _ _ h => h) ?_
        refine WC.seq fun K39 hK39 => ?_
        refine WC.seq fun K40 hK40 => ?_
        -- region 5
        refine WC.region ?_
        -- R5.0 25 := checksum.go:35 move
        refine WL.v (by first | exact r_move (v := .slice _ _ _) rfl | exact r_move rfl) rfl rfl rfl ?_
        -- R5.1 26 := checksum.go:35 call
        refine WL.v (by exact r_len ty_usl25 rfl) rfl rfl rfl ?_
        -- R5.2 27 := checksum.go:35 binOp
        refine WL.v (by first | exact r_geq rfl rfl (decide_eq_true (by omega)) | exact r_geq rfl rfl (decide_eq_false (by omega)) | exact r_geq rfl rfl rfl) rfl rfl rfl ?_
        refine WL.fin hK40 (fun _ _ h => h) ?_
        refine WC.condT rfl rfl ?_
        refine WC.seq fun K41 hK41 => ?_
        -- region 6
        refine WC.region ?_
        -- R6.0 28 := checksum.go:36 move
        refine WL.v (by first | exact r_move (v := .int _ _) rfl | exact r_move rfl) rfl rfl rfl ?_
        -- R6.1 29 := checksum.go:36 load
        refine WL.v (by exact r_loadL (vs := []) ty_agg83 rfl trivial) rfl rfl rfl ?_
        -- R6.2 30 := checksum.go:36 move
        refine WL.v (by first | exact r_move (v := .slice _ _ _) rfl | exact r_move rfl) rfl rfl rfl ?_
        -- R6.3 31 := checksum.go:36 call
        refine WL.call (r_call ty_call37 rfl) rfl rfl rfl (u32_ok b (o + k) (bs.length - k) c' (bs.drop k) (by simp; omega) (by rw [getD_drop]; exact q0) (by rw [getD_drop]; exact q1) (by rw [getD_drop]; exact q2) (by rw [getD_drop]; exact q3) (by simp) (hba k (by omega)) st) ?_
        rintro _ w ⟨rfl, st⟩
        simp only [getD_drop, Nat.add_zero]
        -- R6.4 32 := checksum.go:36 convert
        refine WL.v (by first | exact r_conv ty_cv37_81 rfl (wu64 (by omega) (by omega)) | exact r_conv ty_cv37_81 rfl rfl) rfl rfl rfl ?_
        -- R6.5 33 := checksum.go:36 binOp
        refine WL.v (by first | exact r_add rfl rfl (wu64 (by omega) (by omega)) | exact r_add rfl rfl rfl) rfl rfl rfl ?_
        -- R6.6 5 := checksum.go:36 assign
        refine WL.v (by first | exact r_assign (v := .int _ _) rfl | exact r_assign rfl) rfl rfl rfl ?_
        refine WL.fin hK41 (fun _ _ h => h) ?_
        -- region 7
        refine WC.region ?_
        -- R7.0 34 := checksum.go:37 move
        refine WL.v (by first | exact r_move (v := .slice _ _ _) rfl | exact r_move rfl) rfl rfl rfl ?_
        -- R7.1 35 := checksum.go:37 slice
        refine WL.v (by first | exact r_slS (l := 4) ty_sl25 rfl ⟨_, rfl⟩ rfl rfl (fun h => by first | rfl | cases h) (by omega) (by omega) (by omega) (by omega) | exact r_sl (l := 4) ty_sl25 rfl ⟨_, rfl⟩ rfl rfl (fun h => by first | rfl | cases h) (by omega) (by omega) (by omega)) rfl rfl rfl ?_
        -- R7.2 1 := checksum.go:37 assign
        refine WL.v (by first | exact r_assign (v := .slice _ _ _) rfl | exact r_assign rfl) rfl rfl rfl ?_
        refine WL.fin hK39 (fun _ _ h => h) ?_
        refine WC.seq fun K42 hK42 => ?_
        refine WC.seq fun K43 hK43 => ?_
        -- region 8
        refine WC.region ?_
        -- R8.0 36 := checksum.go:39 move
        refine WL.v (by first | exact r_move (v := .slice _ _ _) rfl | exact r_move rfl) rfl rfl rfl ?_
        -- R8.1 37 := checksum.go:39 call
        refine WL.v (by exact r_len ty_usl25 rfl) rfl rfl rfl ?_
        -- R8.2 38 := checksum.go:39 binOp
        refine WL.v (by first | exact r_geq rfl rfl (decide_eq_true (by omega)) | exact r_geq rfl rfl (decide_eq_false (by omega)) | exact r_geq rfl rfl rfl) rfl rfl rfl ?_
        refine WL.fin hK43 (fun _ _ h => h) ?_
        refine WC.condT rfl rfl ?_
        refine WC.seq fun K44 hK44 => ?_
        -- region 9
        refine WC.region ?_
        -- R9.0 39 := checksum.go:40 move
        refine WL.v (by first | exact r_move (v := .int _ _) rfl | exact r_move rfl) rfl rfl rfl ?_
        -- R9.1 40 := checksum.go:40 load
        refine WL.v (by exact r_loadL (vs := []) ty_agg83 rfl trivial) rfl rfl rfl ?_
        -- R9.2 41 := checksum.go:40 move
        refine WL.v (by first | exact r_move (v := .slice _ _ _) rfl | exact r_move rfl) rfl rfl rfl ?_
        -- R9.3 42 := checksum.go:40 call
        refine WL.call (r_call ty_call38 rfl) rfl rfl rfl (u16_ok b (o + (k + 4)) (bs.length - k - 4) (c' - 4) (bs.drop (k + 4)) (by simp; omega) (by rw [getD_drop]; exact q4) (by rw [getD_drop]; exact q5) (by simp; try omega) (hba (k + 4) (by omega)) st) ?_
        rintro _ w ⟨rfl, st⟩
        simp only [getD_drop, Nat.add_zero]
        -- R9.4 43 := checksum.go:40 convert
        refine WL.v (by first | exact r_conv ty_cv30_81 rfl (wu64 (by omega) (by omega)) | exact r_conv ty_cv30_81 rfl rfl) rfl rfl rfl ?_
        -- R9.5 44 := checksum.go:40 binOp
        refine WL.v (by first | exact r_add rfl rfl (wu64 (by omega) (by omega)) | exact r_add rfl rfl rfl) rfl rfl rfl ?_
        -- R9.6 5 := checksum.go:40 assign
        refine WL.v (by first | exact r_assign (v := .int _ _) rfl | exact r_assign rfl) rfl rfl rfl ?_
        refine WL.fin hK44 (fun _ _ h => h) ?_
        -- region 10
        refine WC.region ?_
        -- R10.0 45 := checksum.go:41 move
        refine WL.v (by first | exact r_move (v := .slice _ _ _) rfl | exact r_move rfl) rfl rfl rfl ?_
        -- R10.1 46 := checksum.go:41 slice
        refine WL.v (by first | exact r_slS (l := 2) ty_sl25 rfl ⟨_, rfl⟩ rfl rfl (fun h => by first | rfl | cases h) (by omega) (by omega) (by omega) (by omega) | exact r_sl (l := 2) ty_sl25 rfl ⟨_, rfl⟩ rfl rfl (fun h => by first | rfl | cases h) (by omega) (by omega) (by omega)) rfl rfl rfl ?_
        -- R10.2 1 := checksum.go:41 assign
        refine WL.v (by first | exact r_assign (v := .slice _ _ _) rfl | exact r_assign rfl) rfl rfl rfl ?_
        refine WL.fin hK42 (fun _ _ h => h) ?_
        refine WC.seq fun K45 hK45 => ?_
        refine WC.seq fun K46 hK46 => ?_
        -- region 11
        refine WC.region ?_
        -- R11.0 47 := checksum.go:43 move
        refine WL.v (by first | exact r_move (v := .slice _ _ _) rfl | exact r_move rfl) rfl rfl rfl ?_
        -- R11.1 48 := checksum.go:43 call
        refine WL.v (by exact r_len ty_usl25 rfl) rfl rfl rfl ?_
        -- R11.2 49 := checksum.go:43 binOp
        refine WL.v (by first | exact r_eql rfl rfl (decide_eq_true (by omega)) | exact r_eql rfl rfl (decide_eq_false (by omega)) | exact r_eql rfl rfl rfl) rfl rfl rfl ?_
        refine WL.fin hK46 (fun _ _ h => h) ?_
        refine WC.condF rfl rfl ?_
        refine WC.skipF hK45 (fun _ _ h => h) ?_
        refine WC.seq fun K47 hK47 => ?_
        -- region 13
        refine WC.region ?_
        -- R13.0 57 := checksum.go:46 move
        refine WL.v (by first | exact r_move (v := .int _ _) rfl | exact r_move rfl) rfl rfl rfl ?_
        -- R13.1 58 := checksum.go:46 call
        refine WL.call (r_call ty_call39 rfl) rfl rfl rfl (fold_ok _ (by omega) (by omega) st) ?_
        rintro _ w ⟨rfl, st⟩
        -- R13.2 4 := checksum.go:46 assign
        refine WL.v (by first | exact r_assign (v := .int _ _) rfl | exact r_assign rfl) rfl rfl rfl ?_
        refine WL.fin hK47 (fun _ _ h => h) ?_
        refine WC.ret1 Tryd.results16 (fun _ _ h => h) rfl ?_
        exact ⟨_, rfl, congrArg (Value.int .u16) (hAe.fin (by omega)), st⟩
    · by_cases c1 : bs.length - k = 5
      · have q0 := hat k (by omega)
        have q1 := hat (k + 1) (by omega)
        have q2 := hat (k + 2) (by omega)
        have q3 := hat (k + 3) (by omega)
        have q6 := hat (k + 4) (by omega)
        have hAe := (hA.four hk2 (by omega) hbyt h0)
        have hlo := hAe.lo
        have hhi := hAe.hi
        refine WC.seq fun K48 hK48 => ?_
        refine WC.seq fun K49 hK49 => ?_
        -- region 2
        refine WC.region ?_
        -- R2.0 8 := checksum.go:31 move
        refine WL.v (by first | exact r_move (v := .slice _ _ _) rfl | exact r_move rfl) rfl rfl rfl ?_
        -- R2.1 9 := checksum.go:31 call
        refine WL.v (by exact r_len ty_usl25 rfl) rfl rfl rfl ?_
        -- R2.2 10 := checksum.go:31 binOp
        refine WL.v (by first | exact r_geq rfl rfl (decide_eq_true (by omega)) | exact r_geq rfl rfl (decide_eq_false (by omega)) | exact r_geq rfl rfl rfl) rfl rfl rfl ?_
        refine WL.fin hK49 (fun _ _ h => h) ?_
        refine WC.condF rfl rfl ?_
        refine WC.exitF hK22 (fun _ _ h => h) ?_
        refine WC.seq fun K50 hK50 => ?_
        refine WC.seq fun K51 hK51 => ?_
        -- region 5
        refine WC.region ?_
        -- R5.0 25 := checksum.go:35 move
        refine WL.v (by first | exact r_move (v := .slice _ _ _) rfl | exact r_move rfl) rfl rfl rfl ?_
        -- R5.1 26 := checksum.go:35 call
        refine WL.v (by exact r_len ty_usl25 rfl) rfl rfl rfl ?_
        -- R5.2 27 := checksum.go:35 binOp
        refine WL.v (by first | exact r_geq rfl rfl (decide_eq_true (by omega)) | exact r_geq rfl rfl (decide_eq_false (by omega)) | exact r_geq rfl rfl rfl) rfl rfl rfl ?_
        refine WL.fin hK51 (fun _ _ h => h) ?_
        refine WC.condT rfl rfl ?_
        refine WC.seq fun K52 hK52 => ?_
        -- region 6
        refine WC.region ?_
        -- R6.0 28 := checksum.go:36 move
        refine WL.v (by first | exact r_move (v := .int _ _) rfl | exact r_move rfl) rfl rfl rfl ?_
        -- R6.1 29 := checksum.go:36 load
        refine WL.v (by exact r_loadL (vs := []) ty_agg83 rfl trivial) rfl rfl rfl ?_
        -- R6.2 30 := checksum.go:36 move
        refine WL.v (by first | exact r_move (v := .slice _ _ _) rfl | exact r_move rfl) rfl rfl rfl ?_
        -- R6.3 31 := checksum.go:36 call
        refine WL.call (r_call ty_call37 rfl) rfl rfl rfl (u32_ok b (o + k) (bs.length - k) c' (bs.drop k) (by simp; omega) (by rw [getD_drop]; exact q0) (by rw [getD_drop]; exact q1) (by rw [getD_drop]; exact q2) (by rw [getD_drop]; exact q3) (by simp) (hba k (by omega)) st) ?_
        rintro _ w ⟨rfl, st⟩
        simp only [getD_drop, Nat.add_zero]
        -- R6.4 32 := checksum.go:36 convert
        refine WL.v (by first | exact r_conv ty_cv37_81 rfl (wu64 (by omega) (by omega)) | exact r_conv ty_cv37_81 rfl rfl) rfl rfl rfl ?_
        -- R6.5 33 := checksum.go:36 binOp
        refine WL.v (by first | exact r_add rfl rfl (wu64 (by omega) (by omega)) | exact r_add rfl rfl rfl) rfl rfl rfl ?_
        -- R6.6 5 := checksum.go:36 assign
        refine WL.v (by first | exact r_assign (v := .int _ _) rfl | exact r_assign rfl) rfl rfl rfl ?_
        refine WL.fin hK52 (fun _ _ h => h) ?_
        -- region 7
        refine WC.region ?_
        -- R7.0 34 := checksum.go:37 move
        refine WL.v (by first | exact r_move (v := .slice _ _ _) rfl | exact r_move rfl) rfl rfl rfl ?_
        -- R7.1 35 := checksum.go:37 slice
        refine WL.v (by first | exact r_slS (l := 4) ty_sl25 rfl ⟨_, rfl⟩ rfl rfl (fun h => by first | rfl | cases h) (by omega) (by omega) (by omega) (by omega) | exact r_sl (l := 4) ty_sl25 rfl ⟨_, rfl⟩ rfl rfl (fun h => by first | rfl | cases h) (by omega) (by omega) (by omega)) rfl rfl rfl ?_
        -- R7.2 1 := checksum.go:37 assign
        refine WL.v (by first | exact r_assign (v := .slice _ _ _) rfl | exact r_assign rfl) rfl rfl rfl ?_
        refine WL.fin hK50 (fun _ _ h => h) ?_
        refine WC.seq fun K53 hK53 => ?_
        refine WC.seq fun K54 hK54 => ?_
        -- region 8
        refine WC.region ?_
        -- R8.0 36 := checksum.go:39 move
        refine WL.v (by first | exact r_move (v := .slice _ _ _) rfl | exact r_move rfl) rfl rfl rfl ?_
        -- R8.1 37 := checksum.go:39 call
        refine WL.v (by exact r_len ty_usl25 rfl) rfl rfl rfl ?_
        -- R8.2 38 := checksum.go:39 binOp
        refine WL.v (by first | exact r_geq rfl rfl (decide_eq_true (by omega)) | exact r_geq rfl rfl (decide_eq_false (by omega)) | exact r_geq rfl rfl rfl) rfl rfl rfl ?_
        refine WL.fin hK54 (fun _ _ h => h) ?_
        refine WC.condF rfl rfl ?_
        refine WC.skipF hK53 (fun _ _ h => h) ?_
        refine WC.seq fun K55 hK55 => ?_
        refine WC.seq fun K56 hK56 => ?_
        -- region 11
        refine WC.region ?_
        -- R11.0 47 := checksum.go:43 move
        refine WL.v (by first | exact r_move (v := .slice _ _ _) rfl | exact r_move rfl) rfl rfl rfl ?_
        -- R11.1 48 := checksum.go:43 call
        refine WL.v (by exact r_len ty_usl25 rfl) rfl rfl rfl ?_
        -- R11.2 49 := checksum.go:43 binOp
        refine WL.v (by first | exact r_eql rfl rfl (decide_eq_true (by omega)) | exact r_eql rfl rfl (decide_eq_false (by omega)) | exact r_eql rfl rfl rfl) rfl rfl rfl ?_
        refine WL.fin hK56 (fun _ _ h => h) ?_
        refine WC.condT rfl rfl ?_
        -- region 12
        refine WC.region ?_
        -- R12.0 50 := checksum.go:44 move
        refine WL.v (by first | exact r_move (v := .int _ _) rfl | exact r_move rfl) rfl rfl rfl ?_
        -- R12.1 51 := checksum.go:44 move
        refine WL.v (by first | exact r_move (v := .slice _ _ _) rfl | exact r_move rfl) rfl rfl rfl ?_
        -- R12.2 52 := checksum.go:44 indexAddr
        refine WL.v (by exact r_indexS (j := 0) ty_sl25 rfl rfl rfl (by first | decide | omega)) rfl rfl rfl ?_
        -- R12.3 53 := checksum.go:44 load
        refine WL.v (by exact r_load1 ty_one5 rfl (hrd [] _ st (k + 4) (by omega))) rfl rfl rfl ?_
        -- R12.4 54 := checksum.go:44 convert
        refine WL.v (by first | exact r_conv ty_cv5_81 rfl (wu64 (by omega) (by omega)) | exact r_conv ty_cv5_81 rfl rfl) rfl rfl rfl ?_
        -- R12.5 55 := checksum.go:44 binOp
        refine WL.v (by exact r_shl (r := bs.getD (k + 4) 0 * 2 ^ 8) rfl rfl (by omega) (wu64 (x := bs.getD (k + 4) 0 * 2 ^ 8) (by omega) (by omega))) rfl rfl rfl ?_
        -- R12.6 56 := checksum.go:44 binOp
        refine WL.v (by first | exact r_add rfl rfl (wu64 (by omega) (by omega)) | exact r_add rfl rfl rfl) rfl rfl rfl ?_
        -- R12.7 5 := checksum.go:44 assign
        refine WL.v (by first | exact r_assign (v := .int _ _) rfl | exact r_assign rfl) rfl rfl rfl ?_
        refine WL.fin hK55 (fun _ _ h => h) ?_
        refine WC.seq fun K57 hK57 => ?_
        -- region 13
        refine WC.region ?_
        -- R13.0 57 := checksum.go:46 move
        refine WL.v (by first | exact r_move (v := .int _ _) rfl | exact r_move rfl) rfl rfl rfl ?_
        -- R13.1 58 := checksum.go:46 call
        refine WL.call (r_call ty_call39 rfl) rfl rfl rfl (fold_ok _ (by omega) (by omega) st) ?_
        rintro _ w ⟨rfl, st⟩
        -- R13.2 4 := checksum.go:46 assign
        refine WL.v (by first | exact r_assign (v := .int _ _) rfl | exact r_assign rfl) rfl rfl rfl ?_
        refine WL.fin hK57 (fun _ _ h => h) ?_
        refine WC.ret1 Tryd.results16 (fun _ _ h => h) rfl ?_
        exact ⟨_, rfl, congrArg (Value.int .u16) (hAe.one (by omega) (by omega) hbyt h0), st⟩
      · have q0 := hat k (by omega)
        have q1 := hat (k + 1) (by omega)
        have q2 := hat (k + 2) (by omega)
        have q3 := hat (k + 3) (by omega)
        have hAe := (hA.four hk2 (by omega) hbyt h0)
        have hlo := hAe.lo
        have hhi := hAe.hi
        refine WC.seq fun K58 hK58 => ?_
        refine WC.seq fun K59 hK59 => ?_
        -- region 2
        refine WC.region ?_
        -- R2.0 8 := checksum.go:31 move
        refine WL.v (by first | exact r_move (v := .slice _ _ _) rfl | exact r_move rfl) rfl rfl rfl ?_
        -- R2.1 9 := checksum.go:31 call
        refine WL.v (by exact r_len ty_usl25 rfl) rfl rfl rfl ?_
        -- R2.2 10 := checksum.go:31 binOp
        refine WL.v (by first | exact r_geq rfl rfl (decide_eq_true (by omega)) | exact r_geq rfl rfl (decide_eq_false (by omega)) | exact r_geq rfl rfl rfl) rfl rfl rfl ?_
        refine WL.fin hK59 (fun _ _ h => h) ?_
        refine WC.condF rfl rfl ?_
        refine WC.exitF hK22 (fun _ _ h => h) ?_
        refine WC.seq fun K60 hK60 => ?_
        refine WC.seq fun K61 hK61 => ?_
        -- region 5
        refine WC.region ?_
        -- R5.0 25 := checksum.go:35 move
        refine WL.v (by first | exact r_move (v := .slice _ _ _) rfl | exact r_move rfl) rfl rfl rfl ?_
        -- R5.1 26 := checksum.go:35 call
        refine WL.v (by exact r_len ty_usl25 rfl) rfl rfl rfl ?_
        -- R5.2 27 := checksum.go:35 binOp
        refine WL.v (by first | exact r_geq rfl rfl (decide_eq_true (by omega)) | exact r_geq rfl rfl (decide_eq_false (by omega)) | exact r_geq rfl rfl rfl) rfl rfl rfl ?_
        refine WL.fin hK61 (fun _ _ h => h) ?_
        refine WC.condT rfl rfl ?_
        refine WC.seq fun K62 hK62 => ?_
        -- region 6
        refine WC.region ?_
        -- R6.0 28 := checksum.go:36 move
        refine WL.v (by first | exact r_move (v := .int _ _) rfl | exact r_move rfl) rfl rfl rfl ?_
        -- R6.1 29 := checksum.go:36 load
        refine WL.v (by exact r_loadL (vs := []) ty_agg83 rfl trivial) rfl rfl rfl ?_
        -- R6.2 30 := checksum.go:36 move
        refine WL.v (by first | exact r_move (v := .slice _ _ _) rfl | exact r_move rfl) rfl rfl rfl ?_
        -- R6.3 31 := checksum.go:36 call
        refine WL.call (r_call ty_call37 rfl) rfl rfl rfl (u32_ok b (o + k) (bs.length - k) c' (bs.drop k) (by simp; omega) (by rw [getD_drop]; exact q0) (by rw [getD_drop]; exact q1) (by rw [getD_drop]; exact q2) (by rw [getD_drop]; exact q3) (by simp) (hba k (by omega)) st) ?_
        rintro _ w ⟨rfl, st⟩
        simp only [getD_drop, Nat.add_zero]
        -- R6.4 32 := checksum.go:36 convert
        refine WL.v (by first | exact r_conv ty_cv37_81 rfl (wu64 (by omega) (by omega)) | exact r_conv ty_cv37_81 rfl rfl) rfl rfl rfl ?_
        -- R6.5 33 := checksum.go:36 binOp
        refine WL.v (by first | exact r_add rfl rfl (wu64 (by omega) (by omega)) | exact r_add rfl rfl rfl) rfl rfl rfl ?_
        -- R6.6 5 := checksum.go:36 assign
        refine WL.v (by first | exact r_assign (v := .int _ _) rfl | exact r_assign rfl) rfl rfl rfl ?_
        refine WL.fin hK62 (fun _ _ h => h) ?_
        -- region 7
        refine WC.region ?_
        -- R7.0 34 := checksum.go:37 move
        refine WL.v (by first | exact r_move (v := .slice _ _ _) rfl | exact r_move rfl) rfl rfl rfl ?_
        -- R7.1 35 := checksum.go:37 slice
        refine WL.v (by first | exact r_slS (l := 4) ty_sl25 rfl ⟨_, rfl⟩ rfl rfl (fun h => by first | rfl | cases h) (by omega) (by omega) (by omega) (by omega) | exact r_sl (l := 4) ty_sl25 rfl ⟨_, rfl⟩ rfl rfl (fun h => by first | rfl | cases h) (by omega) (by omega) (by omega)) rfl rfl rfl ?_
        -- R7.2 1 := checksum.go:37 assign
        refine WL.v (by first | exact r_assign (v := .slice _ _ _) rfl | exact r_assign rfl) rfl rfl rfl ?_
        refine WL.fin hK60 (fun _ _ h => h) ?_
        refine WC.seq fun K63 hK63 => ?_
        refine WC.seq fun K64 hK64 => ?_
        -- region 8
        refine WC.region ?_
        -- R8.0 36 := checksum.go:39 move
        refine WL.v (by first | exact r_move (v := .slice _ _ _) rfl | exact r_move rfl) rfl rfl rfl ?_
        -- R8.1 37 := checksum.go:39 call
        refine WL.v (by exact r_len ty_usl25 rfl) rfl rfl rfl ?_
        -- R8.2 38 := checksum.go:39 binOp
        refine WL.v (by first | exact r_geq rfl rfl (decide_eq_true (by omega)) | exact r_geq rfl rfl (decide_eq_false (by omega)) | exact r_geq rfl rfl rfl) rfl rfl rfl ?_
        refine WL.fin hK64 (fun _ _ h => h) ?_
        refine WC.condF rfl rfl ?_
        refine WC.skipF hK63 (fun _ _ h => h) ?_
        refine WC.seq fun K65 hK65 => ?_
        refine WC.seq fun K66 hK66 => ?_
        -- region 11
        refine WC.region ?_
        -- R11.0 47 := checksum.go:43 move
        refine WL.v (by first | exact r_move (v := .slice _ _ _) rfl | exact r_move rfl) rfl rfl rfl ?_
        -- R11.1 48 := checksum.go:43 call
        refine WL.v (by exact r_len ty_usl25 rfl) rfl rfl rfl ?_
        -- R11.2 49 := checksum.go:43 binOp
        refine WL.v (by first | exact r_eql rfl rfl (decide_eq_true (by omega)) | exact r_eql rfl rfl (decide_eq_false (by omega)) | exact r_eql rfl rfl rfl) rfl rfl rfl ?_
        refine WL.fin hK66 (fun _ _ h => h) ?_
        refine WC.condF rfl rfl ?_
        refine WC.skipF hK65 (fun _ _ h => h) ?_
        refine WC.seq fun K67 hK67 => ?_
        -- region 13
        refine WC.region ?_
        -- R13.0 57 := checksum.go:46 move
        refine WL.v (by first | exact r_move (v := .int _ _) rfl | exact r_move rfl) rfl rfl rfl ?_
        -- R13.1 58 := checksum.go:46 call
        refine WL.call (r_call ty_call39 rfl) rfl rfl rfl (fold_ok _ (by omega) (by omega) st) ?_
        rintro _ w ⟨rfl, st⟩
        -- R13.2 4 := checksum.go:46 assign
        refine WL.v (by first | exact r_assign (v := .int _ _) rfl | exact r_assign rfl) rfl rfl rfl ?_
        refine WL.fin hK67 (fun _ _ h => h) ?_
        refine WC.ret1 Tryd.results16 (fun _ _ h => h) rfl ?_
        exact ⟨_, rfl, congrArg (Value.int .u16) (hAe.fin (by omega)), st⟩
  · by_cases c2 : 2 ≤ bs.length - k
    · have ha4 := hadr' (by omega)
      subst ha4
      by_cases c1 : bs.length - k = 3
      · have q4 := hat (k) (by omega)
        have q5 := hat (k + 1) (by omega)
        have q6 := hat (k + 2) (by omega)
        have hAe := (hA.two (by omega) (by omega) hbyt h0)
        have hlo := hAe.lo
        have hhi := hAe.hi
        refine WC.seq fun K68 hK68 => ?_
        refine WC.seq fun K69 hK69 => ?_
        -- region 2
        refine WC.region ?_
        -- R2.0 8 := checksum.go:31 move
        refine WL.v (by first | exact r_move (v := .slice _ _ _) rfl | exact r_move rfl) rfl rfl rfl ?_
        -- R2.1 9 := checksum.go:31 call
        refine WL.v (by exact r_len ty_usl25 rfl) rfl rfl rfl ?_
        -- R2.2 10 := checksum.go:31 binOp
        refine WL.v (by first | exact r_geq rfl rfl (decide_eq_true (by omega)) | exact r_geq rfl rfl (decide_eq_false (by omega)) | exact r_geq rfl rfl rfl) rfl rfl rfl ?_
        refine WL.fin hK69 (fun _ _ h => h) ?_
        refine WC.condF rfl rfl ?_
        refine WC.exitF hK22 (fun _ _ h => h) ?_
        refine WC.seq fun K70 hK70 => ?_
        refine WC.seq fun K71 hK71 => ?_
        -- region 5
        refine WC.region ?_
        -- R5.0 25 := checksum.go:35 move
        refine WL.v (by first | exact r_move (v := .slice _ _ _) rfl | exact r_move rfl) rfl rfl rfl ?_
        -- R5.1 26 := checksum.go:35 call
        refine WL.v (by exact r_len ty_usl25 rfl) rfl rfl rfl ?_
        -- R5.2 27 := checksum.go:35 binOp
        refine WL.v (by first | exact r_geq rfl rfl (decide_eq_true (by omega)) | exact r_geq rfl rfl (decide_eq_false (by omega)) | exact r_geq rfl rfl rfl) rfl rfl rfl ?_
        refine WL.fin hK71 (fun _ _ h => h) ?_
        refine WC.condF rfl rfl ?_
        refine WC.skipF hK70 (fun _ _ h => h) ?_
        refine WC.seq fun K72 hK72 => ?_
        refine WC.seq fun K73 hK73 => ?_
        -- region 8
        refine WC.region ?_
        -- R8.0 36 := checksum.go:39 move
        refine WL.v (by first | exact r_move (v := .slice _ _ _) rfl | exact r_move rfl) rfl rfl rfl ?_
        -- R8.1 37 := checksum.go:39 call
        refine WL.v (by exact r_len ty_usl25 rfl) rfl rfl rfl ?_
        -- R8.2 38 := checksum.go:39 binOp
        refine WL.v (by first | exact r_geq rfl rfl (decide_eq_true (by omega)) | exact r_geq rfl rfl (decide_eq_false (by omega)) | exact r_geq rfl rfl rfl) rfl rfl rfl ?_
        refine WL.fin hK73 (fun _ _ h => h) ?_
        refine WC.condT rfl rfl ?_
        refine WC.seq fun K74 hK74 => ?_
        -- region 9
        refine WC.region ?_
        -- R9.0 39 := checksum.go:40 move
        refine WL.v (by first | exact r_move (v := .int _ _) rfl | exact r_move rfl) rfl rfl rfl ?_
        -- R9.1 40 := checksum.go:40 load
        refine WL.v (by exact r_loadL (vs := []) ty_agg83 rfl trivial) rfl rfl rfl ?_
        -- R9.2 41 := checksum.go:40 move
        refine WL.v (by first | exact r_move (v := .slice _ _ _) rfl | exact r_move rfl) rfl rfl rfl ?_
        -- R9.3 42 := checksum.go:40 call
        refine WL.call (r_call ty_call38 rfl) rfl rfl rfl (u16_ok b (o + k) (bs.length - k) c' (bs.drop (k)) (by simp; omega) (by rw [getD_drop]; exact q4) (by rw [getD_drop]; exact q5) (by simp; try omega) (hba (k) (by omega)) st) ?_
        rintro _ w ⟨rfl, st⟩
        simp only [getD_drop, Nat.add_zero]
        -- R9.4 43 := checksum.go:40 convert
        refine WL.v (by first | exact r_conv ty_cv30_81 rfl (wu64 (by omega) (by omega)) | exact r_conv ty_cv30_81 rfl rfl) rfl rfl rfl ?_
        -- R9.5 44 := checksum.go:40 binOp
        refine WL.v (by first | exact r_add rfl rfl (wu64 (by omega) (by omega)) | exact r_add rfl rfl rfl) rfl rfl rfl ?_
        -- R9.6 5 := checksum.go:40 assign
        refine WL.v (by first | exact r_assign (v := .int _ _) rfl | exact r_assign rfl) rfl rfl rfl ?_
        refine WL.fin hK74 (fun _ _ h => h) ?_
        -- region 10
        refine WC.region ?_
        -- R10.0 45 := checksum.go:41 move
        refine WL.v (by first | exact r_move (v := .slice _ _ _) rfl | exact r_move rfl) rfl rfl rfl ?_
        -- R10.1 46 := checksum.go:41 slice
        refine WL.v (by first | exact r_slS (l := 2) ty_sl25 rfl ⟨_, rfl⟩ rfl rfl (fun h => by first | rfl | cases h) (by omega) (by omega) (by omega) (by omega) | exact r_sl (l := 2) ty_sl25 rfl ⟨_, rfl⟩ rfl rfl (fun h => by first | rfl | cases h) (by omega) (by omega) (by omega)) rfl rfl rfl ?_
        -- R10.2 1 := checksum.go:41 assign
        refine WL.v (by first | exact r_assign (v := .slice _ _ _) rfl | exact r_assign rfl) rfl rfl rfl ?_
        refine WL.fin hK72 (fun _ _ h => h) ?_
        refine WC.seq fun K75 hK75 => ?_
        refine WC.seq fun K76 hK76 => ?_
        -- region 11
        refine WC.region ?_
        -- R11.0 47 := checksum.go:43 move
        refine WL.v (by first | exact r_move (v := .slice _ _ _) rfl | exact r_move rfl) rfl rfl rfl ?_
        -- R11.1 48 := checksum.go:43 call
        refine WL.v (by exact r_len ty_usl25 rfl) rfl rfl rfl ?_
        -- R11.2 49 := checksum.go:43 binOp
        refine WL.v (by first | exact r_eql rfl rfl (decide_eq_true (by omega)) | exact r_eql rfl rfl (decide_eq_false (by omega)) | exact r_eql rfl rfl rfl) rfl rfl rfl ?_
        refine WL.fin hK76 (fun _ _ h => h) ?_
        refine WC.condT rfl rfl ?_
        -- region 12
        refine WC.region ?_
        -- R12.0 50 := checksum.go:44 move
        refine WL.v (by first | exact r_move (v := .int _ _) rfl | exact r_move rfl) rfl rfl rfl ?_
        -- R12.1 51 := checksum.go:44 move
        refine WL.v (by first | exact r_move (v := .slice _ _ _) rfl | exact r_move rfl) rfl rfl rfl ?_
        -- R12.2 52 := checksum.go:44 indexAddr
        refine WL.v (by exact r_indexS (j := 0) ty_sl25 rfl rfl rfl (by first | decide | omega)) rfl rfl rfl ?_
        -- R12.3 53 := checksum.go:44 load
        refine WL.v (by exact r_load1 ty_one5 rfl (hrd [] _ st (k + 2) (by omega))) rfl rfl rfl ?_
        -- R12.4 54 := checksum.go:44 convert
        refine WL.v (by first | exact r_conv ty_cv5_81 rfl (wu64 (by omega) (by omega)) | exact r_conv ty_cv5_81 rfl rfl) rfl rfl rfl ?_
        -- R12.5 55 := checksum.go:44 binOp
        refine WL.v (by exact r_shl (r := bs.getD (k + 2) 0 * 2 ^ 8) rfl rfl (by omega) (wu64 (x := bs.getD (k + 2) 0 * 2 ^ 8) (by omega) (by omega))) rfl rfl rfl ?_
        -- R12.6 56 := checksum.go:44 binOp
        refine WL.v (by first | exact r_add rfl rfl (wu64 (by omega) (by omega)) | exact r_add rfl rfl rfl) rfl rfl rfl ?_
        -- R12.7 5 := checksum.go:44 assign
        refine WL.v (by first | exact r_assign (v := .int _ _) rfl | exact r_assign rfl) rfl rfl rfl ?_
        refine WL.fin hK75 (fun _ _ h => h) ?_
        refine WC.seq fun K77 hK77 => ?_
        -- region 13
        refine WC.region ?_
        -- R13.0 57 := checksum.go:46 move
        refine WL.v (by first | exact r_move (v := .int _ _) rfl | exact r_move rfl) rfl rfl rfl ?_
        -- R13.1 58 := checksum.go:46 call
        refine WL.call (r_call ty_call39 rfl) rfl rfl rfl (fold_ok _ (by omega) (by omega) st) ?_
        rintro _ w ⟨rfl, st⟩
        -- R13.2 4 := checksum.go:46 assign
        refine WL.v (by first | exact r_assign (v := .int _ _) rfl | exact r_assign rfl) rfl rfl rfl ?_
        refine WL.fin hK77 (fun _ _ h => h) ?_
        refine WC.ret1 Tryd.results16 (fun _ _ h => h) rfl ?_
        exact ⟨_, rfl, congrArg (Value.int .u16) (hAe.one (by omega) (by omega) hbyt h0), st⟩
      · have q4 := hat (k) (by omega)
        have q5 := hat (k + 1) (by omega)
        have hAe := (hA.two (by omega) (by omega) hbyt h0)
        have hlo := hAe.lo
        have hhi := hAe.hi
        refine WC.seq fun K78 hK78 => ?_
        refine WC.seq fun K79 hK79 => ?_
        -- region 2
        refine WC.region ?_
        -- R2.0 8 := checksum.go:31 move
        refine WL.v (by first | exact r_move (v := .slice _ _ _) rfl | exact r_move rfl) rfl rfl rfl ?_
        -- R2.1 9 := checksum.go:31 call
        refine WL.v (by exact r_len ty_usl25 rfl) rfl rfl rfl ?_
        -- R2.2 10 := checksum.go:31 binOp
        refine WL.v (by first | exact r_geq rfl rfl (decide_eq_true (by omega)) | exact r_geq rfl rfl (decide_eq_false (by omega)) | exact r_geq rfl rfl rfl) rfl rfl rfl ?_
        refine WL.fin hK79 (fun _ _ h => h) ?_
        refine WC.condF rfl rfl ?_
        refine WC.exitF hK22 (fun _ _ h => h) ?_
        refine WC.seq fun K80 hK80 => ?_
        refine WC.seq fun K81 hK81 => ?_
        -- region 5
        refine WC.region ?_
        -- R5.0 25 := checksum.go:35 move
        refine WL.v (by first | exact r_move (v := .slice _ _ _) rfl | exact r_move rfl) rfl rfl rfl ?_
        -- R5.1 26 := checksum.go:35 call
        refine WL.v (by exact r_len ty_usl25 rfl) rfl rfl rfl ?_
        -- R5.2 27 := checksum.go:35 binOp
        refine WL.v (by first | exact r_geq rfl rfl (decide_eq_true (by omega)) | exact r_geq rfl rfl (decide_eq_false (by omega)) | exact r_geq rfl rfl rfl) rfl rfl rfl ?_
        refine WL.fin hK81 (fun _ _ h => h) ?_
        refine WC.condF rfl rfl ?_
        refine WC.skipF hK80 (fun _ _ h => h) ?_
        refine WC.seq fun K82 hK82 => ?_
        refine WC.seq fun K83 hK83 => ?_
        -- region 8
        refine WC.region ?_
        -- R8.0 36 := checksum.go:39 move
        refine WL.v (by first | exact r_move (v := .slice _ _ _) rfl | exact r_move rfl) rfl rfl rfl ?_
        -- R8.1 37 := checksum.go:39 call
        refine WL.v (by exact r_len ty_usl25 rfl) rfl rfl rfl ?_
        -- R8.2 38 := checksum.go:39 binOp
        refine WL.v (by first | exact r_geq rfl rfl (decide_eq_true (by omega)) | exact r_geq rfl rfl (decide_eq_false (by omega)) | exact r_geq rfl rfl rfl) rfl rfl rfl ?_
        refine WL.fin hK83 (fun _ _ h => h) ?_
        refine WC.condT rfl rfl ?_
        refine WC.seq fun K84 hK84 => ?_
        -- region 9
        refine WC.region ?_
        -- R9.0 39 := checksum.go:40 move
        refine WL.v (by first | exact r_move (v := .int _ _) rfl | exact r_move rfl) rfl rfl rfl ?_
        -- R9.1 40 := checksum.go:40 load
        refine WL.v (by exact r_loadL (vs := []) ty_agg83 rfl trivial) rfl rfl rfl ?_
        -- R9.2 41 := checksum.go:40 move
        refine WL.v (by first | exact r_move (v := .slice _ _ _) rfl | exact r_move rfl) rfl rfl rfl ?_
        -- R9.3 42 := checksum.go:40 call
        refine WL.call (r_call ty_call38 rfl) rfl rfl rfl (u16_ok b (o + k) (bs.length - k) c' (bs.drop (k)) (by simp; omega) (by rw [getD_drop]; exact q4) (by rw [getD_drop]; exact q5) (by simp; try omega) (hba (k) (by omega)) st) ?_
        rintro _ w ⟨rfl, st⟩
        simp only [getD_drop, Nat.add_zero]
        -- R9.4 43 := checksum.go:40 convert
        refine WL.v (by first | exact r_conv ty_cv30_81 rfl (wu64 (by omega) (by omega)) | exact r_conv ty_cv30_81 rfl rfl) rfl rfl rfl ?_
        -- R9.5 44 := checksum.go:40 binOp
        refine WL.v (by first | exact r_add rfl rfl (wu64 (by omega) (by omega)) | exact r_add rfl rfl rfl) rfl rfl rfl ?_
        -- R9.6 5 := checksum.go:40 assign
        refine WL.v (by first | exact r_assign (v := .int _ _) rfl | exact r_assign rfl) rfl rfl rfl ?_
        refine WL.fin hK84 (fun _ _ h => h) ?_
        -- region 10
        refine WC.region ?_
        -- R10.0 45 := checksum.go:41 move
        refine WL.v (by first | exact r_move (v := .slice _ _ _) rfl | exact r_move rfl) rfl rfl rfl ?_
        -- R10.1 46 := checksum.go:41 slice
        refine WL.v (by first | exact r_slS (l := 2) ty_sl25 rfl ⟨_, rfl⟩ rfl rfl (fun h => by first | rfl | cases h) (by omega) (by omega) (by omega) (by omega) | exact r_sl (l := 2) ty_sl25 rfl ⟨_, rfl⟩ rfl rfl (fun h => by first | rfl | cases h) (by omega) (by omega) (by omega)) rfl rfl rfl ?_
        -- R10.2 1 := checksum.go:41 assign
        refine WL.v (by first | exact r_assign (v := .slice _ _ _) rfl | exact r_assign rfl) rfl rfl rfl ?_
        refine WL.fin hK82 (fun _ _ h => h) ?_
        refine WC.seq fun K85 hK85 => ?_
        refine WC.seq fun K86 hK86 => ?_
        -- region 11
        refine WC.region ?_
        -- R11.0 47 := checksum.go:43 move
        refine WL.v (by first | exact r_move (v := .slice _ _ _) rfl | exact r_move rfl) rfl rfl rfl ?_
        -- R11.1 48 := checksum.go:43 call
        refine WL.v (by exact r_len ty_usl25 rfl) rfl rfl rfl ?_
        -- R11.2 49 := checksum.go:43 binOp
        refine WL.v (by first | exact r_eql rfl rfl (decide_eq_true (by omega)) | exact r_eql rfl rfl (decide_eq_false (by omega)) | exact r_eql rfl rfl rfl) rfl rfl rfl ?_
        refine WL.fin hK86 (fun _ _ h => h) ?_
        refine WC.condF rfl rfl ?_
        refine WC.skipF hK85 (fun _ _ h => h) ?_
        refine WC.seq fun K87 hK87 => ?_
        -- region 13
        refine WC.region ?_
        -- R13.0 57 := checksum.go:46 move
        refine WL.v (by first | exact r_move (v := .int _ _) rfl | exact r_move rfl) rfl rfl rfl ?_
        -- R13.1 58 := checksum.go:46 call
        refine WL.call (r_call ty_call39 rfl) rfl rfl rfl (fold_ok _ (by omega) (by omega) st) ?_
        rintro _ w ⟨rfl, st⟩
        -- R13.2 4 := checksum.go:46 assign
        refine WL.v (by first | exact r_assign (v := .int _ _) rfl | exact r_assign rfl) rfl rfl rfl ?_
        refine WL.fin hK87 (fun _ _ h => h) ?_
        refine WC.ret1 Tryd.results16 (fun _ _ h => h) rfl ?_
        exact ⟨_, rfl, congrArg (Value.int .u16) (hAe.fin (by omega)), st⟩
    · by_cases c1 : bs.length - k = 1
      · have ha4 := hadr' (by omega)
        subst ha4
        have q6 := hat (k) (by omega)
        have hAe := hA
        have hlo := hAe.lo
        have hhi := hAe.hi
        refine WC.seq fun K88 hK88 => ?_
        refine WC.seq fun K89 hK89 => ?_
        -- region 2
        refine WC.region ?_
        -- R2.0 8 := checksum.go:31 move
        refine WL.v (by first | exact r_move (v := .slice _ _ _) rfl | exact r_move rfl) rfl rfl rfl ?_
        -- R2.1 9 := checksum.go:31 call
        refine WL.v (by exact r_len ty_usl25 rfl) rfl rfl rfl ?_
        -- R2.2 10 := checksum.go:31 binOp
        refine WL.v (by first | exact r_geq rfl rfl (decide_eq_true (by omega)) | exact r_geq rfl rfl (decide_eq_false (by omega)) | exact r_geq rfl rfl rfl) rfl rfl rfl ?_
        refine WL.fin hK89 (fun _ _ h => h) ?_
        refine WC.condF rfl rfl ?_
        refine WC.exitF hK22 (fun _ _ h => h) ?_
        refine WC.seq fun K90 hK90 => ?_
        refine WC.seq fun K91 hK91 => ?_
        -- region 5
        refine WC.region ?_
        -- R5.0 25 := checksum.go:35 move
        refine WL.v (by first | exact r_move (v := .slice _ _ _) rfl | exact r_move rfl) rfl rfl rfl ?_
        -- R5.1 26 := checksum.go:35 call
        refine WL.v (by exact r_len ty_usl25 rfl) rfl rfl rfl ?_
        -- R5.2 27 := checksum.go:35 binOp
        refine WL.v (by first | exact r_geq rfl rfl (decide_eq_true (by omega)) | exact r_geq rfl rfl (decide_eq_false (by omega)) | exact r_geq rfl rfl rfl) rfl rfl rfl ?_
        refine WL.fin hK91 (fun _ _ h => h) ?_
        refine WC.condF rfl rfl ?_
        refine WC.skipF hK90 (fun _ _ h => h) ?_
        refine WC.seq fun K92 hK92 => ?_
        refine WC.seq fun K93 hK93 => ?_
        -- region 8
        refine WC.region ?_
        -- R8.0 36 := checksum.go:39 move
        refine WL.v (by first | exact r_move (v := .slice _ _ _) rfl | exact r_move rfl) rfl rfl rfl ?_
        -- R8.1 37 := checksum.go:39 call
        refine WL.v (by exact r_len ty_usl25 rfl) rfl rfl rfl ?_
        -- R8.2 38 := checksum.go:39 binOp
        refine WL.v (by first | exact r_geq rfl rfl (decide_eq_true (by omega)) | exact r_geq rfl rfl (decide_eq_false (by omega)) | exact r_geq rfl rfl rfl) rfl rfl rfl ?_
        refine WL.fin hK93 (fun _ _ h => h) ?_
        refine WC.condF rfl rfl ?_
        refine WC.skipF hK92 (fun _ _ h => h) ?_
        refine WC.seq fun K94 hK94 => ?_
        refine WC.seq fun K95 hK95 => ?_
        -- region 11
        refine WC.region ?_
        -- R11.0 47 := checksum.go:43 move
        refine WL.v (by first | exact r_move (v := .slice _ _ _) rfl | exact r_move rfl) rfl rfl rfl ?_
        -- R11.1 48 := checksum.go:43 call
        refine WL.v (by exact r_len ty_usl25 rfl) rfl rfl rfl ?_
        -- R11.2 49 := checksum.go:43 binOp
        refine WL.v (by first | exact r_eql rfl rfl (decide_eq_true (by omega)) | exact r_eql rfl rfl (decide_eq_false (by omega)) | exact r_eql rfl rfl rfl) rfl rfl rfl ?_
        refine WL.fin hK95 (fun _ _ h => h) ?_
        refine WC.condT rfl rfl ?_
        -- region 12
        refine WC.region ?_
        -- R12.0 50 := checksum.go:44 move
        refine WL.v (by first | exact r_move (v := .int _ _) rfl | exact r_move rfl) rfl rfl rfl ?_
        -- R12.1 51 := checksum.go:44 move
        refine WL.v (by first | exact r_move (v := .slice _ _ _) rfl | exact r_move rfl) rfl rfl rfl ?_
        -- R12.2 52 := checksum.go:44 indexAddr
        refine WL.v (by exact r_indexS (j := 0) ty_sl25 rfl rfl rfl (by first | decide | omega)) rfl rfl rfl ?_
        -- R12.3 53 := checksum.go:44 load
        refine WL.v (by exact r_load1 ty_one5 rfl (hrd [] _ st (k) (by omega))) rfl rfl rfl ?_
        -- R12.4 54 := checksum.go:44 convert
        refine WL.v (by first | exact r_conv ty_cv5_81 rfl (wu64 (by omega) (by omega)) | exact r_conv ty_cv5_81 rfl rfl) rfl rfl rfl ?_
        -- R12.5 55 := checksum.go:44 binOp
        refine WL.v (by exact r_shl (r := bs.getD (k) 0 * 2 ^ 8) rfl rfl (by omega) (wu64 (x := bs.getD (k) 0 * 2 ^ 8) (by omega) (by omega))) rfl rfl rfl ?_
        -- R12.6 56 := checksum.go:44 binOp
        refine WL.v (by first | exact r_add rfl rfl (wu64 (by omega) (by omega)) | exact r_add rfl rfl rfl) rfl rfl rfl ?_
        -- R12.7 5 := checksum.go:44 assign
        refine WL.v (by first | exact r_assign (v := .int _ _) rfl | exact r_assign rfl) rfl rfl rfl ?_
        refine WL.fin hK94 (fun _ _ h => h) ?_
        refine WC.seq fun K96 hK96 => ?_
        -- region 13
        refine WC.region ?_
        -- R13.0 57 := checksum.go:46 move
        refine WL.v (by first | exact r_move (v := .int _ _) rfl | exact r_move rfl) rfl rfl rfl ?_
        -- R13.1 58 := checksum.go:46 call
        refine WL.call (r_call ty_call39 rfl) rfl rfl rfl (fold_ok _ (by omega) (by omega) st) ?_
        rintro _ w ⟨rfl, st⟩
        -- R13.2 4 := checksum.go:46 assign
        refine WL.v (by first | exact r_assign (v := .int _ _) rfl | exact r_assign rfl) rfl rfl rfl ?_
        refine WL.fin hK96 (fun _ _ h => h) ?_
        refine WC.ret1 Tryd.results16 (fun _ _ h => h) rfl ?_
        exact ⟨_, rfl, congrArg (Value.int .u16) (hAe.one (by omega) (by omega) hbyt h0), st⟩
      · have hAe := hA
        have hlo := hAe.lo
        have hhi := hAe.hi
        refine WC.seq fun K97 hK97 => ?_
        refine WC.seq fun K98 hK98 => ?_
        -- region 2
        refine WC.region ?_
        -- R2.0 8 := checksum.go:31 move
        refine WL.v (by first | exact r_move (v := .slice _ _ _) rfl | exact r_move rfl) rfl rfl rfl ?_
        -- R2.1 9 := checksum.go:31 call
        refine WL.v (by exact r_len ty_usl25 rfl) rfl rfl rfl ?_
        -- R2.2 10 := checksum.go:31 binOp
        refine WL.v (by first | exact r_geq rfl rfl (decide_eq_true (by omega)) | exact r_geq rfl rfl (decide_eq_false (by omega)) | exact r_geq rfl rfl rfl) rfl rfl rfl ?_
        refine WL.fin hK98 (fun _ _ h => h) ?_
        refine WC.condF rfl rfl ?_
        refine WC.exitF hK22 (fun _ _ h => h) ?_
        refine WC.seq fun K99 hK99 => ?_
        refine WC.seq fun K100 hK100 => ?_
        -- region 5
        refine WC.region ?_
        -- R5.0 25 := checksum.go:35 move
        refine WL.v (by first | exact r_move (v := .slice _ _ _) rfl | exact r_move rfl) rfl rfl rfl ?_
        -- R5.1 26 := checksum.go:35 call
        refine WL.v (by exact r_len ty_usl25 rfl) rfl rfl rfl ?_
        -- R5.2 27 := checksum.go:35 binOp
        refine WL.v (by first | exact r_geq rfl rfl (decide_eq_true (by omega)) | exact r_geq rfl rfl (decide_eq_false (by omega)) | exact r_geq rfl rfl rfl) rfl rfl rfl ?_
        refine WL.fin hK100 (fun _ _ h => h) ?_
        refine WC.condF rfl rfl ?_
        refine WC.skipF hK99 (fun _ _ h => h) ?_
        refine WC.seq fun K101 hK101 => ?_
        refine WC.seq fun K102 hK102 => ?_
        -- region 8
        refine WC.region ?_
        -- R8.0 36 := checksum.go:39 move
        refine WL.v (by first | exact r_move (v := .slice _ _ _) rfl | exact r_move rfl) rfl rfl rfl ?_
        -- R8.1 37 := checksum.go:39 call
        refine WL.v (by exact r_len ty_usl25 rfl) rfl rfl rfl ?_
        -- R8.2 38 := checksum.go:39 binOp
        refine WL.v (by first | exact r_geq rfl rfl (decide_eq_true (by omega)) | exact r_geq rfl rfl (decide_eq_false (by omega)) | exact r_geq rfl rfl rfl) rfl rfl rfl ?_
        refine WL.fin hK102 (fun _ _ h => h) ?_
        refine WC.condF rfl rfl ?_
        refine WC.skipF hK101 (fun _ _ h => h) ?_
        refine WC.seq fun K103 hK103 => ?_
        refine WC.seq fun K104 hK104 => ?_
        -- region 11
        refine WC.region ?_
        -- R11.0 47 := checksum.go:43 move
        refine WL.v (by first | exact r_move (v := .slice _ _ _) rfl | exact r_move rfl) rfl rfl rfl ?_
        -- R11.1 48 := checksum.go:43 call
        refine WL.v (by exact r_len ty_usl25 rfl) rfl rfl rfl ?_
        -- R11.2 49 := checksum.go:43 binOp
        refine WL.v (by first | exact r_eql rfl rfl (decide_eq_true (by omega)) | exact r_eql rfl rfl (decide_eq_false (by omega)) | exact r_eql rfl rfl rfl) rfl rfl rfl ?_
        refine WL.fin hK104 (fun _ _ h => h) ?_
        refine WC.condF rfl rfl ?_
        refine WC.skipF hK103 (fun _ _ h => h) ?_
        refine WC.seq fun K105 hK105 => ?_
        -- region 13
        refine WC.region ?_
        -- R13.0 57 := checksum.go:46 move
        refine WL.v (by first | exact r_move (v := .int _ _) rfl | exact r_move rfl) rfl rfl rfl ?_
        -- R13.1 58 := checksum.go:46 call
        refine WL.call (r_call ty_call39 rfl) rfl rfl rfl (fold_ok _ (by omega) (by omega) st) ?_
        rintro _ w ⟨rfl, st⟩
        -- R13.2 4 := checksum.go:46 assign
        refine WL.v (by first | exact r_assign (v := .int _ _) rfl | exact r_assign rfl) rfl rfl rfl ?_
        refine WL.fin hK105 (fun _ _ h => h) ?_
        refine WC.ret1 Tryd.results16 (fun _ _ h => h) rfl ?_
        exact ⟨_, rfl, congrArg (Value.int .u16) (hAe.fin (by omega)), st⟩
end Go.Proofs.Qxb6500841aDoor

