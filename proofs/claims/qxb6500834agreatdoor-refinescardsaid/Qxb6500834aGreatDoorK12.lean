import Derived.Test.Qxb6500834aGreatDoorK11
set_option linter.unusedVariables false
set_option linter.unusedSimpArgs false
set_option maxRecDepth 20000
namespace Go.Proofs.Qxb6500834aGreatDoor
open Go.RowKit Go.E1 Go.Kern
variable {w0 : World} {L L' l I J K K' X : List HI} {w : World} {M : KM} {s : KS} {XQ : Nat → List HI}
variable {br bp bm mode now armed t r : Nat} {held claim : Nat → Nat → Nat} {qv : Nat → Value} {tk : Nat → TK} {cells : Nat → Nat} {births : Nat} {ov v : Value} {Q : List (Nat × Nat)} {queue : Nat → List (Nat × Nat)}

set_option maxHeartbeats 8000000 in
theorem safe_ok {bh : Nat} (hh : ∀ t r, held t r ≤ 16) (hc : ∀ t r, claim t r ≤ 16) (hm : pI bp mode claim ∈ l) (hmh : (bh, Row 45 320 (hM held)) ∈ l) (st : S0 w0 l w) :
    Calls Tryz.prog 162 #[.pointer (some ⟨bp, 0, none⟩), .pointer (some ⟨bh, 0, none⟩)] w (Ret fun v w' => v = .bool (safeP claim held) ∧ S0 w0 l w') := by
  refine enter [.pointer (some ⟨bp, 0, none⟩), .pointer (some ⟨bh, 0, none⟩)] Tryz.func162 rfl Tryz.ntmps162 rfl ?_
  show WC _ _ _ 75 [] [(0, .pointer (some ⟨bp, 0, none⟩)), (1, .pointer (some ⟨bh, 0, none⟩))] _
  refine WC.seq fun K390 hK390 => ?_
  -- region 0
  refine WC.region ?_
  -- R0.0 4 := policym.go:41 assign
  refine WL.v (by first | exact r_assign (v := .bool _) rfl | exact r_assign rfl) rfl rfl rfl ?_
  refine WL.fin hK390 (fun _ _ h => h) ?_
  refine WC.seq fun K391 hK391 => ?_
  -- region 1
  refine WC.region ?_
  -- R1.0 5 := policym.go:42 alloc
  refine WL.allocN (m := 20) st ty_zeroN44 rfl rfl ?_
  intro b5 w st
  refine WL.fin hK391 (fun _ _ h => h) ?_
  refine WC.seq fun K392 hK392 => ?_
  refine WC.seq fun K393 hK393 => ?_
  -- region 2
  refine WC.region ?_
  -- R2.0 13 := policym.go:43 move
  refine WL.v (by first | exact r_move (v := .int _ _) rfl | exact r_move rfl) rfl rfl rfl ?_
  refine WL.fin hK393 (fun _ _ h => h) ?_
  refine WC.block ?_
  refine WC.loop (ι := Nat × (Nat → Int)) (fun y => [(0, .pointer (some ⟨bp, 0, none⟩)), (1, .pointer (some ⟨bh, 0, none⟩)), (5, .pointer (some ⟨b5, 0, none⟩)), (13, .int .i64 (y.1 : Nat))])
    (fun y w' => y.1 ≤ 20 ∧ (∀ r, r < y.1 → y.2 r = freeP held r) ∧ S0 w0 ((b5, Row 44 20 (iF y.2)) :: l) w') (fun y => 20 - y.1) (0, fun _ => 0) ⟨Nat.zero_le _, fun r hr => absurd hr (Nat.not_lt_zero _), st⟩ ?_ ?_
  · skip
    repeat (first | exact sub_nil _ | refine sub_cons rfl rfl ?_)
  clear st
  rintro ⟨i, F⟩ w ⟨hi, hF, st⟩ K1 hK1
  dsimp only at hi hF st ⊢
  by_cases h20 : i = 20
  · subst h20
    have st : S0 w0 ((b5, Row 44 20 (iF (freeP held))) :: l) w := stE (fun k hk => by unfold iF; rw [hF k hk]) st
    clear hF
    refine WC.seq fun K394 hK394 => ?_
    -- region 3
    refine WC.region ?_
    -- R3.0 14 := policym.go:43 binOp
    refine WL.v (by first | exact r_lss rfl rfl (decide_eq_true (by omega)) | exact r_lss rfl rfl (decide_eq_false (by omega)) | exact r_lss rfl rfl rfl) rfl rfl rfl ?_
    refine WL.fin hK394 (fun _ _ h => h) ?_
    refine WC.seq fun K395 hK395 => ?_
    refine WC.condF rfl rfl ?_
    refine WC.exitF hK392 (fun _ _ h => h) ?_
    refine WC.seq fun K396 hK396 => ?_
    -- region 12
    refine WC.region ?_
    -- R12.0 8 := policym.go:49 alloc
    refine WL.allocN (m := 16) st ty_zeroN86 rfl rfl ?_
    intro b8 w st
    refine WL.fin hK396 (fun _ _ h => h) ?_
    refine WC.seq fun K397 hK397 => ?_
    refine WC.seq fun K398 hK398 => ?_
    -- region 13
    refine WC.region ?_
    -- R13.0 9 := policym.go:50 assign
    refine WL.v (by first | exact r_assign (v := .int _ _) rfl | exact r_assign rfl) rfl rfl rfl ?_
    refine WL.fin hK398 (fun _ _ h => h) ?_
    refine WC.block ?_
    have hfr : ∀ r, -256 ≤ freeP held r ∧ freeP held r ≤ 16 := fun r => by
      have h1 := sumP_le (f := fun t => held t r) (fun t => hh t r) 16
      have h2 := totP_le r
      unfold freeP
      omega
    refine WC.loop (ι := SS × Nat) (fun y => [(0, .pointer (some ⟨bp, 0, none⟩)), (1, .pointer (some ⟨bh, 0, none⟩)), (5, .pointer (some ⟨b5, 0, none⟩)), (8, .pointer (some ⟨b8, 0, none⟩)), (9, .int .i64 y.1.left)])
      (fun y w' => -16 ≤ y.1.left ∧ y.1.left ≤ 16 ∧ y.1.left.toNat < y.2 ∧ safeO claim held y.2 y.1 = safeP claim held ∧ (∀ r, -256 ≤ y.1.F r ∧ y.1.F r ≤ 16 + 16 * (16 - y.1.left)) ∧ S0 w0 ((b8, Row 86 16 (bF y.1.fin)) :: (b5, Row 44 20 (iF y.1.F)) :: l) w') (fun y => y.1.left.toNat)
      (⟨freeP held, fun _ => false, 16, false⟩, 17) ⟨by show (-16 : Int) ≤ 16; decide, by show (16 : Int) ≤ 16; decide, by show (16 : Int).toNat < 17; decide, rfl, fun r => ⟨(hfr r).1, by have := (hfr r).2; show freeP held r ≤ 16 + 16 * (16 - 16); omega⟩, st⟩ ?_ ?_
    · skip
      repeat (first | exact sub_nil _ | refine sub_cons rfl rfl ?_)
    clear st
    rintro ⟨s, k⟩ w ⟨hl1, hl2, hk, hsf, hFb, st⟩ K2 hK2
    dsimp only at hl1 hl2 hk hsf hFb st ⊢
    by_cases hl0 : s.left ≤ 0
    · have e : safeP claim held = true := by
        rw [← hsf]
        match k with
        | 0 => rfl
        | k + 1 => exact if_pos hl0
      refine WC.seq fun K399 hK399 => ?_
      refine WC.seq fun K400 hK400 => ?_
      -- region 14
      refine WC.region ?_
      -- R14.0 37 := policym.go:50 move
      refine WL.v (by first | exact r_move (v := .int _ _) rfl | exact r_move rfl) rfl rfl rfl ?_
      -- R14.1 38 := policym.go:50 binOp
      refine WL.v (by first | exact r_gtr rfl rfl (decide_eq_true (by omega)) | exact r_gtr rfl rfl (decide_eq_false (by omega)) | exact r_gtr rfl rfl rfl) rfl rfl rfl ?_
      refine WL.fin hK400 (fun _ _ h => h) ?_
      refine WC.condF rfl rfl ?_
      refine WC.exitF hK397 (fun _ _ h => h) ?_
      refine WC.seq fun K401 hK401 => ?_
      -- region 30
      refine WC.region ?_
      -- R30.0 4 := policym.go:66 assign
      refine WL.v (by first | exact r_assign (v := .bool _) rfl | exact r_assign rfl) rfl rfl rfl ?_
      refine WL.fin hK401 (fun _ _ h => h) ?_
      refine WC.ret1 Tryz.results162 (fun _ _ h => h) rfl ?_
      exact ⟨_, rfl, by rw [e]; rfl, st.drop.drop⟩
    obtain ⟨k, rfl⟩ : ∃ k', k = k' + 1 := ⟨k - 1, by omega⟩
    have hsf : (if (sweepP claim held { s with found := false } 16).found then safeO claim held k (sweepP claim held { s with found := false } 16) else false) = safeP claim held := by
      rw [← hsf]; exact (if_neg hl0).symm
    obtain ⟨σ, hσ⟩ : ∃ σ, σ = sweepP claim held { s with found := false } := ⟨_, rfl⟩
    have hσs : ∀ i, σ (i + 1) = safeT claim held (σ i) i := fun i => by rw [hσ]; rfl
    have hσ0 : σ 0 = { s with found := false } := by rw [hσ]; rfl
    rw [← hσ] at hsf
    refine WC.seq fun K402 hK402 => ?_
    refine WC.seq fun K403 hK403 => ?_
    -- region 14
    refine WC.region ?_
    -- R14.0 37 := policym.go:50 move
    refine WL.v (by first | exact r_move (v := .int _ _) rfl | exact r_move rfl) rfl rfl rfl ?_
    -- R14.1 38 := policym.go:50 binOp
    refine WL.v (by first | exact r_gtr rfl rfl (decide_eq_true (by omega)) | exact r_gtr rfl rfl (decide_eq_false (by omega)) | exact r_gtr rfl rfl rfl) rfl rfl rfl ?_
    refine WL.fin hK403 (fun _ _ h => h) ?_
    refine WC.condT rfl rfl ?_
    refine WC.skipF hK402 (fun _ _ h => h) ?_
    refine WC.block ?_
    refine WC.seq fun K404 hK404 => ?_
    -- region 15
    refine WC.region ?_
    -- R15.0 10 := policym.go:51 assign
    refine WL.v (by first | exact r_assign (v := .bool _) rfl | exact r_assign rfl) rfl rfl rfl ?_
    refine WL.fin hK404 (fun _ _ h => h) ?_
    refine WC.seq fun K405 hK405 => ?_
    refine WC.seq fun K406 hK406 => ?_
    -- region 16
    refine WC.region ?_
    -- R16.0 39 := policym.go:52 move
    refine WL.v (by first | exact r_move (v := .int _ _) rfl | exact r_move rfl) rfl rfl rfl ?_
    refine WL.fin hK406 (fun _ _ h => h) ?_
    refine WC.block ?_
    refine WC.loop (ι := Nat) (fun i => [(0, .pointer (some ⟨bp, 0, none⟩)), (1, .pointer (some ⟨bh, 0, none⟩)), (5, .pointer (some ⟨b5, 0, none⟩)), (8, .pointer (some ⟨b8, 0, none⟩)), (9, .int .i64 (σ i).left), (10, .bool (σ i).found), (39, .int .i64 (i : Nat))])
      (fun i w' => i ≤ 16 ∧ s.left - i ≤ (σ i).left ∧ (σ i).left ≤ s.left ∧ ((σ i).found = true → (σ i).left < s.left) ∧ (∀ r, -256 ≤ (σ i).F r ∧ (σ i).F r ≤ 16 + 16 * (16 - (σ i).left)) ∧ S0 w0 ((b8, Row 86 16 (bF (σ i).fin)) :: (b5, Row 44 20 (iF (σ i).F)) :: l) w') (fun i => 16 - i)
      0 ⟨by decide, by rw [hσ0]; show s.left - 0 ≤ s.left; omega, by rw [hσ0]; exact Int.le_refl _, by rw [hσ0]; exact (fun h => by cases h), by rw [hσ0]; exact hFb, by rw [hσ0]; exact st⟩ (by rw [hσ0]; repeat (first | exact sub_nil _ | refine sub_cons rfl rfl ?_)) ?_
    clear st
    rintro i w ⟨hi, hs1, hs2, hs3, hFi, st⟩ K3 hK3
    by_cases h16 : i = 16
    · subst h16
      rcases Bool.eq_false_or_eq_true (σ 16).found with hfd | hfd
      · have h3 := hs3 hfd
        rw [hfd] at hsf
        refine WC.seq fun K407 hK407 => ?_
        -- region 17
        refine WC.region ?_
        -- R17.0 40 := policym.go:52 binOp
        refine WL.v (by first | exact r_lss rfl rfl (decide_eq_true (by omega)) | exact r_lss rfl rfl (decide_eq_false (by omega)) | exact r_lss rfl rfl rfl) rfl rfl rfl ?_
        refine WL.fin hK407 (fun _ _ h => h) ?_
        refine WC.seq fun K408 hK408 => ?_
        refine WC.condF rfl rfl ?_
        refine WC.exitF hK405 (fun _ _ h => h) ?_
        refine WC.seq fun K409 hK409 => ?_
        -- region 28
        refine WC.region ?_
        -- R28.0 73 := policym.go:62 move
        refine WL.v (by exact r_move (v := .bool true) (congrArg Value.bool hfd)) rfl rfl rfl ?_
        -- R28.1 74 := policym.go:62 unOp
        refine WL.v (by first | exact r_notT rfl | exact r_notF rfl | exact r_not rfl) rfl rfl rfl ?_
        refine WL.fin hK409 (fun _ _ h => h) ?_
        refine WC.condF rfl rfl ?_
        refine WC.skipN hK2 (fun _ _ h => h) (σ 16, k) ⟨by show -16 ≤ (σ 16).left; omega, by show (σ 16).left ≤ 16; omega, by show (σ 16).left.toNat < k; omega, hsf, hFi, st⟩ (by show (σ 16).left.toNat < s.left.toNat; omega) (by repeat (first | exact sub_nil _ | refine sub_cons rfl rfl ?_))
      · rw [hfd] at hsf
        refine WC.seq fun K410 hK410 => ?_
        -- region 17
        refine WC.region ?_
        -- R17.0 40 := policym.go:52 binOp
        refine WL.v (by first | exact r_lss rfl rfl (decide_eq_true (by omega)) | exact r_lss rfl rfl (decide_eq_false (by omega)) | exact r_lss rfl rfl rfl) rfl rfl rfl ?_
        refine WL.fin hK410 (fun _ _ h => h) ?_
        refine WC.seq fun K411 hK411 => ?_
        refine WC.condF rfl rfl ?_
        refine WC.exitF hK405 (fun _ _ h => h) ?_
        refine WC.seq fun K412 hK412 => ?_
        -- region 28
        refine WC.region ?_
        -- R28.0 73 := policym.go:62 move
        refine WL.v (by exact r_move (v := .bool false) (congrArg Value.bool hfd)) rfl rfl rfl ?_
        -- R28.1 74 := policym.go:62 unOp
        refine WL.v (by first | exact r_notT rfl | exact r_notF rfl | exact r_not rfl) rfl rfl rfl ?_
        refine WL.fin hK412 (fun _ _ h => h) ?_
        refine WC.condT rfl rfl ?_
        refine WC.seq fun K413 hK413 => ?_
        -- region 29
        refine WC.region ?_
        -- R29.0 4 := policym.go:63 assign
        refine WL.v (by first | exact r_assign (v := .bool _) rfl | exact r_assign rfl) rfl rfl rfl ?_
        refine WL.fin hK413 (fun _ _ h => h) ?_
        refine WC.ret1 Tryz.results162 (fun _ _ h => h) rfl ?_
        exact ⟨_, rfl, by rw [← hsf]; rfl, st.drop.drop⟩
    have hi' : i < 16 := by omega
    rcases Bool.eq_false_or_eq_true ((σ i).fin i) with hfin | hfin
    · have e : σ (i + 1) = σ i := by rw [hσs]; exact if_pos (by rw [hfin]; rfl)
      refine WC.seq fun K414 hK414 => ?_
      -- region 17
      refine WC.region ?_
      -- R17.0 40 := policym.go:52 binOp
      refine WL.v (by first | exact r_lss rfl rfl (decide_eq_true (by omega)) | exact r_lss rfl rfl (decide_eq_false (by omega)) | exact r_lss rfl rfl rfl) rfl rfl rfl ?_
      refine WL.fin hK414 (fun _ _ h => h) ?_
      refine WC.seq fun K415 hK415 => ?_
      refine WC.condT rfl rfl ?_
      refine WC.skipF hK415 (fun _ _ h => h) ?_
      refine WC.seq fun K416 hK416 => ?_
      refine WC.block ?_
      refine WC.seq fun K417 hK417 => ?_
      -- region 18
      refine WC.region ?_
      -- R18.0 41 := policym.go:52 move
      refine WL.v (by first | exact r_move (v := .int _ _) rfl | exact r_move rfl) rfl rfl rfl ?_
      -- R18.1 11 := policym.go:52 assign
      refine WL.v (by first | exact r_assign (v := .int _ _) rfl | exact r_assign rfl) rfl rfl rfl ?_
      refine WL.fin hK417 (fun _ _ h => h) ?_
      refine WC.seq fun K418 hK418 => ?_
      refine WC.seq fun K419 hK419 => ?_
      -- region 19
      refine WC.region ?_
      -- R19.0 42 := policym.go:53 move
      refine WL.v (by first | exact r_move (v := .int _ _) rfl | exact r_move rfl) rfl rfl rfl ?_
      -- R19.1 43 := policym.go:53 indexAddr
      refine WL.v (by exact r_indexA ty_ar86 rfl rfl rfl (by omega)) rfl rfl rfl ?_
      -- R19.2 44 := policym.go:53 load
      refine WL.v (by exact r_load1 (v := .bool true) ty_one4 rfl (by rw [← hfin]; exact c_bF (List.mem_cons_self) hi' st)) rfl rfl rfl ?_
      -- R19.3 45 := policym.go:53 move
      refine WL.v (by first | exact r_move (v := .bool _) rfl | exact r_move rfl) rfl rfl rfl ?_
      -- R19.4 46 := policym.go:53 move
      refine WL.no rfl rfl ?_
      -- R19.5 47 := policym.go:53 move
      refine WL.no rfl rfl ?_
      -- R19.6 48 := policym.go:53 move
      refine WL.no rfl rfl ?_
      -- R19.7 49 := policym.go:53 call
      refine WL.no rfl rfl ?_
      -- R19.8 50 := policym.go:53 unOp
      refine WL.no rfl rfl ?_
      -- R19.9 51 := policym.go:53 pick
      refine WL.v (by first | exact r_pickT (v := .bool _) rfl rfl | exact r_pickF (v := .bool _) rfl rfl) rfl rfl rfl ?_
      refine WL.fin hK419 (fun _ _ h => h) ?_
      refine WC.condT rfl rfl ?_
      refine WC.exitF hK416 (fun _ _ h => h) ?_
      -- region 27
      refine WC.region ?_
      -- R27.0 72 := policym.go:52 binOp
      refine WL.v (by first | exact r_add rfl rfl (wi64 (by omega) (by omega)) | exact r_add rfl rfl rfl) rfl rfl rfl ?_
      -- R27.1 39 := policym.go:52 move
      refine WL.v (by first | exact r_move (v := .int _ _) rfl | exact r_move rfl) rfl rfl rfl ?_
      refine WL.next hK3 (fun _ _ h => h) (i + 1) ⟨hi', by rw [e]; omega, by rw [e]; exact hs2, by rw [e]; exact hs3, by rw [e]; exact hFi, by rw [e]; exact st⟩ (by omega) (by rw [e]; repeat (first | exact sub_nil _ | refine sub_cons rfl rfl ?_))
    rcases Bool.eq_false_or_eq_true (fitsP claim held (σ i).F i) with hfit | hfit
    · have e : σ (i + 1) = ⟨fun r => (σ i).F r + (held i r : Nat), updN (σ i).fin i true, (σ i).left - 1, true⟩ := by rw [hσs]; exact if_neg (by rw [hfin, hfit]; decide)
      refine WC.seq fun K420 hK420 => ?_
      -- region 17
      refine WC.region ?_
      -- R17.0 40 := policym.go:52 binOp
      refine WL.v (by first | exact r_lss rfl rfl (decide_eq_true (by omega)) | exact r_lss rfl rfl (decide_eq_false (by omega)) | exact r_lss rfl rfl rfl) rfl rfl rfl ?_
      refine WL.fin hK420 (fun _ _ h => h) ?_
      refine WC.seq fun K421 hK421 => ?_
      refine WC.condT rfl rfl ?_
      refine WC.skipF hK421 (fun _ _ h => h) ?_
      refine WC.seq fun K422 hK422 => ?_
      refine WC.block ?_
      refine WC.seq fun K423 hK423 => ?_
      -- region 18
      refine WC.region ?_
      -- R18.0 41 := policym.go:52 move
      refine WL.v (by first | exact r_move (v := .int _ _) rfl | exact r_move rfl) rfl rfl rfl ?_
      -- R18.1 11 := policym.go:52 assign
      refine WL.v (by first | exact r_assign (v := .int _ _) rfl | exact r_assign rfl) rfl rfl rfl ?_
      refine WL.fin hK423 (fun _ _ h => h) ?_
      refine WC.seq fun K424 hK424 => ?_
      refine WC.seq fun K425 hK425 => ?_
      -- region 19
      refine WC.region ?_
      -- R19.0 42 := policym.go:53 move
      refine WL.v (by first | exact r_move (v := .int _ _) rfl | exact r_move rfl) rfl rfl rfl ?_
      -- R19.1 43 := policym.go:53 indexAddr
      refine WL.v (by exact r_indexA ty_ar86 rfl rfl rfl (by omega)) rfl rfl rfl ?_
      -- R19.2 44 := policym.go:53 load
      refine WL.v (by exact r_load1 (v := .bool false) ty_one4 rfl (by rw [← hfin]; exact c_bF (List.mem_cons_self) hi' st)) rfl rfl rfl ?_
      -- R19.3 45 := policym.go:53 move
      refine WL.v (by first | exact r_move (v := .bool _) rfl | exact r_move rfl) rfl rfl rfl ?_
      -- R19.4 46 := policym.go:53 move
      refine WL.v (by first | exact r_move (v := .pointer _) rfl | exact r_move rfl) rfl rfl rfl ?_
      -- R19.5 47 := policym.go:53 move
      refine WL.v (by first | exact r_move (v := .int _ _) rfl | exact r_move rfl) rfl rfl rfl ?_
      -- R19.6 48 := policym.go:53 move
      refine WL.v (by first | exact r_move (v := .pointer _) rfl | exact r_move rfl) rfl rfl rfl ?_
      -- R19.7 49 := policym.go:53 call
      refine WL.call (r_call ty_call189 rfl) rfl rfl rfl (fits_ok (F := (σ i).F) hi' hh hc (List.mem_cons_of_mem _ (List.mem_cons_of_mem _ hm)) (List.mem_cons_of_mem _ (List.mem_cons_of_mem _ hmh)) (List.mem_cons_of_mem _ List.mem_cons_self) st) ?_
      rintro _ w ⟨he, st⟩
      rw [hfit] at he
      subst he
      -- R19.8 50 := policym.go:53 unOp
      refine WL.v (by first | exact r_notT rfl | exact r_notF rfl | exact r_not rfl) rfl rfl rfl ?_
      -- R19.9 51 := policym.go:53 pick
      refine WL.v (by first | exact r_pickT (v := .bool _) rfl rfl | exact r_pickF (v := .bool _) rfl rfl) rfl rfl rfl ?_
      refine WL.fin hK425 (fun _ _ h => h) ?_
      refine WC.condF rfl rfl ?_
      refine WC.skipF hK424 (fun _ _ h => h) ?_
      refine WC.seq fun K426 hK426 => ?_
      refine WC.seq fun K427 hK427 => ?_
      -- region 20
      refine WC.region ?_
      -- R20.0 52 := policym.go:56 move
      refine WL.v (by first | exact r_move (v := .int _ _) rfl | exact r_move rfl) rfl rfl rfl ?_
      refine WL.fin hK427 (fun _ _ h => h) ?_
      refine WC.block ?_
      refine WC.loop (ι := Nat × (Nat → Int)) (fun y => [(0, .pointer (some ⟨bp, 0, none⟩)), (1, .pointer (some ⟨bh, 0, none⟩)), (5, .pointer (some ⟨b5, 0, none⟩)), (8, .pointer (some ⟨b8, 0, none⟩)), (9, .int .i64 (σ i).left), (10, .bool (σ i).found), (11, .int .i64 (i : Nat)), (39, .int .i64 (i : Nat)), (52, .int .i64 (y.1 : Nat))])
        (fun y w' => y.1 ≤ 20 ∧ (∀ r, r < y.1 → y.2 r = (σ i).F r + (held i r : Nat)) ∧ (∀ r, y.1 ≤ r → y.2 r = (σ i).F r) ∧ S0 w0 ((b8, Row 86 16 (bF (σ i).fin)) :: (b5, Row 44 20 (iF y.2)) :: l) w') (fun y => 20 - y.1)
        (0, (σ i).F) ⟨Nat.zero_le _, fun r hr => absurd hr (Nat.not_lt_zero _), fun _ _ => rfl, st⟩ ?_ ?_
      · skip
        repeat (first | exact sub_nil _ | refine sub_cons rfl rfl ?_)
      clear st
      rintro ⟨j, F'⟩ w ⟨hj, hFa, hFc, st⟩ K4 hK4
      dsimp only at hj hFa hFc st ⊢
      by_cases hj20 : j = 20
      · subst hj20
        have st : S0 w0 ((b8, Row 86 16 (bF (σ i).fin)) :: (b5, Row 44 20 (iF fun r => (σ i).F r + (held i r : Nat))) :: l) w := (stE (fun k hk => by unfold iF; rw [hFa k hk]) st.front1).front1
        refine WC.seq fun K428 hK428 => ?_
        -- region 21
        refine WC.region ?_
        -- R21.0 53 := policym.go:56 binOp
        refine WL.v (by first | exact r_lss rfl rfl (decide_eq_true (by omega)) | exact r_lss rfl rfl (decide_eq_false (by omega)) | exact r_lss rfl rfl rfl) rfl rfl rfl ?_
        refine WL.fin hK428 (fun _ _ h => h) ?_
        refine WC.seq fun K429 hK429 => ?_
        refine WC.condF rfl rfl ?_
        refine WC.exitF hK426 (fun _ _ h => h) ?_
        refine WC.seq fun K430 hK430 => ?_
        -- region 25
        refine WC.region ?_
        -- R25.0 68 := policym.go:59 move
        refine WL.v (by first | exact r_move (v := .int _ _) rfl | exact r_move rfl) rfl rfl rfl ?_
        -- R25.1 69 := policym.go:59 indexAddr
        refine WL.v (by exact r_indexA ty_ar86 rfl rfl rfl (by omega)) rfl rfl rfl ?_
        -- R25.2 None := policym.go:59 store
        first | refine WL.store (v := .bool _) st ty_one4 rfl rfl rfl (by first | decide | omega) rfl rfl ?_ | refine WL.store (v := _) st ty_one4 rfl rfl rfl (by first | decide | omega) rfl rfl ?_ | refine WL.store (v := .bool _) st.front1 ty_one4 rfl rfl rfl (by first | decide | omega) rfl rfl ?_ | refine WL.store (v := _) st.front1 ty_one4 rfl rfl rfl (by first | decide | omega) rfl rfl ?_ | refine WL.store (v := .bool _) st.front2 ty_one4 rfl rfl rfl (by first | decide | omega) rfl rfl ?_ | refine WL.store (v := _) st.front2 ty_one4 rfl rfl rfl (by first | decide | omega) rfl rfl ?_ | refine WL.store (v := .bool _) st.front3 ty_one4 rfl rfl rfl (by first | decide | omega) rfl rfl ?_ | refine WL.store (v := _) st.front3 ty_one4 rfl rfl rfl (by first | decide | omega) rfl rfl ?_ | refine WL.store (v := .bool _) st.front4 ty_one4 rfl rfl rfl (by first | decide | omega) rfl rfl ?_ | refine WL.store (v := _) st.front4 ty_one4 rfl rfl rfl (by first | decide | omega) rfl rfl ?_ | refine WL.store (v := .bool _) st.front5 ty_one4 rfl rfl rfl (by first | decide | omega) rfl rfl ?_ | refine WL.store (v := _) st.front5 ty_one4 rfl rfl rfl (by first | decide | omega) rfl rfl ?_ | refine WL.store (v := .bool _) st.front6 ty_one4 rfl rfl rfl (by first | decide | omega) rfl rfl ?_ | refine WL.store (v := _) st.front6 ty_one4 rfl rfl rfl (by first | decide | omega) rfl rfl ?_ | refine WL.store (v := .bool _) st.front7 ty_one4 rfl rfl rfl (by first | decide | omega) rfl rfl ?_ | refine WL.store (v := _) st.front7 ty_one4 rfl rfl rfl (by first | decide | omega) rfl rfl ?_ | refine WL.store (v := .bool _) st.front8 ty_one4 rfl rfl rfl (by first | decide | omega) rfl rfl ?_ | refine WL.store (v := _) st.front8 ty_one4 rfl rfl rfl (by first | decide | omega) rfl rfl ?_
        intro w st
        -- R25.3 10 := policym.go:59 assign
        refine WL.v (by first | exact r_assign (v := .bool _) rfl | exact r_assign rfl) rfl rfl rfl ?_
        refine WL.fin hK430 (fun _ _ h => h) ?_
        -- region 26
        refine WC.region ?_
        -- R26.0 70 := policym.go:60 move
        refine WL.v (by first | exact r_move (v := .int _ _) rfl | exact r_move rfl) rfl rfl rfl ?_
        -- R26.1 71 := policym.go:60 binOp
        refine WL.v (by first | exact r_sub rfl rfl (wi64 (by omega) (by omega)) | exact r_sub rfl rfl rfl) rfl rfl rfl ?_
        -- R26.2 9 := policym.go:60 assign
        refine WL.v (by first | exact r_assign (v := .int _ _) rfl | exact r_assign rfl) rfl rfl rfl ?_
        refine WL.fin hK422 (fun _ _ h => h) ?_
        -- region 27
        refine WC.region ?_
        -- R27.0 72 := policym.go:52 binOp
        refine WL.v (by first | exact r_add rfl rfl (wi64 (by omega) (by omega)) | exact r_add rfl rfl rfl) rfl rfl rfl ?_
        -- R27.1 39 := policym.go:52 move
        refine WL.v (by first | exact r_move (v := .int _ _) rfl | exact r_move rfl) rfl rfl rfl ?_
        have st := stE (bF_set (n := 16)) st
        refine WL.next hK3 (fun _ _ h => h) (i + 1) ⟨hi', by rw [e]; show s.left - ((i + 1 : Nat) : Int) ≤ (σ i).left - 1; omega, by rw [e]; show (σ i).left - 1 ≤ s.left; omega, by rw [e]; exact fun _ => (by show (σ i).left - 1 < s.left; omega), by rw [e]; exact fun r => (by have h1 := hFi r; have h2 := hh i r; show -256 ≤ (σ i).F r + (held i r : Nat) ∧ (σ i).F r + (held i r : Nat) ≤ 16 + 16 * (16 - ((σ i).left - 1)); omega), by rw [e]; exact st⟩ (by omega) (by rw [e]; repeat (first | exact sub_nil _ | refine sub_cons rfl rfl ?_))
      have hj' : j < 20 := by omega
      have h1 := hFi j
      have h2 := hh i j
      have hFj := hFc j (Nat.le_refl _)
      refine WC.seq fun K431 hK431 => ?_
      -- region 21
      refine WC.region ?_
      -- R21.0 53 := policym.go:56 binOp
      refine WL.v (by first | exact r_lss rfl rfl (decide_eq_true (by omega)) | exact r_lss rfl rfl (decide_eq_false (by omega)) | exact r_lss rfl rfl rfl) rfl rfl rfl ?_
      refine WL.fin hK431 (fun _ _ h => h) ?_
      refine WC.seq fun K432 hK432 => ?_
      refine WC.condT rfl rfl ?_
      refine WC.skipF hK432 (fun _ _ h => h) ?_
      refine WC.seq fun K433 hK433 => ?_
      refine WC.block ?_
      refine WC.seq fun K434 hK434 => ?_
      -- region 22
      refine WC.region ?_
      -- R22.0 54 := policym.go:56 move
      refine WL.v (by first | exact r_move (v := .int _ _) rfl | exact r_move rfl) rfl rfl rfl ?_
      -- R22.1 12 := policym.go:56 assign
      refine WL.v (by first | exact r_assign (v := .int _ _) rfl | exact r_assign rfl) rfl rfl rfl ?_
      refine WL.fin hK434 (fun _ _ h => h) ?_
      -- region 23 (draws)
      refine WC.tailS 12 st ty_mixed (by kernel_rfl) fun w st Kq hKq => ?_
      -- R23.0 55 := policym.go:57 move
      refine SL.v (by first | exact r_move (v := .int _ _) rfl | exact r_move rfl) rfl rfl rfl ?_
      -- R23.1 56 := policym.go:57 indexAddr
      refine SL.v (by exact r_indexA ty_ar44 rfl rfl rfl (by omega)) rfl rfl rfl ?_
      -- R23.2 57 := policym.go:57 load
      refine SL.v (by exact r_load1 (v := .int .i64 (F' j)) ty_one3 rfl (c_iF (F := F') (List.mem_cons_of_mem _ List.mem_cons_self) hj' st)) rfl rfl rfl ?_
      -- R23.3 58 := policym.go:57 move
      refine SL.v (by first | exact r_move (v := .pointer _) rfl | exact r_move rfl) rfl rfl rfl ?_
      -- R23.4 59 := policym.go:57 move
      refine SL.v (by first | exact r_move (v := .int _ _) rfl | exact r_move rfl) rfl rfl rfl ?_
      -- R23.5 60 := policym.go:57 move
      refine SL.v (by first | exact r_move (v := .int _ _) rfl | exact r_move rfl) rfl rfl rfl ?_
      -- R23.6 61 := policym.go:57 nilCheck
      refine SL.v (by exact r_nilCheck rfl) rfl rfl rfl ?_
      -- R23.7 62 := policym.go:57 indexAddr
      refine SL.v (by exact r_indexA ty_ar45 rfl rfl rfl (by omega)) rfl rfl rfl ?_
      -- R23.8 63 := policym.go:57 indexAddr
      refine SL.v (by exact r_indexA ty_ar44 rfl rfl rfl (by omega)) rfl rfl rfl ?_
      -- R23.9 64 := policym.go:57 load
      refine SL.v (by exact r_load1 (v := .int .i64 (held i j : Nat)) ty_one3 rfl (c_hM (List.mem_cons_of_mem _ (List.mem_cons_of_mem _ hmh)) hi' hj' st)) rfl rfl rfl ?_
      -- R23.10 65 := policym.go:57 binOp
      refine SL.v (by first | exact r_add rfl rfl (wi64 (by omega) (by omega)) | exact r_add rfl rfl rfl) rfl rfl rfl ?_
      -- R23.11 66 := policym.go:57 indexAddr
      refine SL.v (by exact r_indexA ty_ar44 rfl rfl rfl (by omega)) rfl rfl rfl ?_
      refine SL.fin hKq ?_
      -- R23.12 None := policym.go:57 store
      first | refine WL.store (v := .int _ _) st ty_one3 rfl rfl rfl (by first | decide | omega) rfl rfl ?_ | refine WL.store (v := _) st ty_one3 rfl rfl rfl (by first | decide | omega) rfl rfl ?_ | refine WL.store (v := .int _ _) st.front1 ty_one3 rfl rfl rfl (by first | decide | omega) rfl rfl ?_ | refine WL.store (v := _) st.front1 ty_one3 rfl rfl rfl (by first | decide | omega) rfl rfl ?_ | refine WL.store (v := .int _ _) st.front2 ty_one3 rfl rfl rfl (by first | decide | omega) rfl rfl ?_ | refine WL.store (v := _) st.front2 ty_one3 rfl rfl rfl (by first | decide | omega) rfl rfl ?_ | refine WL.store (v := .int _ _) st.front3 ty_one3 rfl rfl rfl (by first | decide | omega) rfl rfl ?_ | refine WL.store (v := _) st.front3 ty_one3 rfl rfl rfl (by first | decide | omega) rfl rfl ?_ | refine WL.store (v := .int _ _) st.front4 ty_one3 rfl rfl rfl (by first | decide | omega) rfl rfl ?_ | refine WL.store (v := _) st.front4 ty_one3 rfl rfl rfl (by first | decide | omega) rfl rfl ?_ | refine WL.store (v := .int _ _) st.front5 ty_one3 rfl rfl rfl (by first | decide | omega) rfl rfl ?_ | refine WL.store (v := _) st.front5 ty_one3 rfl rfl rfl (by first | decide | omega) rfl rfl ?_ | refine WL.store (v := .int _ _) st.front6 ty_one3 rfl rfl rfl (by first | decide | omega) rfl rfl ?_ | refine WL.store (v := _) st.front6 ty_one3 rfl rfl rfl (by first | decide | omega) rfl rfl ?_ | refine WL.store (v := .int _ _) st.front7 ty_one3 rfl rfl rfl (by first | decide | omega) rfl rfl ?_ | refine WL.store (v := _) st.front7 ty_one3 rfl rfl rfl (by first | decide | omega) rfl rfl ?_ | refine WL.store (v := .int _ _) st.front8 ty_one3 rfl rfl rfl (by first | decide | omega) rfl rfl ?_ | refine WL.store (v := _) st.front8 ty_one3 rfl rfl rfl (by first | decide | omega) rfl rfl ?_
      intro w st
      refine WL.fin hK433 (fun _ _ h => h) ?_
      -- region 24
      refine WC.region ?_
      -- R24.0 67 := policym.go:56 binOp
      refine WL.v (by first | exact r_add rfl rfl (wi64 (by omega) (by omega)) | exact r_add rfl rfl rfl) rfl rfl rfl ?_
      -- R24.1 52 := policym.go:56 move
      refine WL.v (by first | exact r_move (v := .int _ _) rfl | exact r_move rfl) rfl rfl rfl ?_
      refine WL.next hK4 (fun _ _ h => h) (j + 1, updN F' j (F' j + (held i j : Nat))) ⟨hj', fun r hr => by { have hr : r < j + 1 := hr; by_cases hrj : r = j; · { subst hrj; show updN F' r _ r = _; rw [updN_same, hFj] }; · { show updN F' j _ r = _; rw [updN_ne hrj]; exact hFa r (by omega) } }, fun r hr => by { have hr : j + 1 ≤ r := hr; show updN F' j _ r = _; rw [updN_ne (by omega)]; exact hFc r (by omega) }, (stE (iF_set (n := 20)) st).front1⟩ (by show 20 - (j + 1) < 20 - j; omega) (by repeat (first | exact sub_nil _ | refine sub_cons rfl rfl ?_))
    · have e : σ (i + 1) = σ i := by rw [hσs]; exact if_pos (by rw [hfin, hfit]; rfl)
      refine WC.seq fun K435 hK435 => ?_
      -- region 17
      refine WC.region ?_
      -- R17.0 40 := policym.go:52 binOp
      refine WL.v (by first | exact r_lss rfl rfl (decide_eq_true (by omega)) | exact r_lss rfl rfl (decide_eq_false (by omega)) | exact r_lss rfl rfl rfl) rfl rfl rfl ?_
      refine WL.fin hK435 (fun _ _ h => h) ?_
      refine WC.seq fun K436 hK436 => ?_
      refine WC.condT rfl rfl ?_
      refine WC.skipF hK436 (fun _ _ h => h) ?_
      refine WC.seq fun K437 hK437 => ?_
      refine WC.block ?_
      refine WC.seq fun K438 hK438 => ?_
      -- region 18
      refine WC.region ?_
      -- R18.0 41 := policym.go:52 move
      refine WL.v (by first | exact r_move (v := .int _ _) rfl | exact r_move rfl) rfl rfl rfl ?_
      -- R18.1 11 := policym.go:52 assign
      refine WL.v (by first | exact r_assign (v := .int _ _) rfl | exact r_assign rfl) rfl rfl rfl ?_
      refine WL.fin hK438 (fun _ _ h => h) ?_
      refine WC.seq fun K439 hK439 => ?_
      refine WC.seq fun K440 hK440 => ?_
      -- region 19
      refine WC.region ?_
      -- R19.0 42 := policym.go:53 move
      refine WL.v (by first | exact r_move (v := .int _ _) rfl | exact r_move rfl) rfl rfl rfl ?_
      -- R19.1 43 := policym.go:53 indexAddr
      refine WL.v (by exact r_indexA ty_ar86 rfl rfl rfl (by omega)) rfl rfl rfl ?_
      -- R19.2 44 := policym.go:53 load
      refine WL.v (by exact r_load1 (v := .bool false) ty_one4 rfl (by rw [← hfin]; exact c_bF (List.mem_cons_self) hi' st)) rfl rfl rfl ?_
      -- R19.3 45 := policym.go:53 move
      refine WL.v (by first | exact r_move (v := .bool _) rfl | exact r_move rfl) rfl rfl rfl ?_
      -- R19.4 46 := policym.go:53 move
      refine WL.v (by first | exact r_move (v := .pointer _) rfl | exact r_move rfl) rfl rfl rfl ?_
      -- R19.5 47 := policym.go:53 move
      refine WL.v (by first | exact r_move (v := .int _ _) rfl | exact r_move rfl) rfl rfl rfl ?_
      -- R19.6 48 := policym.go:53 move
      refine WL.v (by first | exact r_move (v := .pointer _) rfl | exact r_move rfl) rfl rfl rfl ?_
      -- R19.7 49 := policym.go:53 call
      refine WL.call (r_call ty_call189 rfl) rfl rfl rfl (fits_ok (F := (σ i).F) hi' hh hc (List.mem_cons_of_mem _ (List.mem_cons_of_mem _ hm)) (List.mem_cons_of_mem _ (List.mem_cons_of_mem _ hmh)) (List.mem_cons_of_mem _ List.mem_cons_self) st) ?_
      rintro _ w ⟨he, st⟩
      rw [hfit] at he
      subst he
      -- R19.8 50 := policym.go:53 unOp
      refine WL.v (by first | exact r_notT rfl | exact r_notF rfl | exact r_not rfl) rfl rfl rfl ?_
      -- R19.9 51 := policym.go:53 pick
      refine WL.v (by first | exact r_pickT (v := .bool _) rfl rfl | exact r_pickF (v := .bool _) rfl rfl) rfl rfl rfl ?_
      refine WL.fin hK440 (fun _ _ h => h) ?_
      refine WC.condT rfl rfl ?_
      refine WC.exitF hK437 (fun _ _ h => h) ?_
      -- region 27
      refine WC.region ?_
      -- R27.0 72 := policym.go:52 binOp
      refine WL.v (by first | exact r_add rfl rfl (wi64 (by omega) (by omega)) | exact r_add rfl rfl rfl) rfl rfl rfl ?_
      -- R27.1 39 := policym.go:52 move
      refine WL.v (by first | exact r_move (v := .int _ _) rfl | exact r_move rfl) rfl rfl rfl ?_
      refine WL.next hK3 (fun _ _ h => h) (i + 1) ⟨hi', by rw [e]; omega, by rw [e]; exact hs2, by rw [e]; exact hs3, by rw [e]; exact hFi, by rw [e]; exact st⟩ (by omega) (by rw [e]; repeat (first | exact sub_nil _ | refine sub_cons rfl rfl ?_))
  have hi' : i < 20 := by omega
  have hT := totP_le i
  refine WC.seq fun K441 hK441 => ?_
  -- region 3
  refine WC.region ?_
  -- R3.0 14 := policym.go:43 binOp
  refine WL.v (by first | exact r_lss rfl rfl (decide_eq_true (by omega)) | exact r_lss rfl rfl (decide_eq_false (by omega)) | exact r_lss rfl rfl rfl) rfl rfl rfl ?_
  refine WL.fin hK441 (fun _ _ h => h) ?_
  refine WC.seq fun K442 hK442 => ?_
  refine WC.condT rfl rfl ?_
  refine WC.skipF hK442 (fun _ _ h => h) ?_
  refine WC.seq fun K443 hK443 => ?_
  refine WC.block ?_
  refine WC.seq fun K444 hK444 => ?_
  -- region 4
  refine WC.region ?_
  -- R4.0 15 := policym.go:43 move
  refine WL.v (by first | exact r_move (v := .int _ _) rfl | exact r_move rfl) rfl rfl rfl ?_
  -- R4.1 6 := policym.go:43 assign
  refine WL.v (by first | exact r_assign (v := .int _ _) rfl | exact r_assign rfl) rfl rfl rfl ?_
  refine WL.fin hK444 (fun _ _ h => h) ?_
  refine WC.seq fun K445 hK445 => ?_
  -- region 5
  refine WC.region ?_
  -- R5.0 16 := policym.go:44 move
  refine WL.v (by first | exact r_move (v := .int _ _) rfl | exact r_move rfl) rfl rfl rfl ?_
  -- R5.1 17 := policym.go:44 move
  refine WL.v (by first | exact r_move (v := .int _ _) rfl | exact r_move rfl) rfl rfl rfl ?_
  -- R5.2 18 := policym.go:44 call
  refine WL.call (r_call ty_call58 rfl) rfl rfl rfl (total_ok st) ?_
  rintro _ w ⟨rfl, st⟩
  -- R5.3 19 := policym.go:44 indexAddr
  refine WL.v (by exact r_indexA ty_ar44 rfl rfl rfl (by omega)) rfl rfl rfl ?_
  -- R5.4 None := policym.go:44 store
  first | refine WL.store (v := .int _ _) st ty_one3 rfl rfl rfl (by first | decide | omega) rfl rfl ?_ | refine WL.store (v := _) st ty_one3 rfl rfl rfl (by first | decide | omega) rfl rfl ?_ | refine WL.store (v := .int _ _) st.front1 ty_one3 rfl rfl rfl (by first | decide | omega) rfl rfl ?_ | refine WL.store (v := _) st.front1 ty_one3 rfl rfl rfl (by first | decide | omega) rfl rfl ?_ | refine WL.store (v := .int _ _) st.front2 ty_one3 rfl rfl rfl (by first | decide | omega) rfl rfl ?_ | refine WL.store (v := _) st.front2 ty_one3 rfl rfl rfl (by first | decide | omega) rfl rfl ?_ | refine WL.store (v := .int _ _) st.front3 ty_one3 rfl rfl rfl (by first | decide | omega) rfl rfl ?_ | refine WL.store (v := _) st.front3 ty_one3 rfl rfl rfl (by first | decide | omega) rfl rfl ?_ | refine WL.store (v := .int _ _) st.front4 ty_one3 rfl rfl rfl (by first | decide | omega) rfl rfl ?_ | refine WL.store (v := _) st.front4 ty_one3 rfl rfl rfl (by first | decide | omega) rfl rfl ?_ | refine WL.store (v := .int _ _) st.front5 ty_one3 rfl rfl rfl (by first | decide | omega) rfl rfl ?_ | refine WL.store (v := _) st.front5 ty_one3 rfl rfl rfl (by first | decide | omega) rfl rfl ?_ | refine WL.store (v := .int _ _) st.front6 ty_one3 rfl rfl rfl (by first | decide | omega) rfl rfl ?_ | refine WL.store (v := _) st.front6 ty_one3 rfl rfl rfl (by first | decide | omega) rfl rfl ?_ | refine WL.store (v := .int _ _) st.front7 ty_one3 rfl rfl rfl (by first | decide | omega) rfl rfl ?_ | refine WL.store (v := _) st.front7 ty_one3 rfl rfl rfl (by first | decide | omega) rfl rfl ?_ | refine WL.store (v := .int _ _) st.front8 ty_one3 rfl rfl rfl (by first | decide | omega) rfl rfl ?_ | refine WL.store (v := _) st.front8 ty_one3 rfl rfl rfl (by first | decide | omega) rfl rfl ?_
  intro w st
  refine WL.fin hK445 (fun _ _ h => h) ?_
  refine WC.seq fun K446 hK446 => ?_
  -- region 6
  refine WC.region ?_
  -- R6.0 20 := policym.go:45 move
  refine WL.v (by first | exact r_move (v := .int _ _) rfl | exact r_move rfl) rfl rfl rfl ?_
  refine WL.fin hK446 (fun _ _ h => h) ?_
  refine WC.block ?_
  have st : S0 w0 ((b5, Row 44 20 (iF (updN F i (totP i)))) :: l) w := stE (iF_set (n := 20)) st
  refine WC.loop (ι := Nat × (Nat → Int)) (fun y => [(0, .pointer (some ⟨bp, 0, none⟩)), (1, .pointer (some ⟨bh, 0, none⟩)), (5, .pointer (some ⟨b5, 0, none⟩)), (6, .int .i64 (i : Nat)), (13, .int .i64 (i : Nat)), (20, .int .i64 (y.1 : Nat))])
    (fun y w' => y.1 ≤ 16 ∧ (∀ r, r < i → y.2 r = freeP held r) ∧ y.2 i = (totP i : Int) - (sumP (fun t => held t i) y.1 : Nat) ∧ S0 w0 ((b5, Row 44 20 (iF y.2)) :: l) w') (fun y => 16 - y.1)
    (0, updN F i (totP i)) ⟨Nat.zero_le _, fun r hr => by { show updN F i _ r = _; rw [updN_ne (by omega)]; exact hF r hr }, by { show updN F i _ i = _; rw [updN_same]; show (totP i : Int) = (totP i : Int) - ((0 : Nat) : Int); omega }, st⟩ ?_ ?_
  · skip
    repeat (first | exact sub_nil _ | refine sub_cons rfl rfl ?_)
  clear hF
  rintro ⟨j, F⟩ w ⟨hj, hF, hFi, st⟩ K2 hK2
  dsimp only at hj hF hFi st ⊢
  by_cases hj16 : j = 16
  · subst hj16
    refine WC.seq fun K447 hK447 => ?_
    -- region 7
    refine WC.region ?_
    -- R7.0 21 := policym.go:45 binOp
    refine WL.v (by first | exact r_lss rfl rfl (decide_eq_true (by omega)) | exact r_lss rfl rfl (decide_eq_false (by omega)) | exact r_lss rfl rfl rfl) rfl rfl rfl ?_
    refine WL.fin hK447 (fun _ _ h => h) ?_
    refine WC.seq fun K448 hK448 => ?_
    refine WC.condF rfl rfl ?_
    refine WC.exitF hK443 (fun _ _ h => h) ?_
    -- region 11
    refine WC.region ?_
    -- R11.0 36 := policym.go:43 binOp
    refine WL.v (by first | exact r_add rfl rfl (wi64 (by omega) (by omega)) | exact r_add rfl rfl rfl) rfl rfl rfl ?_
    -- R11.1 13 := policym.go:43 move
    refine WL.v (by first | exact r_move (v := .int _ _) rfl | exact r_move rfl) rfl rfl rfl ?_
    refine WL.next hK1 (fun _ _ h => h) (i + 1, F) ⟨hi', fun r hr => by { have hr : r < i + 1 := hr; by_cases hri : r = i; · { subst hri; exact hFi }; · exact hF r (by omega) }, st⟩ (by show 20 - (i + 1) < 20 - i; omega) (by repeat (first | exact sub_nil _ | refine sub_cons rfl rfl ?_))
  have hj' : j < 16 := by omega
  have hs := sumP_le (f := fun t => held t i) (fun t => hh t i) j
  have hb := hh j i
  refine WC.seq fun K449 hK449 => ?_
  -- region 7
  refine WC.region ?_
  -- R7.0 21 := policym.go:45 binOp
  refine WL.v (by first | exact r_lss rfl rfl (decide_eq_true (by omega)) | exact r_lss rfl rfl (decide_eq_false (by omega)) | exact r_lss rfl rfl rfl) rfl rfl rfl ?_
  refine WL.fin hK449 (fun _ _ h => h) ?_
  refine WC.seq fun K450 hK450 => ?_
  refine WC.condT rfl rfl ?_
  refine WC.skipF hK450 (fun _ _ h => h) ?_
  refine WC.seq fun K451 hK451 => ?_
  refine WC.block ?_
  refine WC.seq fun K452 hK452 => ?_
  -- region 8
  refine WC.region ?_
  -- R8.0 22 := policym.go:45 move
  refine WL.v (by first | exact r_move (v := .int _ _) rfl | exact r_move rfl) rfl rfl rfl ?_
  -- R8.1 7 := policym.go:45 assign
  refine WL.v (by first | exact r_assign (v := .int _ _) rfl | exact r_assign rfl) rfl rfl rfl ?_
  refine WL.fin hK452 (fun _ _ h => h) ?_
  -- region 9 (draws)
  refine WC.tailS 12 st ty_mixed (by kernel_rfl) fun w st Kq hKq => ?_
  -- R9.0 23 := policym.go:46 move
  refine SL.v (by first | exact r_move (v := .int _ _) rfl | exact r_move rfl) rfl rfl rfl ?_
  -- R9.1 24 := policym.go:46 indexAddr
  refine SL.v (by exact r_indexA ty_ar44 rfl rfl rfl (by omega)) rfl rfl rfl ?_
  -- R9.2 25 := policym.go:46 load
  refine SL.v (by exact r_load1 (v := .int .i64 (F i)) ty_one3 rfl (c_iF (F := F) List.mem_cons_self hi' st)) rfl rfl rfl ?_
  -- R9.3 26 := policym.go:46 move
  refine SL.v (by first | exact r_move (v := .pointer _) rfl | exact r_move rfl) rfl rfl rfl ?_
  -- R9.4 27 := policym.go:46 move
  refine SL.v (by first | exact r_move (v := .int _ _) rfl | exact r_move rfl) rfl rfl rfl ?_
  -- R9.5 28 := policym.go:46 move
  refine SL.v (by first | exact r_move (v := .int _ _) rfl | exact r_move rfl) rfl rfl rfl ?_
  -- R9.6 29 := policym.go:46 nilCheck
  refine SL.v (by exact r_nilCheck rfl) rfl rfl rfl ?_
  -- R9.7 30 := policym.go:46 indexAddr
  refine SL.v (by exact r_indexA ty_ar45 rfl rfl rfl (by omega)) rfl rfl rfl ?_
  -- R9.8 31 := policym.go:46 indexAddr
  refine SL.v (by exact r_indexA ty_ar44 rfl rfl rfl (by omega)) rfl rfl rfl ?_
  -- R9.9 32 := policym.go:46 load
  refine SL.v (by exact r_load1 (v := .int .i64 (held j i : Nat)) ty_one3 rfl (c_hM (List.mem_cons_of_mem _ hmh) hj' hi' st)) rfl rfl rfl ?_
  -- R9.10 33 := policym.go:46 binOp
  refine SL.v (by first | exact r_sub rfl rfl (wi64 (by omega) (by omega)) | exact r_sub rfl rfl rfl) rfl rfl rfl ?_
  -- R9.11 34 := policym.go:46 indexAddr
  refine SL.v (by exact r_indexA ty_ar44 rfl rfl rfl (by omega)) rfl rfl rfl ?_
  refine SL.fin hKq ?_
  -- R9.12 None := policym.go:46 store
  first | refine WL.store (v := .int _ _) st ty_one3 rfl rfl rfl (by first | decide | omega) rfl rfl ?_ | refine WL.store (v := _) st ty_one3 rfl rfl rfl (by first | decide | omega) rfl rfl ?_ | refine WL.store (v := .int _ _) st.front1 ty_one3 rfl rfl rfl (by first | decide | omega) rfl rfl ?_ | refine WL.store (v := _) st.front1 ty_one3 rfl rfl rfl (by first | decide | omega) rfl rfl ?_ | refine WL.store (v := .int _ _) st.front2 ty_one3 rfl rfl rfl (by first | decide | omega) rfl rfl ?_ | refine WL.store (v := _) st.front2 ty_one3 rfl rfl rfl (by first | decide | omega) rfl rfl ?_ | refine WL.store (v := .int _ _) st.front3 ty_one3 rfl rfl rfl (by first | decide | omega) rfl rfl ?_ | refine WL.store (v := _) st.front3 ty_one3 rfl rfl rfl (by first | decide | omega) rfl rfl ?_ | refine WL.store (v := .int _ _) st.front4 ty_one3 rfl rfl rfl (by first | decide | omega) rfl rfl ?_ | refine WL.store (v := _) st.front4 ty_one3 rfl rfl rfl (by first | decide | omega) rfl rfl ?_ | refine WL.store (v := .int _ _) st.front5 ty_one3 rfl rfl rfl (by first | decide | omega) rfl rfl ?_ | refine WL.store (v := _) st.front5 ty_one3 rfl rfl rfl (by first | decide | omega) rfl rfl ?_ | refine WL.store (v := .int _ _) st.front6 ty_one3 rfl rfl rfl (by first | decide | omega) rfl rfl ?_ | refine WL.store (v := _) st.front6 ty_one3 rfl rfl rfl (by first | decide | omega) rfl rfl ?_ | refine WL.store (v := .int _ _) st.front7 ty_one3 rfl rfl rfl (by first | decide | omega) rfl rfl ?_ | refine WL.store (v := _) st.front7 ty_one3 rfl rfl rfl (by first | decide | omega) rfl rfl ?_ | refine WL.store (v := .int _ _) st.front8 ty_one3 rfl rfl rfl (by first | decide | omega) rfl rfl ?_ | refine WL.store (v := _) st.front8 ty_one3 rfl rfl rfl (by first | decide | omega) rfl rfl ?_
  intro w st
  refine WL.fin hK451 (fun _ _ h => h) ?_
  -- region 10
  refine WC.region ?_
  -- R10.0 35 := policym.go:45 binOp
  refine WL.v (by first | exact r_add rfl rfl (wi64 (by omega) (by omega)) | exact r_add rfl rfl rfl) rfl rfl rfl ?_
  -- R10.1 20 := policym.go:45 move
  refine WL.v (by first | exact r_move (v := .int _ _) rfl | exact r_move rfl) rfl rfl rfl ?_
  refine WL.next hK2 (fun _ _ h => h) (j + 1, updN F i (F i - (held j i : Nat))) ⟨hj', fun r hr => by { show updN F i _ r = _; rw [updN_ne (by omega)]; exact hF r hr }, by { show updN F i _ i = (totP i : Int) - ((sumP (fun t => held t i) j + held j i : Nat) : Int); rw [updN_same, hFi]; omega }, stE (iF_set (n := 20)) st⟩ (by show 16 - (j + 1) < 16 - j; omega) (by repeat (first | exact sub_nil _ | refine sub_cons rfl rfl ?_))
end Go.Proofs.Qxb6500834aGreatDoor

