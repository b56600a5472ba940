import Derived.Test.Qxb6500834aGreatDoorK68
set_option linter.unusedVariables false
set_option linter.unusedSimpArgs false
set_option maxRecDepth 20000
namespace Go.Proofs.Qxb6500834aGreatDoor
open Go.RowKit Go.E1 Go.Kern
theorem ty_call37 : callT Tryz.prog 37 = true := by kernel_rfl
theorem ty_call38 : callT Tryz.prog 38 = true := by kernel_rfl
variable {w0 : World} {l X : List HI} {w : World} {s s' s0 : KS} {t r N n : Nat} {qv qv' : Nat → Value}

/-! Law: no head that could be granted is left waiting. -/
theorem hM_set2 {h : Nat → Nat → Nat} {t r x : Nat} (ht : t < 16) (hr : r < 20) : ∀ k, k < 320 → upd (hM h) (0 + t * 20 + r * 1) (.int .i64 (x : Nat)) k = hM (upd2 h t r x) k := fun k hk => by
  rw [upd_eq]
  unfold hM upd2
  by_cases e : k = 0 + t * 20 + r * 1
  · rw [if_pos e, if_pos ⟨by omega, by omega⟩]
  · rw [if_neg e, if_neg (fun q => e (by omega))]
set_option maxHeartbeats 4000000 in
theorem noGrant1_ok {o : Kern.Op} {bB bA : Nat} {code task : Int} {ov : Value} {ans : List (Nat × Nat × Nat)}  (hD : gD w0) (hst : Settled s') (hi : INV s') (hct : CT s') (hh : ∀ t r, s'.held t r ≤ 16) (hcl : ∀ t r, s'.claim t r ≤ 16) (hqu : ∀ r p, p ∈ s'.queue r → p.2 ≤ 16) (hck : CK s s' ans bB bA qv qv' ov l) (st : S0 w0 l w) :
    Calls Tryz.prog 38 #[.agg (stepL o bB bA code task ov).toArray] w (Ret fun v w' => v = .bool true ∧ S0 w0 l w') := by
  obtain ⟨XO, ho, hXO⟩ := hck.a
  obtain ⟨a, c, b, rfl, hc1, hc2, ha, hcell⟩ := ho.form
  obtain ⟨fs, hfs⟩ : ∃ fs : Nat → Value, fs = nth (stepL o bB bA code task (.slice a ans.length c)) := ⟨_, rfl⟩
  have f0 : fs 0 = .int .u8 (o.kind : Nat) := by rw [hfs]; rfl
  have f1 : fs 1 = .int .i64 o.A := by rw [hfs]; rfl
  have f2 : fs 2 = .int .i64 o.B := by rw [hfs]; rfl
  have f3 : fs 3 = .int .i64 o.C := by rw [hfs]; rfl
  have f4 : fs 4 = .int .u64 (o.X : Nat) := by rw [hfs]; rfl
  have f5 : fs 5 = .pointer (some ⟨bB, 0, none⟩) := by rw [hfs]; rfl
  have f6 : fs 6 = .pointer (some ⟨bA, 0, none⟩) := by rw [hfs]; rfl
  have f7 : fs 7 = .int .i64 code := by rw [hfs]; rfl
  have f8 : fs 8 = .int .i64 task := by rw [hfs]; rfl
  have f9 : fs 9 = .slice a ans.length c := by rw [hfs]; rfl
  have hckA := fun (a : HI) => hck.c (a := a)
  have hckB := fun (a b : HI) => (hckA a).c (a := b)
  have hckC := fun (a b c : HI) => (hckB a b).c (a := c)
  refine enter [.agg (stepL o bB bA code task (.slice a ans.length c)).toArray] Tryz.func38 rfl Tryz.ntmps38 rfl ?_
  show WC _ _ _ 64 [] [(0, .agg (stepL o bB bA code task (.slice a ans.length c)).toArray)] _
  refine WC.seq fun K2655 hK2655 => ?_
  -- region 0
  refine WC.region ?_
  -- R0.0 1 := graph.go:232 box
  refine WL.box (m := 10) (vs := stepL o bB bA code task (.slice a ans.length c)) st rfl rfl rfl rfl rfl rfl ?_
  intro b1 w st
  have st : S0 w0 ((b1, Row 36 10 fs) :: l) w := by rw [hfs]; exact st
  -- R0.1 2 := graph.go:232 assign
  refine WL.v (by first | exact r_assign (v := .bool _) rfl | exact r_assign rfl) rfl rfl rfl ?_
  refine WL.fin hK2655 (fun _ _ h => h) ?_
  refine WC.seq fun K2656 hK2656 => ?_
  refine WC.seq fun K2657 hK2657 => ?_
  -- region 1
  refine WC.region ?_
  -- R1.0 6 := graph.go:233 move
  refine WL.v (by first | exact r_move (v := .int _ _) rfl | exact r_move rfl) rfl rfl rfl ?_
  refine WL.fin hK2657 (fun _ _ h => h) ?_
  refine WC.block ?_
  refine WC.loop (ι := Nat) (fun r => [(1, .pointer (some ⟨b1, 0, none⟩)), (6, .int .i64 (r : Nat))])
    (fun r w' => r ≤ 20 ∧ S0 w0 ((b1, Row 36 10 fs) :: l) w') (fun r => 20 - r) 0 ⟨Nat.zero_le _, st⟩ ?_ ?_
  · skip
    repeat (first | exact sub_nil _ | refine sub_cons rfl rfl ?_)
  clear st
  rintro r w ⟨hr, st⟩ K1 hK1
  by_cases h20 : r = 20
  · skip
    refine WC.seq fun K2658 hK2658 => ?_
    -- region 2
    refine WC.region ?_
    -- R2.0 7 := graph.go:233 binOp
    refine WL.v (by first | exact r_lss rfl rfl (decide_eq_true (by omega)) | exact r_lss rfl rfl (decide_eq_false (by omega)) | exact r_lss rfl rfl rfl) rfl rfl rfl ?_
    refine WL.fin hK2658 (fun _ _ h => h) ?_
    refine WC.seq fun K2659 hK2659 => ?_
    refine WC.condF rfl rfl ?_
    refine WC.exitF hK2656 (fun _ _ h => h) ?_
    refine WC.seq fun K2660 hK2660 => ?_
    -- region 14
    refine WC.region ?_
    -- R14.0 2 := graph.go:250 assign
    refine WL.v (by first | exact r_assign (v := .bool _) rfl | exact r_assign rfl) rfl rfl rfl ?_
    refine WL.fin hK2660 (fun _ _ h => h) ?_
    refine WC.ret1 Tryz.results38 (fun _ _ h => h) rfl ?_
    exact ⟨_, rfl, rfl, st.drop⟩
  have hr' : r < 20 := by omega
  obtain ⟨X1, hX1, hXs⟩ := hck.q' r hr'
  obtain ⟨aq, cq, bq, hvq, hq1, hq2, hqa, hqcell⟩ := hX1.form
  rcases hQ : s'.queue r with _ | ⟨q, Q⟩
  · skip
    rw [hQ] at hvq
    refine WC.seq fun K2661 hK2661 => ?_
    -- region 2
    refine WC.region ?_
    -- R2.0 7 := graph.go:233 binOp
    refine WL.v (by first | exact r_lss rfl rfl (decide_eq_true (by omega)) | exact r_lss rfl rfl (decide_eq_false (by omega)) | exact r_lss rfl rfl rfl) rfl rfl rfl ?_
    refine WL.fin hK2661 (fun _ _ h => h) ?_
    refine WC.seq fun K2662 hK2662 => ?_
    refine WC.condT rfl rfl ?_
    refine WC.skipF hK2662 (fun _ _ h => h) ?_
    refine WC.seq fun K2663 hK2663 => ?_
    refine WC.block ?_
    refine WC.seq fun K2664 hK2664 => ?_
    -- region 3
    refine WC.region ?_
    -- R3.0 8 := graph.go:233 move
    refine WL.v (by first | exact r_move (v := .int _ _) rfl | exact r_move rfl) rfl rfl rfl ?_
    -- R3.1 3 := graph.go:233 assign
    refine WL.v (by first | exact r_assign (v := .int _ _) rfl | exact r_assign rfl) rfl rfl rfl ?_
    refine WL.fin hK2664 (fun _ _ h => h) ?_
    refine WC.seq fun K2665 hK2665 => ?_
    refine WC.seq fun K2666 hK2666 => ?_
    -- region 4
    refine WC.region ?_
    -- R4.0 9 := graph.go:234 fieldAddr
    refine WL.v (by exact r_field ty_fld36_2 rfl) rfl rfl rfl ?_
    -- R4.1 10 := graph.go:234 load
    refine WL.v (by exact r_load1 (v := .pointer (some ⟨bA, 0, none⟩)) ty_one29 rfl (by rw [← f6]; exact st.c0 (by decide))) rfl rfl rfl ?_
    -- R4.2 11 := graph.go:234 move
    refine WL.v (by first | exact r_move (v := .int _ _) rfl | exact r_move rfl) rfl rfl rfl ?_
    -- R4.3 12 := graph.go:234 nilCheck
    refine WL.v (by exact r_nilCheck rfl) rfl rfl rfl ?_
    -- R4.4 13 := graph.go:234 fieldAddr
    refine WL.v (by exact r_field ty_fld50_6 rfl) rfl rfl rfl ?_
    -- R4.5 14 := graph.go:234 indexAddr
    refine WL.v (by exact r_indexA (j := r) ty_ar47 rfl rfl rfl hr') rfl rfl rfl ?_
    -- R4.6 15 := graph.go:234 load
    refine WL.v (by exact r_load1 (v := .slice aq 0 cq) ty_one46 rfl (by rw [show Value.slice aq 0 cq = qv' r from hvq.symm]; exact c_sQ (hckA _).A hr' (by omega) st)) rfl rfl rfl ?_
    -- R4.7 16 := graph.go:234 call
    refine WL.v (by exact r_len ty_usl46 rfl) rfl rfl rfl ?_
    -- R4.8 17 := graph.go:234 binOp
    refine WL.v (by exact r_eql rfl rfl (decide_eq_true rfl)) rfl rfl rfl ?_
    refine WL.fin hK2666 (fun _ _ h => h) ?_
    refine WC.condT rfl rfl ?_
    refine WC.exitF hK2663 (fun _ _ h => h) ?_
    -- region 13
    refine WC.region ?_
    -- R13.0 63 := graph.go:233 binOp
    refine WL.v (by first | exact r_add rfl rfl (wi64 (by omega) (by omega)) | exact r_add rfl rfl rfl) rfl rfl rfl ?_
    -- R13.1 6 := graph.go:233 move
    refine WL.v (by first | exact r_move (v := .int _ _) rfl | exact r_move rfl) rfl rfl rfl ?_
    refine WL.next hK1 (fun _ _ h => h) (r + 1) ⟨hr', st⟩ (by omega) (by repeat (first | exact sub_nil _ | refine sub_cons rfl rfl ?_))
  · have hqm : q ∈ s'.queue r := by rw [hQ]; exact List.mem_cons_self
    have hq16 := (hi.qt r q hqm).2.1
    have hqu := hqu r q hqm
    have hset := hst r hr' q Q hQ
    rw [hQ] at hvq hqa hqcell
    have hae := hqa (by simp)
    have hlen : (q :: Q).length = Q.length + 1 := rfl
    have hce := fun j hj => hqcell st (fun x hx => List.mem_cons_of_mem _ (hXs hx)) 0 q rfl j hj
    have hfe : fuB s'.held r (Nat.testBit 0) = freeP s'.held r := by
      have : (Nat.testBit 0 : Nat → Bool) = fun _ => false := by funext i; exact Nat.zero_testBit i
      rw [this]; exact fuB_none
    by_cases hgt : freeP s'.held r < q.2
    · skip
      refine WC.seq fun K2667 hK2667 => ?_
      -- region 2
      refine WC.region ?_
      -- R2.0 7 := graph.go:233 binOp
      refine WL.v (by first | exact r_lss rfl rfl (decide_eq_true (by omega)) | exact r_lss rfl rfl (decide_eq_false (by omega)) | exact r_lss rfl rfl rfl) rfl rfl rfl ?_
      refine WL.fin hK2667 (fun _ _ h => h) ?_
      refine WC.seq fun K2668 hK2668 => ?_
      refine WC.condT rfl rfl ?_
      refine WC.skipF hK2668 (fun _ _ h => h) ?_
      refine WC.seq fun K2669 hK2669 => ?_
      refine WC.block ?_
      refine WC.seq fun K2670 hK2670 => ?_
      -- region 3
      refine WC.region ?_
      -- R3.0 8 := graph.go:233 move
      refine WL.v (by first | exact r_move (v := .int _ _) rfl | exact r_move rfl) rfl rfl rfl ?_
      -- R3.1 3 := graph.go:233 assign
      refine WL.v (by first | exact r_assign (v := .int _ _) rfl | exact r_assign rfl) rfl rfl rfl ?_
      refine WL.fin hK2670 (fun _ _ h => h) ?_
      refine WC.seq fun K2671 hK2671 => ?_
      refine WC.seq fun K2672 hK2672 => ?_
      -- region 4
      refine WC.region ?_
      -- R4.0 9 := graph.go:234 fieldAddr
      refine WL.v (by exact r_field ty_fld36_2 rfl) rfl rfl rfl ?_
      -- R4.1 10 := graph.go:234 load
      refine WL.v (by exact r_load1 (v := .pointer (some ⟨bA, 0, none⟩)) ty_one29 rfl (by rw [← f6]; exact st.c0 (by decide))) rfl rfl rfl ?_
      -- R4.2 11 := graph.go:234 move
      refine WL.v (by first | exact r_move (v := .int _ _) rfl | exact r_move rfl) rfl rfl rfl ?_
      -- R4.3 12 := graph.go:234 nilCheck
      refine WL.v (by exact r_nilCheck rfl) rfl rfl rfl ?_
      -- R4.4 13 := graph.go:234 fieldAddr
      refine WL.v (by exact r_field ty_fld50_6 rfl) rfl rfl rfl ?_
      -- R4.5 14 := graph.go:234 indexAddr
      refine WL.v (by exact r_indexA (j := r) ty_ar47 rfl rfl rfl hr') rfl rfl rfl ?_
      -- R4.6 15 := graph.go:234 load
      refine WL.v (by exact r_load1 (v := .slice aq (q :: Q).length cq) ty_one46 rfl (by rw [← hvq]; exact c_sQ (hckA _).A hr' (by omega) st)) rfl rfl rfl ?_
      -- R4.7 16 := graph.go:234 call
      refine WL.v (by exact r_len ty_usl46 rfl) rfl rfl rfl ?_
      -- R4.8 17 := graph.go:234 binOp
      refine WL.v (by exact r_eql rfl rfl (decide_eq_false (by omega))) rfl rfl rfl ?_
      refine WL.fin hK2672 (fun _ _ h => h) ?_
      refine WC.condF rfl rfl ?_
      refine WC.skipF hK2671 (fun _ _ h => h) ?_
      refine WC.seq fun K2673 hK2673 => ?_
      -- region 5
      refine WC.region ?_
      -- R5.0 18 := graph.go:237 fieldAddr
      refine WL.v (by exact r_field ty_fld36_2 rfl) rfl rfl rfl ?_
      -- R5.1 19 := graph.go:237 load
      refine WL.v (by exact r_load1 (v := .pointer (some ⟨bA, 0, none⟩)) ty_one29 rfl (by rw [← f6]; exact st.c0 (by decide))) rfl rfl rfl ?_
      -- R5.2 20 := graph.go:237 move
      refine WL.v (by first | exact r_move (v := .int _ _) rfl | exact r_move rfl) rfl rfl rfl ?_
      -- R5.3 21 := graph.go:237 nilCheck
      refine WL.v (by exact r_nilCheck rfl) rfl rfl rfl ?_
      -- R5.4 22 := graph.go:237 fieldAddr
      refine WL.v (by exact r_field ty_fld50_6 rfl) rfl rfl rfl ?_
      -- R5.5 23 := graph.go:237 indexAddr
      refine WL.v (by exact r_indexA (j := r) ty_ar47 rfl rfl rfl hr') rfl rfl rfl ?_
      -- R5.6 24 := graph.go:237 load
      refine WL.v (by exact r_load1 (v := .slice aq (q :: Q).length cq) ty_one46 rfl (by rw [← hvq]; exact c_sQ (hckA _).A hr' (by omega) st)) rfl rfl rfl ?_
      -- R5.7 25 := graph.go:237 indexAddr
      refine WL.v (by exact r_indexS (j := 0) ty_sl46 (congrArg (fun x => Value.slice x (q :: Q).length cq) hae) rfl rfl (by omega)) rfl rfl rfl ?_
      -- R5.8 26 := graph.go:237 load
      refine WL.v (by exact r_loadL (vs := [.int .i64 (q.1 : Nat), .int .i64 (q.2 : Nat)]) ty_agg61 rfl ⟨by rw [show 0 + 0 * 2 = 0 * 2 + 0 by omega]; exact hce 0 (by decide), by rw [show 0 + 0 * 2 + 1 = 0 * 2 + 1 by omega]; exact hce 1 (by decide), trivial⟩) rfl rfl rfl ?_
      -- R5.9 4 := graph.go:237 alloc
      refine WL.alloc (m := 2) st ty_zero61 rfl rfl rfl ?_
      intro b4 w st
      -- R5.10 None := graph.go:237 store
      first | refine WL.storeW (vs := [_, _]) st ty_agg61 rfl rfl rfl rfl rfl rfl ?_ | refine WL.storeL (vs := [_, _]) st ty_agg61 rfl rfl rfl rfl (by first | decide | omega) rfl rfl ?_ | refine WL.storeW (vs := [_, _]) st.front1 ty_agg61 rfl rfl rfl rfl rfl rfl ?_ | refine WL.storeL (vs := [_, _]) st.front1 ty_agg61 rfl rfl rfl rfl (by first | decide | omega) rfl rfl ?_ | refine WL.storeW (vs := [_, _]) st.front2 ty_agg61 rfl rfl rfl rfl rfl rfl ?_ | refine WL.storeL (vs := [_, _]) st.front2 ty_agg61 rfl rfl rfl rfl (by first | decide | omega) rfl rfl ?_ | refine WL.storeW (vs := [_, _]) st.front3 ty_agg61 rfl rfl rfl rfl rfl rfl ?_ | refine WL.storeL (vs := [_, _]) st.front3 ty_agg61 rfl rfl rfl rfl (by first | decide | omega) rfl rfl ?_ | refine WL.storeW (vs := [_, _]) st.front4 ty_agg61 rfl rfl rfl rfl rfl rfl ?_ | refine WL.storeL (vs := [_, _]) st.front4 ty_agg61 rfl rfl rfl rfl (by first | decide | omega) rfl rfl ?_ | refine WL.storeW (vs := [_, _]) st.front5 ty_agg61 rfl rfl rfl rfl rfl rfl ?_ | refine WL.storeL (vs := [_, _]) st.front5 ty_agg61 rfl rfl rfl rfl (by first | decide | omega) rfl rfl ?_ | refine WL.storeW (vs := [_, _]) st.front6 ty_agg61 rfl rfl rfl rfl rfl rfl ?_ | refine WL.storeL (vs := [_, _]) st.front6 ty_agg61 rfl rfl rfl rfl (by first | decide | omega) rfl rfl ?_ | refine WL.storeW (vs := [_, _]) st.front7 ty_agg61 rfl rfl rfl rfl rfl rfl ?_ | refine WL.storeL (vs := [_, _]) st.front7 ty_agg61 rfl rfl rfl rfl (by first | decide | omega) rfl rfl ?_ | refine WL.storeW (vs := [_, _]) st.front8 ty_agg61 rfl rfl rfl rfl rfl rfl ?_ | refine WL.storeL (vs := [_, _]) st.front8 ty_agg61 rfl rfl rfl rfl (by first | decide | omega) rfl rfl ?_
      intro w st
      refine WL.fin hK2673 (fun _ _ h => h) ?_
      refine WC.seq fun K2674 hK2674 => ?_
      refine WC.seq fun K2675 hK2675 => ?_
      -- region 6 (draws)
      refine WC.quietS st ty_mixed (by kernel_rfl) fun Kq hKq => ?_
      -- R6.0 27 := graph.go:238 fieldAddr
      refine QL.v (fun w st => by exact r_field ty_fld61_1 rfl) rfl rfl rfl ?_
      -- R6.1 28 := graph.go:238 load
      refine QL.v (fun w st => by exact r_load1 (v := .int .i64 (q.2 : Nat)) ty_one3 rfl (st.c0 (by decide))) rfl rfl rfl ?_
      -- R6.2 29 := graph.go:238 fieldAddr
      refine QL.v (fun w st => by exact r_field ty_fld36_2 rfl) rfl rfl rfl ?_
      -- R6.3 30 := graph.go:238 load
      refine QL.v (fun w st => by exact r_load1 (v := .pointer (some ⟨bA, 0, none⟩)) ty_one29 rfl (by rw [← f6]; exact st.c1 (by decide))) rfl rfl rfl ?_
      -- R6.4 31 := graph.go:238 nilCheck
      refine QL.v (fun w st => by exact r_nilCheck rfl) rfl rfl rfl ?_
      -- R6.5 32 := graph.go:238 fieldAddr
      refine QL.v (fun w st => by exact r_field ty_fld50_4 rfl) rfl rfl rfl ?_
      -- R6.6 33 := graph.go:238 move
      refine QL.v (fun w st => by first | exact r_move (v := .int _ _) rfl | exact r_move rfl) rfl rfl rfl ?_
      -- R6.7 34 := graph.go:238 call
      refine QL.call (val := .int .i64 (fuB s'.held r (Nat.testBit 0))) (fun w st => r_call ty_call39 rfl) rfl rfl rfl (fun w st => freeUnits_ok (r := r) (gone := 0) (held := s'.held) (by decide) hr' (fun t r => Nat.le_trans (hh t r) (by decide)) (matH (hckB _ _).A) st) ?_
      -- R6.8 35 := graph.go:238 binOp
      refine QL.v (fun w st => by exact r_gtr rfl rfl (decide_eq_true (by rw [hfe]; omega))) rfl rfl rfl ?_
      refine QL.wl hKq fun w st => ?_
      refine WL.fin hK2675 (fun _ _ h => h) ?_
      refine WC.condT rfl rfl ?_
      refine WC.exitF hK2669 (fun _ _ h => h) ?_
      -- region 13
      refine WC.region ?_
      -- R13.0 63 := graph.go:233 binOp
      refine WL.v (by first | exact r_add rfl rfl (wi64 (by omega) (by omega)) | exact r_add rfl rfl rfl) rfl rfl rfl ?_
      -- R13.1 6 := graph.go:233 move
      refine WL.v (by first | exact r_move (v := .int _ _) rfl | exact r_move rfl) rfl rfl rfl ?_
      refine WL.next hK1 (fun _ _ h => h) (r + 1) ⟨hr', st.drop⟩ (by omega) (by repeat (first | exact sub_nil _ | refine sub_cons rfl rfl ?_))
    · have hm3 : s'.mode = 3 := Classical.byContradiction fun k => by rw [adm_iff.2 ⟨by omega, fun h => absurd h k⟩] at hset; cases hset
      have hns : ¬ Sf s'.claim (upd2 s'.held q.1 r (s'.held q.1 r + q.2)) := fun k => by rw [adm_iff.2 ⟨by omega, fun _ => k⟩] at hset; cases hset
      have hhq := hh q.1 r
      have hh32 : ∀ a b, upd2 s'.held q.1 r (s'.held q.1 r + q.2) a b ≤ 32 := fun a b => by
        unfold upd2
        split
        · omega
        · exact Nat.le_trans (hh a b) (by decide)
      refine WC.seq fun K2676 hK2676 => ?_
      -- region 2
      refine WC.region ?_
      -- R2.0 7 := graph.go:233 binOp
      refine WL.v (by first | exact r_lss rfl rfl (decide_eq_true (by omega)) | exact r_lss rfl rfl (decide_eq_false (by omega)) | exact r_lss rfl rfl rfl) rfl rfl rfl ?_
      refine WL.fin hK2676 (fun _ _ h => h) ?_
      refine WC.seq fun K2677 hK2677 => ?_
      refine WC.condT rfl rfl ?_
      refine WC.skipF hK2677 (fun _ _ h => h) ?_
      refine WC.seq fun K2678 hK2678 => ?_
      refine WC.block ?_
      refine WC.seq fun K2679 hK2679 => ?_
      -- region 3
      refine WC.region ?_
      -- R3.0 8 := graph.go:233 move
      refine WL.v (by first | exact r_move (v := .int _ _) rfl | exact r_move rfl) rfl rfl rfl ?_
      -- R3.1 3 := graph.go:233 assign
      refine WL.v (by first | exact r_assign (v := .int _ _) rfl | exact r_assign rfl) rfl rfl rfl ?_
      refine WL.fin hK2679 (fun _ _ h => h) ?_
      refine WC.seq fun K2680 hK2680 => ?_
      refine WC.seq fun K2681 hK2681 => ?_
      -- region 4
      refine WC.region ?_
      -- R4.0 9 := graph.go:234 fieldAddr
      refine WL.v (by exact r_field ty_fld36_2 rfl) rfl rfl rfl ?_
      -- R4.1 10 := graph.go:234 load
      refine WL.v (by exact r_load1 (v := .pointer (some ⟨bA, 0, none⟩)) ty_one29 rfl (by rw [← f6]; exact st.c0 (by decide))) rfl rfl rfl ?_
      -- R4.2 11 := graph.go:234 move
      refine WL.v (by first | exact r_move (v := .int _ _) rfl | exact r_move rfl) rfl rfl rfl ?_
      -- R4.3 12 := graph.go:234 nilCheck
      refine WL.v (by exact r_nilCheck rfl) rfl rfl rfl ?_
      -- R4.4 13 := graph.go:234 fieldAddr
      refine WL.v (by exact r_field ty_fld50_6 rfl) rfl rfl rfl ?_
      -- R4.5 14 := graph.go:234 indexAddr
      refine WL.v (by exact r_indexA (j := r) ty_ar47 rfl rfl rfl hr') rfl rfl rfl ?_
      -- R4.6 15 := graph.go:234 load
      refine WL.v (by exact r_load1 (v := .slice aq (q :: Q).length cq) ty_one46 rfl (by rw [← hvq]; exact c_sQ (hckA _).A hr' (by omega) st)) rfl rfl rfl ?_
      -- R4.7 16 := graph.go:234 call
      refine WL.v (by exact r_len ty_usl46 rfl) rfl rfl rfl ?_
      -- R4.8 17 := graph.go:234 binOp
      refine WL.v (by exact r_eql rfl rfl (decide_eq_false (by omega))) rfl rfl rfl ?_
      refine WL.fin hK2681 (fun _ _ h => h) ?_
      refine WC.condF rfl rfl ?_
      refine WC.skipF hK2680 (fun _ _ h => h) ?_
      refine WC.seq fun K2682 hK2682 => ?_
      -- region 5
      refine WC.region ?_
      -- R5.0 18 := graph.go:237 fieldAddr
      refine WL.v (by exact r_field ty_fld36_2 rfl) rfl rfl rfl ?_
      -- R5.1 19 := graph.go:237 load
      refine WL.v (by exact r_load1 (v := .pointer (some ⟨bA, 0, none⟩)) ty_one29 rfl (by rw [← f6]; exact st.c0 (by decide))) rfl rfl rfl ?_
      -- R5.2 20 := graph.go:237 move
      refine WL.v (by first | exact r_move (v := .int _ _) rfl | exact r_move rfl) rfl rfl rfl ?_
      -- R5.3 21 := graph.go:237 nilCheck
      refine WL.v (by exact r_nilCheck rfl) rfl rfl rfl ?_
      -- R5.4 22 := graph.go:237 fieldAddr
      refine WL.v (by exact r_field ty_fld50_6 rfl) rfl rfl rfl ?_
      -- R5.5 23 := graph.go:237 indexAddr
      refine WL.v (by exact r_indexA (j := r) ty_ar47 rfl rfl rfl hr') rfl rfl rfl ?_
      -- R5.6 24 := graph.go:237 load
      refine WL.v (by exact r_load1 (v := .slice aq (q :: Q).length cq) ty_one46 rfl (by rw [← hvq]; exact c_sQ (hckA _).A hr' (by omega) st)) rfl rfl rfl ?_
      -- R5.7 25 := graph.go:237 indexAddr
      refine WL.v (by exact r_indexS (j := 0) ty_sl46 (congrArg (fun x => Value.slice x (q :: Q).length cq) hae) rfl rfl (by omega)) rfl rfl rfl ?_
      -- R5.8 26 := graph.go:237 load
      refine WL.v (by exact r_loadL (vs := [.int .i64 (q.1 : Nat), .int .i64 (q.2 : Nat)]) ty_agg61 rfl ⟨by rw [show 0 + 0 * 2 = 0 * 2 + 0 by omega]; exact hce 0 (by decide), by rw [show 0 + 0 * 2 + 1 = 0 * 2 + 1 by omega]; exact hce 1 (by decide), trivial⟩) rfl rfl rfl ?_
      -- R5.9 4 := graph.go:237 alloc
      refine WL.alloc (m := 2) st ty_zero61 rfl rfl rfl ?_
      intro b4 w st
      -- R5.10 None := graph.go:237 store
      first | refine WL.storeW (vs := [_, _]) st ty_agg61 rfl rfl rfl rfl rfl rfl ?_ | refine WL.storeL (vs := [_, _]) st ty_agg61 rfl rfl rfl rfl (by first | decide | omega) rfl rfl ?_ | refine WL.storeW (vs := [_, _]) st.front1 ty_agg61 rfl rfl rfl rfl rfl rfl ?_ | refine WL.storeL (vs := [_, _]) st.front1 ty_agg61 rfl rfl rfl rfl (by first | decide | omega) rfl rfl ?_ | refine WL.storeW (vs := [_, _]) st.front2 ty_agg61 rfl rfl rfl rfl rfl rfl ?_ | refine WL.storeL (vs := [_, _]) st.front2 ty_agg61 rfl rfl rfl rfl (by first | decide | omega) rfl rfl ?_ | refine WL.storeW (vs := [_, _]) st.front3 ty_agg61 rfl rfl rfl rfl rfl rfl ?_ | refine WL.storeL (vs := [_, _]) st.front3 ty_agg61 rfl rfl rfl rfl (by first | decide | omega) rfl rfl ?_ | refine WL.storeW (vs := [_, _]) st.front4 ty_agg61 rfl rfl rfl rfl rfl rfl ?_ | refine WL.storeL (vs := [_, _]) st.front4 ty_agg61 rfl rfl rfl rfl (by first | decide | omega) rfl rfl ?_ | refine WL.storeW (vs := [_, _]) st.front5 ty_agg61 rfl rfl rfl rfl rfl rfl ?_ | refine WL.storeL (vs := [_, _]) st.front5 ty_agg61 rfl rfl rfl rfl (by first | decide | omega) rfl rfl ?_ | refine WL.storeW (vs := [_, _]) st.front6 ty_agg61 rfl rfl rfl rfl rfl rfl ?_ | refine WL.storeL (vs := [_, _]) st.front6 ty_agg61 rfl rfl rfl rfl (by first | decide | omega) rfl rfl ?_ | refine WL.storeW (vs := [_, _]) st.front7 ty_agg61 rfl rfl rfl rfl rfl rfl ?_ | refine WL.storeL (vs := [_, _]) st.front7 ty_agg61 rfl rfl rfl rfl (by first | decide | omega) rfl rfl ?_ | refine WL.storeW (vs := [_, _]) st.front8 ty_agg61 rfl rfl rfl rfl rfl rfl ?_ | refine WL.storeL (vs := [_, _]) st.front8 ty_agg61 rfl rfl rfl rfl (by first | decide | omega) rfl rfl ?_
      intro w st
      refine WL.fin hK2682 (fun _ _ h => h) ?_
      refine WC.seq fun K2683 hK2683 => ?_
      refine WC.seq fun K2684 hK2684 => ?_
      -- region 6 (draws)
      refine WC.quietS st ty_mixed (by kernel_rfl) fun Kq hKq => ?_
      -- R6.0 27 := graph.go:238 fieldAddr
      refine QL.v (fun w st => by exact r_field ty_fld61_1 rfl) rfl rfl rfl ?_
      -- R6.1 28 := graph.go:238 load
      refine QL.v (fun w st => by exact r_load1 (v := .int .i64 (q.2 : Nat)) ty_one3 rfl (st.c0 (by decide))) rfl rfl rfl ?_
      -- R6.2 29 := graph.go:238 fieldAddr
      refine QL.v (fun w st => by exact r_field ty_fld36_2 rfl) rfl rfl rfl ?_
      -- R6.3 30 := graph.go:238 load
      refine QL.v (fun w st => by exact r_load1 (v := .pointer (some ⟨bA, 0, none⟩)) ty_one29 rfl (by rw [← f6]; exact st.c1 (by decide))) rfl rfl rfl ?_
      -- R6.4 31 := graph.go:238 nilCheck
      refine QL.v (fun w st => by exact r_nilCheck rfl) rfl rfl rfl ?_
      -- R6.5 32 := graph.go:238 fieldAddr
      refine QL.v (fun w st => by exact r_field ty_fld50_4 rfl) rfl rfl rfl ?_
      -- R6.6 33 := graph.go:238 move
      refine QL.v (fun w st => by first | exact r_move (v := .int _ _) rfl | exact r_move rfl) rfl rfl rfl ?_
      -- R6.7 34 := graph.go:238 call
      refine QL.call (val := .int .i64 (fuB s'.held r (Nat.testBit 0))) (fun w st => r_call ty_call39 rfl) rfl rfl rfl (fun w st => freeUnits_ok (r := r) (gone := 0) (held := s'.held) (by decide) hr' (fun t r => Nat.le_trans (hh t r) (by decide)) (matH (hckB _ _).A) st) ?_
      -- R6.8 35 := graph.go:238 binOp
      refine QL.v (fun w st => by exact r_gtr rfl rfl (decide_eq_false (by rw [hfe]; omega))) rfl rfl rfl ?_
      refine QL.wl hKq fun w st => ?_
      refine WL.fin hK2684 (fun _ _ h => h) ?_
      refine WC.condF rfl rfl ?_
      refine WC.skipF hK2683 (fun _ _ h => h) ?_
      refine WC.seq fun K2685 hK2685 => ?_
      refine WC.seq fun K2686 hK2686 => ?_
      -- region 7
      refine WC.region ?_
      -- R7.0 36 := graph.go:241 fieldAddr
      refine WL.v (by exact r_field ty_fld36_2 rfl) rfl rfl rfl ?_
      -- R7.1 37 := graph.go:241 load
      refine WL.v (by exact r_load1 (v := .pointer (some ⟨bA, 0, none⟩)) ty_one29 rfl (by rw [← f6]; exact st.c1 (by decide))) rfl rfl rfl ?_
      -- R7.2 38 := graph.go:241 nilCheck
      refine WL.v (by exact r_nilCheck rfl) rfl rfl rfl ?_
      -- R7.3 39 := graph.go:241 fieldAddr
      refine WL.v (by exact r_field ty_fld50_0 rfl) rfl rfl rfl ?_
      -- R7.4 40 := graph.go:241 load
      refine WL.v (by exact r_load1 (v := .int .i64 (s'.mode : Nat)) ty_one40 rfl (c_s (hckB _ _).A (by decide) rfl st)) rfl rfl rfl ?_
      -- R7.5 41 := graph.go:241 binOp
      refine WL.v (by exact r_neq rfl rfl (decide_eq_false (by omega))) rfl rfl rfl ?_
      refine WL.fin hK2686 (fun _ _ h => h) ?_
      refine WC.condF rfl rfl ?_
      refine WC.skipF hK2685 (fun _ _ h => h) ?_
      refine WC.seq fun K2687 hK2687 => ?_
      -- region 9
      refine WC.region ?_
      -- R9.0 42 := graph.go:244 fieldAddr
      refine WL.v (by exact r_field ty_fld36_2 rfl) rfl rfl rfl ?_
      -- R9.1 43 := graph.go:244 load
      refine WL.v (by exact r_load1 (v := .pointer (some ⟨bA, 0, none⟩)) ty_one29 rfl (by rw [← f6]; exact st.c1 (by decide))) rfl rfl rfl ?_
      -- R9.2 44 := graph.go:244 nilCheck
      refine WL.v (by exact r_nilCheck rfl) rfl rfl rfl ?_
      -- R9.3 45 := graph.go:244 fieldAddr
      refine WL.v (by exact r_field ty_fld50_4 rfl) rfl rfl rfl ?_
      -- R9.4 46 := graph.go:244 load
      refine WL.v (by exact r_loadN (f := hM s'.held) ty_agg45 rfl (fun k hk => c_s (hckB _ _).A (by omega) (by rw [show 0 + 99 + k = 99 + k by omega]; exact sF_h hk) st)) rfl rfl rfl ?_
      -- R9.5 5 := graph.go:244 alloc
      refine WL.allocN (m := 320) st ty_zeroN45 rfl rfl ?_
      intro b5 w st
      -- R9.6 None := graph.go:244 store
      refine WL.storeN (v := hM s'.held) st ty_agg45 rfl rfl (fun _ _ => rfl) (by decide) rfl rfl ?_
      intro w st
      have st : S0 w0 ((b5, Row 45 320 (hM s'.held)) :: (b4, Row 61 2 (nth [.int .i64 (q.1 : Nat), .int .i64 (q.2 : Nat)])) :: (b1, Row 36 10 fs) :: l) w := stE (fun k hk => by rw [upds_eq, if_pos (by omega), Nat.sub_zero]) st
      refine WL.fin hK2687 (fun _ _ h => h) ?_
      refine WC.seq fun K2688 hK2688 => ?_
      -- region 10 (draws)
      refine WC.tailS 11 st ty_mixed (by kernel_rfl) fun w st Kq hKq => ?_
      -- R10.0 47 := graph.go:245 fieldAddr
      refine SL.v (by exact r_field ty_fld61_0 rfl) rfl rfl rfl ?_
      -- R10.1 48 := graph.go:245 load
      refine SL.v (by exact r_load1 (v := .int .i64 (q.1 : Nat)) ty_one31 rfl (st.c1 (by decide))) rfl rfl rfl ?_
      -- R10.2 49 := graph.go:245 move
      refine SL.v (by first | exact r_move (v := .int _ _) rfl | exact r_move rfl) rfl rfl rfl ?_
      -- R10.3 50 := graph.go:245 indexAddr
      refine SL.v (by exact r_indexA (j := q.1) ty_ar45 rfl rfl rfl hq16) rfl rfl rfl ?_
      -- R10.4 51 := graph.go:245 indexAddr
      refine SL.v (by exact r_indexA (j := r) ty_ar44 rfl rfl rfl hr') rfl rfl rfl ?_
      -- R10.5 52 := graph.go:245 load
      refine SL.v (by exact r_load1 (v := .int .i64 (s'.held q.1 r : Nat)) ty_one3 rfl ((matM List.mem_cons_self).cell hq16 hr' (by omega) st)) rfl rfl rfl ?_
      -- R10.6 53 := graph.go:245 fieldAddr
      refine SL.v (by exact r_field ty_fld61_1 rfl) rfl rfl rfl ?_
      -- R10.7 54 := graph.go:245 load
      refine SL.v (by exact r_load1 (v := .int .i64 (q.2 : Nat)) ty_one3 rfl (st.c1 (by decide))) rfl rfl rfl ?_
      -- R10.8 55 := graph.go:245 binOp
      refine SL.v (by exact r_add (r := ((s'.held q.1 r + q.2 : Nat) : Int)) rfl rfl ((wi64 (by omega) (by omega)).trans (by omega))) rfl rfl rfl ?_
      -- R10.9 56 := graph.go:245 indexAddr
      refine SL.v (by exact r_indexA (j := q.1) ty_ar45 rfl rfl rfl hq16) rfl rfl rfl ?_
      -- R10.10 57 := graph.go:245 indexAddr
      refine SL.v (by exact r_indexA (j := r) ty_ar44 rfl rfl rfl hr') rfl rfl rfl ?_
      refine SL.fin hKq ?_
      -- R10.11 None := graph.go:245 store
      refine WL.store (v := .int .i64 ((s'.held q.1 r + q.2 : Nat) : Int)) st ty_one3 rfl rfl rfl (by omega) rfl rfl ?_
      intro w st
      have st : S0 w0 ((b5, Row 45 320 (hM (upd2 s'.held q.1 r (s'.held q.1 r + q.2)))) :: (b4, Row 61 2 (nth [.int .i64 (q.1 : Nat), .int .i64 (q.2 : Nat)])) :: (b1, Row 36 10 fs) :: l) w := stE (hM_set2 hq16 hr') st
      refine WL.fin hK2688 (fun _ _ h => h) ?_
      refine WC.seq fun K2689 hK2689 => ?_
      -- region 11
      refine WC.region ?_
      -- R11.0 58 := graph.go:246 fieldAddr
      refine WL.v (by exact r_field ty_fld36_2 rfl) rfl rfl rfl ?_
      -- R11.1 59 := graph.go:246 load
      refine WL.v (by exact r_load1 (v := .pointer (some ⟨bA, 0, none⟩)) ty_one29 rfl (by rw [← f6]; exact st.c2 (by decide))) rfl rfl rfl ?_
      -- R11.2 60 := graph.go:246 nilCheck
      refine WL.v (by exact r_nilCheck rfl) rfl rfl rfl ?_
      -- R11.3 61 := graph.go:246 fieldAddr
      refine WL.v (by exact r_field ty_fld50_5 rfl) rfl rfl rfl ?_
      -- R11.4 62 := graph.go:246 call
      refine WL.call (r_call ty_call37 rfl) rfl rfl rfl (safeL_ok (held := upd2 s'.held q.1 r (s'.held q.1 r + q.2)) (claim := s'.claim) hD hh32 (fun t r => Nat.le_trans (hcl t r) (by decide)) hct (matM List.mem_cons_self) (matC (hckC _ _ _).A) st) ?_
      rintro _ w ⟨bb, rfl, hbb, st⟩
      obtain rfl : bb = false := by cases bb with | false => rfl | true => exact absurd (hbb.1 rfl) hns
      refine WL.fin hK2689 (fun _ _ h => h) ?_
      refine WC.condF rfl rfl ?_
      refine WC.skipF hK2678 (fun _ _ h => h) ?_
      -- region 13
      refine WC.region ?_
      -- R13.0 63 := graph.go:233 binOp
      refine WL.v (by first | exact r_add rfl rfl (wi64 (by omega) (by omega)) | exact r_add rfl rfl rfl) rfl rfl rfl ?_
      -- R13.1 6 := graph.go:233 move
      refine WL.v (by first | exact r_move (v := .int _ _) rfl | exact r_move rfl) rfl rfl rfl ?_
      refine WL.next hK1 (fun _ _ h => h) (r + 1) ⟨hr', st.drop.drop⟩ (by omega) (by repeat (first | exact sub_nil _ | refine sub_cons rfl rfl ?_))
theorem noGrant_ok (a : Option Addr) (sb so n c : Nat) (op : Nat → Kern.Op) (hD : gD w) (hS : Scr w sb so n op) (hn63 : n ≤ 140737488355328) (ha : 0 < n → a = some ⟨sb, so, none⟩) :
    Calls Tryz.prog 6 #[.slice a n c] w (Ret fun v w' => v = .bool true ∧ S0 w [] w') := by
  have st : S0 w [] w := St.init w _
  by_cases hn : n ≤ 65536
  · have hC : CheckOK w 38 #[] op n fun _ LI => LI = [] := by
      refine check_pure fun i hi bB bA qv qv' ov l w' hck st' => ?_
      have hK := run_KI op i
      have hI := run_INV op i
      have hK' := run_KI op (i + 1)
      exact noGrant1_ok (s := runP op i) (s' := runP op (i + 1)) hD (run_Settled op (i + 1)) (run_INV op (i + 1)) (run_CT op (i + 1)) hK'.b.held hK'.b.claim (fun r p hp => (hK'.b.qt r p hp).2) hck st'
    refine enter [.slice a n c] Tryz.func6 rfl Tryz.ntmps6 rfl ?_
    show WC _ _ _ 8 [] [(0, .slice a n c)] _
    refine WC.seq fun K2690 hK2690 => ?_
    -- region 0
    refine WC.region ?_
    -- R0.0 2 := graph.go:227 assign
    refine WL.v (by first | exact r_assign (v := .bool _) rfl | exact r_assign rfl) rfl rfl rfl ?_
    refine WL.fin hK2690 (fun _ _ h => h) ?_
    refine WC.seq fun K2691 hK2691 => ?_
    refine WC.seq fun K2692 hK2692 => ?_
    -- region 1
    refine WC.region ?_
    -- R1.0 3 := graph.go:228 move
    refine WL.v (by first | exact r_move (v := .slice _ _ _) rfl | exact r_move rfl) rfl rfl rfl ?_
    -- R1.1 4 := graph.go:228 call
    refine WL.call (r_call ty_call23 rfl) rfl rfl rfl (zzSmall1_ok a n c st) ?_
    rintro _ w' ⟨he, st⟩
    rw [decide_eq_true hn] at he
    subst he
    -- R1.2 5 := graph.go:228 unOp
    refine WL.v (by first | exact r_notT rfl | exact r_notF rfl | exact r_not rfl) rfl rfl rfl ?_
    refine WL.fin hK2692 (fun _ _ h => h) ?_
    refine WC.condF rfl rfl ?_
    refine WC.skipF hK2691 (fun _ _ h => h) ?_
    refine WC.seq fun K2693 hK2693 => ?_
    -- region 3
    refine WC.region ?_
    -- R3.0 6 := graph.go:232 move
    refine WL.v (by first | exact r_move (v := .slice _ _ _) rfl | exact r_move rfl) rfl rfl rfl ?_
    -- R3.1 7 := graph.go:232 call
    refine WL.call (r_call ty_call24 rfl) rfl rfl rfl (play_ok (LI := []) (l := []) ty_call38 hD hS hn ha hC rfl st) ?_
    rintro _ w'' ⟨rfl, LI', rfl, st⟩
    -- R3.2 2 := graph.go:232 assign
    refine WL.v (by first | exact r_assign (v := .bool _) rfl | exact r_assign rfl) rfl rfl rfl ?_
    refine WL.fin hK2693 (fun _ _ h => h) ?_
    refine WC.ret1 Tryz.results6 (fun _ _ h => h) rfl ?_
    exact ⟨_, rfl, rfl, st⟩
  · skip
    refine enter [.slice a n c] Tryz.func6 rfl Tryz.ntmps6 rfl ?_
    show WC _ _ _ 8 [] [(0, .slice a n c)] _
    refine WC.seq fun K2694 hK2694 => ?_
    -- region 0
    refine WC.region ?_
    -- R0.0 2 := graph.go:227 assign
    refine WL.v (by first | exact r_assign (v := .bool _) rfl | exact r_assign rfl) rfl rfl rfl ?_
    refine WL.fin hK2694 (fun _ _ h => h) ?_
    refine WC.seq fun K2695 hK2695 => ?_
    refine WC.seq fun K2696 hK2696 => ?_
    -- region 1
    refine WC.region ?_
    -- R1.0 3 := graph.go:228 move
    refine WL.v (by first | exact r_move (v := .slice _ _ _) rfl | exact r_move rfl) rfl rfl rfl ?_
    -- R1.1 4 := graph.go:228 call
    refine WL.call (r_call ty_call23 rfl) rfl rfl rfl (zzSmall1_ok a n c st) ?_
    rintro _ w' ⟨he, st⟩
    rw [decide_eq_false hn] at he
    subst he
    -- R1.2 5 := graph.go:228 unOp
    refine WL.v (by first | exact r_notT rfl | exact r_notF rfl | exact r_not rfl) rfl rfl rfl ?_
    refine WL.fin hK2696 (fun _ _ h => h) ?_
    refine WC.condT rfl rfl ?_
    refine WC.seq fun K2697 hK2697 => ?_
    -- region 2
    refine WC.region ?_
    -- R2.0 2 := graph.go:229 assign
    refine WL.v (by first | exact r_assign (v := .bool _) rfl | exact r_assign rfl) rfl rfl rfl ?_
    refine WL.fin hK2697 (fun _ _ h => h) ?_
    refine WC.ret1 Tryz.results6 (fun _ _ h => h) rfl ?_
    exact ⟨_, rfl, rfl, st⟩
end Go.Proofs.Qxb6500834aGreatDoor

