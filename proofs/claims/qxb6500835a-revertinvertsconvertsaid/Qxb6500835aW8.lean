import Derived.Test.Qxb6500835aW7
set_option linter.unusedVariables false
set_option linter.unusedSimpArgs false
namespace Go.Proofs.Qxb6500835a
open Go.RowKit Go.E1 Go.Conv

set_option maxHeartbeats 8000000 in
theorem zzSmall1_ok (a : Option Addr) (sb so n c : Nat) (C : Nat → List Value) (ln gn : Nat → Nat) (gl : Nat → Nat → Nat) {w0 : World} {L : List HI} {w : World} (hc : n ≤ 140737488355328) (ha : 0 < n → a = some ⟨sb, so, none⟩) (hs : Scr w0 sb so n C)
    (hln : ∀ i, i < n → ∃ a c, nth (C i) 10 = .slice a (ln i) c)
    (hgn : ∀ i, i < n → ∃ a c b o, nth (C i) 11 = .slice a (gn i) c ∧ (0 < gn i → a = some ⟨b, o, none⟩) ∧ ∀ g, g < gn i → ∃ a' c', w0.cell? ⟨b, o + g * 2 + 1, none⟩ = some (.slice a' (gl i g) c')) (st : St w0 (fun _ => False) L w) :
    Calls Try.prog 4 #[.slice a n c] w (Ret fun v w' => ∃ t, v = .bool t ∧ (t = true → n ≤ 65536 ∧ ∀ i, i < n → ln i ≤ 65536 ∧ gn i ≤ 65536 ∧ bas (gl i) (gn i) ≤ 65536) ∧ St w0 (fun _ => False) L w') := by
  by_cases hn : 65536 < n
  · skip
    refine enter [.slice a n c] Try.func4 rfl Try.ntmps4 rfl ?_
    show WC _ _ _ 206 [] [(0, .slice a n c)] _
    refine WC.seq fun K161 hK161 => ?_
    -- region 0
    refine WC.region ?_
    -- R0.0 2 := zzsize.go:10 assign
    refine WL.v (by first | exact r_assign (v := .bool _) rfl | exact r_assign rfl) rfl rfl rfl ?_
    refine WL.fin hK161 (fun _ _ h => h) ?_
    refine WC.seq fun K162 hK162 => ?_
    -- region 1
    refine WC.region ?_
    -- R1.0 9 := zzsize.go:11 move
    refine WL.v (by first | exact r_move (v := .slice _ _ _) rfl | exact r_move rfl) rfl rfl rfl ?_
    -- R1.1 10 := zzsize.go:11 call
    refine WL.v (by exact r_len ty_usl22 rfl) rfl rfl rfl ?_
    -- R1.2 3 := zzsize.go:11 assign
    refine WL.v (by first | exact r_assign (v := .int _ _) rfl | exact r_assign rfl) rfl rfl rfl ?_
    refine WL.fin hK162 (fun _ _ h => h) ?_
    refine WC.seq fun K163 hK163 => ?_
    refine WC.seq fun K164 hK164 => ?_
    -- region 2
    refine WC.region ?_
    -- R2.0 11 := zzsize.go:12 move
    refine WL.v (by first | exact r_move (v := .int _ _) rfl | exact r_move rfl) rfl rfl rfl ?_
    -- R2.1 12 := zzsize.go:12 binOp
    refine WL.v (by first | exact r_gtr rfl rfl (decide_eq_true (by omega)) | exact r_gtr rfl rfl (decide_eq_false (by omega)) | exact r_gtr rfl rfl rfl) rfl rfl rfl ?_
    refine WL.fin hK164 (fun _ _ h => h) ?_
    refine WC.condT rfl rfl ?_
    refine WC.seq fun K165 hK165 => ?_
    -- region 3
    refine WC.region ?_
    -- R3.0 2 := zzsize.go:13 assign
    refine WL.v (by first | exact r_assign (v := .bool _) rfl | exact r_assign rfl) rfl rfl rfl ?_
    refine WL.fin hK165 (fun _ _ h => h) ?_
    refine WC.ret1 Try.results4 (fun _ _ h => h) rfl ?_
    exact ⟨_, rfl, false, rfl, (fun h => absurd h (by decide)), st⟩
  refine enter [.slice a n c] Try.func4 rfl Try.ntmps4 rfl ?_
  show WC _ _ _ 206 [] [(0, .slice a n c)] _
  refine WC.seq fun K166 hK166 => ?_
  -- region 0
  refine WC.region ?_
  -- R0.0 2 := zzsize.go:10 assign
  refine WL.v (by first | exact r_assign (v := .bool _) rfl | exact r_assign rfl) rfl rfl rfl ?_
  refine WL.fin hK166 (fun _ _ h => h) ?_
  refine WC.seq fun K167 hK167 => ?_
  -- region 1
  refine WC.region ?_
  -- R1.0 9 := zzsize.go:11 move
  refine WL.v (by first | exact r_move (v := .slice _ _ _) rfl | exact r_move rfl) rfl rfl rfl ?_
  -- R1.1 10 := zzsize.go:11 call
  refine WL.v (by exact r_len ty_usl22 rfl) rfl rfl rfl ?_
  -- R1.2 3 := zzsize.go:11 assign
  refine WL.v (by first | exact r_assign (v := .int _ _) rfl | exact r_assign rfl) rfl rfl rfl ?_
  refine WL.fin hK167 (fun _ _ h => h) ?_
  refine WC.seq fun K168 hK168 => ?_
  refine WC.seq fun K169 hK169 => ?_
  -- region 2
  refine WC.region ?_
  -- R2.0 11 := zzsize.go:12 move
  refine WL.v (by first | exact r_move (v := .int _ _) rfl | exact r_move rfl) rfl rfl rfl ?_
  -- R2.1 12 := zzsize.go:12 binOp
  refine WL.v (by first | exact r_gtr rfl rfl (decide_eq_true (by omega)) | exact r_gtr rfl rfl (decide_eq_false (by omega)) | exact r_gtr rfl rfl rfl) rfl rfl rfl ?_
  refine WL.fin hK169 (fun _ _ h => h) ?_
  refine WC.condF rfl rfl ?_
  refine WC.skipF hK168 (fun _ _ h => h) ?_
  refine WC.seq fun K170 hK170 => ?_
  refine WC.seq fun K171 hK171 => ?_
  -- region 4
  refine WC.region ?_
  -- R4.0 4 := zzsize.go:15 assign
  refine WL.v (by first | exact r_assign (v := .int _ _) rfl | exact r_assign rfl) rfl rfl rfl ?_
  refine WL.fin hK171 (fun _ _ h => h) ?_
  refine WC.block ?_
  refine WC.loop (ι := Nat × Nat) (fun z => [(0, .slice a n c), (3, .int .i64 (z.2 : Nat)), (4, .int .i64 (z.1 : Nat))]) (fun z w' => St w0 (fun _ => False) L w' ∧ z.1 ≤ n ∧ z.2 ≤ 65536 ∧ ∀ j, j < z.1 → ln j ≤ 65536 ∧ gn j ≤ 65536 ∧ bas (gl j) (gn j) ≤ 65536) (fun z => n - z.1)
    (0, n) ⟨st, Nat.zero_le _, by show n ≤ 65536; omega, fun j hj => absurd hj (Nat.not_lt_zero _)⟩ ?_ ?_
  · skip
    repeat (first | exact sub_nil _ | refine sub_cons rfl rfl ?_)
  rintro ⟨i, s⟩ w ⟨st, hi, hsm, hl⟩ K1 hK1
  simp only at st hi hsm hl hK1 ⊢
  by_cases hlt : ¬ i < n
  · obtain rfl : i = n := by omega
    refine WC.seq fun K172 hK172 => ?_
    refine WC.seq fun K173 hK173 => ?_
    -- region 5
    refine WC.region ?_
    -- R5.0 13 := zzsize.go:15 move
    refine WL.v (by first | exact r_move (v := .int _ _) rfl | exact r_move rfl) rfl rfl rfl ?_
    -- R5.1 14 := zzsize.go:15 move
    refine WL.v (by first | exact r_move (v := .slice _ _ _) rfl | exact r_move rfl) rfl rfl rfl ?_
    -- R5.2 15 := zzsize.go:15 call
    refine WL.v (by exact r_len ty_usl22 rfl) rfl rfl rfl ?_
    -- R5.3 16 := zzsize.go:15 binOp
    refine WL.v (by first | exact r_lss rfl rfl (decide_eq_true (by omega)) | exact r_lss rfl rfl (decide_eq_false (by omega)) | exact r_lss rfl rfl rfl) rfl rfl rfl ?_
    refine WL.fin hK173 (fun _ _ h => h) ?_
    refine WC.condF rfl rfl ?_
    refine WC.exitF hK170 (fun _ _ h => h) ?_
    refine WC.seq fun K174 hK174 => ?_
    -- region 55
    refine WC.region ?_
    -- R55.0 2 := zzsize.go:73 assign
    refine WL.v (by first | exact r_assign (v := .bool _) rfl | exact r_assign rfl) rfl rfl rfl ?_
    refine WL.fin hK174 (fun _ _ h => h) ?_
    refine WC.ret1 Try.results4 (fun _ _ h => h) rfl ?_
    exact ⟨_, rfl, true, rfl, fun _ => ⟨by omega, hl⟩, st⟩
  obtain rfl := ha (by omega)
  have hlt : i < n := by omega
  have hcl := hs.cell i hlt
  obtain ⟨a2, n2, c2, b2, o2, e2, hn2, hc2, -, -⟩ := op_text (hs.rd i hlt)
  have k2 := (hcl 2 (by omega)).trans (congrArg some e2)
  obtain ⟨a6, n6, c6, b6, o6, e6, hn6, hc6, -, -⟩ := op_picks (hs.rd i hlt)
  have k6 := (hcl 6 (by omega)).trans (congrArg some e6)
  obtain ⟨a7, n7, c7, b7, o7, e7, hn7, hc7, ha7, hg7⟩ := op_docs (hs.rd i hlt)
  have k7 := (hcl 7 (by omega)).trans (congrArg some e7)
  obtain ⟨a8, n8, c8, b8, o8, e8, hn8, hc8, ha8, hg8⟩ := op_terms (hs.rd i hlt)
  have k8 := (hcl 8 (by omega)).trans (congrArg some e8)
  obtain ⟨a9, n9, c9, b9, o9, e9, hn9, hc9, ha9, hg9⟩ := op_batch (hs.rd i hlt)
  have k9 := (hcl 9 (by omega)).trans (congrArg some e9)
  obtain ⟨aL, nL, cL, bL, oL, eL, hnL, hcL, haL, hgL⟩ := op_list (hs.rd i hlt)
  have kL := (hcl 10 (by omega)).trans (congrArg some eL)
  have hnl : ln i = nL := by
    obtain ⟨aa, cc, he⟩ := hln i hlt
    rw [eL] at he
    cases he; rfl
  obtain ⟨aG, nG, cG, bG, oG, eG, hnG, hcG, haG, hgG⟩ := op_groups (hs.rd i hlt)
  have kG := (hcl 11 (by omega)).trans (congrArg some eG)
  obtain ⟨aH, cH, bH, oH, eH, haH, hgH⟩ := hgn i hlt
  rw [eG] at eH
  have hgni : gn i = nG := by cases eH; rfl
  have haGH : aG = aH := by cases eH; rfl
  by_cases q1 : 65536 < s + n2
  · skip
    refine WC.seq fun K175 hK175 => ?_
    refine WC.seq fun K176 hK176 => ?_
    -- region 5
    refine WC.region ?_
    -- R5.0 13 := zzsize.go:15 move
    refine WL.v (by first | exact r_move (v := .int _ _) rfl | exact r_move rfl) rfl rfl rfl ?_
    -- R5.1 14 := zzsize.go:15 move
    refine WL.v (by first | exact r_move (v := .slice _ _ _) rfl | exact r_move rfl) rfl rfl rfl ?_
    -- R5.2 15 := zzsize.go:15 call
    refine WL.v (by exact r_len ty_usl22 rfl) rfl rfl rfl ?_
    -- R5.3 16 := zzsize.go:15 binOp
    refine WL.v (by first | exact r_lss rfl rfl (decide_eq_true (by omega)) | exact r_lss rfl rfl (decide_eq_false (by omega)) | exact r_lss rfl rfl rfl) rfl rfl rfl ?_
    refine WL.fin hK176 (fun _ _ h => h) ?_
    refine WC.condT rfl rfl ?_
    refine WC.skipF hK175 (fun _ _ h => h) ?_
    refine WC.seq fun K177 hK177 => ?_
    refine WC.block ?_
    refine WC.seq fun K178 hK178 => ?_
    -- region 7
    refine WC.region ?_
    -- R7.0 19 := zzsize.go:16 move
    refine WL.v (by first | exact r_move (v := .int _ _) rfl | exact r_move rfl) rfl rfl rfl ?_
    -- R7.1 20 := zzsize.go:16 move
    refine WL.v (by first | exact r_move (v := .slice _ _ _) rfl | exact r_move rfl) rfl rfl rfl ?_
    -- R7.2 21 := zzsize.go:16 move
    refine WL.v (by first | exact r_move (v := .int _ _) rfl | exact r_move rfl) rfl rfl rfl ?_
    -- R7.3 22 := zzsize.go:16 indexAddr
    refine WL.v (by exact r_indexS ty_sl22 rfl rfl rfl (by omega)) rfl rfl rfl ?_
    -- R7.4 23 := zzsize.go:16 fieldAddr
    refine WL.v (by exact r_field ty_fld41_2 rfl) rfl rfl rfl ?_
    -- R7.5 24 := zzsize.go:16 load
    refine WL.v (by exact r_load1 ty_one30 rfl (st.old (fun h => h) k2)) rfl rfl rfl ?_
    -- R7.6 25 := zzsize.go:16 call
    refine WL.v (by exact r_len ty_usl30 rfl) rfl rfl rfl ?_
    -- R7.7 26 := zzsize.go:16 binOp
    refine WL.v (by exact r_add (r := ((s + n2 : Nat) : Int)) rfl rfl (by rw [wi64 (by omega) (by omega)]; omega)) rfl rfl rfl ?_
    -- R7.8 3 := zzsize.go:16 assign
    refine WL.v (by first | exact r_assign (v := .int _ _) rfl | exact r_assign rfl) rfl rfl rfl ?_
    refine WL.fin hK178 (fun _ _ h => h) ?_
    refine WC.seq fun K179 hK179 => ?_
    refine WC.seq fun K180 hK180 => ?_
    -- region 8
    refine WC.region ?_
    -- R8.0 27 := zzsize.go:17 move
    refine WL.v (by first | exact r_move (v := .int _ _) rfl | exact r_move rfl) rfl rfl rfl ?_
    -- R8.1 28 := zzsize.go:17 binOp
    refine WL.v (by first | exact r_gtr rfl rfl (decide_eq_true (by omega)) | exact r_gtr rfl rfl (decide_eq_false (by omega)) | exact r_gtr rfl rfl rfl) rfl rfl rfl ?_
    refine WL.fin hK180 (fun _ _ h => h) ?_
    refine WC.condT rfl rfl ?_
    refine WC.seq fun K181 hK181 => ?_
    -- region 9
    refine WC.region ?_
    -- R9.0 2 := zzsize.go:18 assign
    refine WL.v (by first | exact r_assign (v := .bool _) rfl | exact r_assign rfl) rfl rfl rfl ?_
    refine WL.fin hK181 (fun _ _ h => h) ?_
    refine WC.ret1 Try.results4 (fun _ _ h => h) rfl ?_
    exact ⟨_, rfl, false, rfl, (fun h => absurd h (by decide)), st⟩
  refine WC.seq fun K182 hK182 => ?_
  refine WC.seq fun K183 hK183 => ?_
  -- region 5
  refine WC.region ?_
  -- R5.0 13 := zzsize.go:15 move
  refine WL.v (by first | exact r_move (v := .int _ _) rfl | exact r_move rfl) rfl rfl rfl ?_
  -- R5.1 14 := zzsize.go:15 move
  refine WL.v (by first | exact r_move (v := .slice _ _ _) rfl | exact r_move rfl) rfl rfl rfl ?_
  -- R5.2 15 := zzsize.go:15 call
  refine WL.v (by exact r_len ty_usl22 rfl) rfl rfl rfl ?_
  -- R5.3 16 := zzsize.go:15 binOp
  refine WL.v (by first | exact r_lss rfl rfl (decide_eq_true (by omega)) | exact r_lss rfl rfl (decide_eq_false (by omega)) | exact r_lss rfl rfl rfl) rfl rfl rfl ?_
  refine WL.fin hK183 (fun _ _ h => h) ?_
  refine WC.condT rfl rfl ?_
  refine WC.skipF hK182 (fun _ _ h => h) ?_
  refine WC.seq fun K184 hK184 => ?_
  refine WC.block ?_
  refine WC.seq fun K185 hK185 => ?_
  -- region 7
  refine WC.region ?_
  -- R7.0 19 := zzsize.go:16 move
  refine WL.v (by first | exact r_move (v := .int _ _) rfl | exact r_move rfl) rfl rfl rfl ?_
  -- R7.1 20 := zzsize.go:16 move
  refine WL.v (by first | exact r_move (v := .slice _ _ _) rfl | exact r_move rfl) rfl rfl rfl ?_
  -- R7.2 21 := zzsize.go:16 move
  refine WL.v (by first | exact r_move (v := .int _ _) rfl | exact r_move rfl) rfl rfl rfl ?_
  -- R7.3 22 := zzsize.go:16 indexAddr
  refine WL.v (by exact r_indexS ty_sl22 rfl rfl rfl (by omega)) rfl rfl rfl ?_
  -- R7.4 23 := zzsize.go:16 fieldAddr
  refine WL.v (by exact r_field ty_fld41_2 rfl) rfl rfl rfl ?_
  -- R7.5 24 := zzsize.go:16 load
  refine WL.v (by exact r_load1 ty_one30 rfl (st.old (fun h => h) k2)) rfl rfl rfl ?_
  -- R7.6 25 := zzsize.go:16 call
  refine WL.v (by exact r_len ty_usl30 rfl) rfl rfl rfl ?_
  -- R7.7 26 := zzsize.go:16 binOp
  refine WL.v (by exact r_add (r := ((s + n2 : Nat) : Int)) rfl rfl (by rw [wi64 (by omega) (by omega)]; omega)) rfl rfl rfl ?_
  -- R7.8 3 := zzsize.go:16 assign
  refine WL.v (by first | exact r_assign (v := .int _ _) rfl | exact r_assign rfl) rfl rfl rfl ?_
  refine WL.fin hK185 (fun _ _ h => h) ?_
  refine WC.seq fun K186 hK186 => ?_
  refine WC.seq fun K187 hK187 => ?_
  -- region 8
  refine WC.region ?_
  -- R8.0 27 := zzsize.go:17 move
  refine WL.v (by first | exact r_move (v := .int _ _) rfl | exact r_move rfl) rfl rfl rfl ?_
  -- R8.1 28 := zzsize.go:17 binOp
  refine WL.v (by first | exact r_gtr rfl rfl (decide_eq_true (by omega)) | exact r_gtr rfl rfl (decide_eq_false (by omega)) | exact r_gtr rfl rfl rfl) rfl rfl rfl ?_
  refine WL.fin hK187 (fun _ _ h => h) ?_
  by_cases q2 : 65536 < s + n2 + n6
  · skip
    refine WC.condF rfl rfl ?_
    refine WC.skipF hK186 (fun _ _ h => h) ?_
    refine WC.seq fun K188 hK188 => ?_
    -- region 10
    refine WC.region ?_
    -- R10.0 29 := zzsize.go:20 move
    refine WL.v (by first | exact r_move (v := .int _ _) rfl | exact r_move rfl) rfl rfl rfl ?_
    -- R10.1 30 := zzsize.go:20 move
    refine WL.v (by first | exact r_move (v := .slice _ _ _) rfl | exact r_move rfl) rfl rfl rfl ?_
    -- R10.2 31 := zzsize.go:20 move
    refine WL.v (by first | exact r_move (v := .int _ _) rfl | exact r_move rfl) rfl rfl rfl ?_
    -- R10.3 32 := zzsize.go:20 indexAddr
    refine WL.v (by exact r_indexS ty_sl22 rfl rfl rfl (by omega)) rfl rfl rfl ?_
    -- R10.4 33 := zzsize.go:20 fieldAddr
    refine WL.v (by exact r_field ty_fld41_6 rfl) rfl rfl rfl ?_
    -- R10.5 34 := zzsize.go:20 load
    refine WL.v (by exact r_load1 ty_one31 rfl (st.old (fun h => h) k6)) rfl rfl rfl ?_
    -- R10.6 35 := zzsize.go:20 call
    refine WL.v (by exact r_len ty_usl31 rfl) rfl rfl rfl ?_
    -- R10.7 36 := zzsize.go:20 binOp
    refine WL.v (by exact r_add (r := ((s + n2 + n6 : Nat) : Int)) rfl rfl (by rw [wi64 (by omega) (by omega)]; omega)) rfl rfl rfl ?_
    -- R10.8 3 := zzsize.go:20 assign
    refine WL.v (by first | exact r_assign (v := .int _ _) rfl | exact r_assign rfl) rfl rfl rfl ?_
    refine WL.fin hK188 (fun _ _ h => h) ?_
    refine WC.seq fun K189 hK189 => ?_
    refine WC.seq fun K190 hK190 => ?_
    -- region 11
    refine WC.region ?_
    -- R11.0 37 := zzsize.go:21 move
    refine WL.v (by first | exact r_move (v := .int _ _) rfl | exact r_move rfl) rfl rfl rfl ?_
    -- R11.1 38 := zzsize.go:21 binOp
    refine WL.v (by first | exact r_gtr rfl rfl (decide_eq_true (by omega)) | exact r_gtr rfl rfl (decide_eq_false (by omega)) | exact r_gtr rfl rfl rfl) rfl rfl rfl ?_
    refine WL.fin hK190 (fun _ _ h => h) ?_
    refine WC.condT rfl rfl ?_
    refine WC.seq fun K191 hK191 => ?_
    -- region 12
    refine WC.region ?_
    -- R12.0 2 := zzsize.go:22 assign
    refine WL.v (by first | exact r_assign (v := .bool _) rfl | exact r_assign rfl) rfl rfl rfl ?_
    refine WL.fin hK191 (fun _ _ h => h) ?_
    refine WC.ret1 Try.results4 (fun _ _ h => h) rfl ?_
    exact ⟨_, rfl, false, rfl, (fun h => absurd h (by decide)), st⟩
  refine WC.condF rfl rfl ?_
  refine WC.skipF hK186 (fun _ _ h => h) ?_
  refine WC.seq fun K192 hK192 => ?_
  -- region 10
  refine WC.region ?_
  -- R10.0 29 := zzsize.go:20 move
  refine WL.v (by first | exact r_move (v := .int _ _) rfl | exact r_move rfl) rfl rfl rfl ?_
  -- R10.1 30 := zzsize.go:20 move
  refine WL.v (by first | exact r_move (v := .slice _ _ _) rfl | exact r_move rfl) rfl rfl rfl ?_
  -- R10.2 31 := zzsize.go:20 move
  refine WL.v (by first | exact r_move (v := .int _ _) rfl | exact r_move rfl) rfl rfl rfl ?_
  -- R10.3 32 := zzsize.go:20 indexAddr
  refine WL.v (by exact r_indexS ty_sl22 rfl rfl rfl (by omega)) rfl rfl rfl ?_
  -- R10.4 33 := zzsize.go:20 fieldAddr
  refine WL.v (by exact r_field ty_fld41_6 rfl) rfl rfl rfl ?_
  -- R10.5 34 := zzsize.go:20 load
  refine WL.v (by exact r_load1 ty_one31 rfl (st.old (fun h => h) k6)) rfl rfl rfl ?_
  -- R10.6 35 := zzsize.go:20 call
  refine WL.v (by exact r_len ty_usl31 rfl) rfl rfl rfl ?_
  -- R10.7 36 := zzsize.go:20 binOp
  refine WL.v (by exact r_add (r := ((s + n2 + n6 : Nat) : Int)) rfl rfl (by rw [wi64 (by omega) (by omega)]; omega)) rfl rfl rfl ?_
  -- R10.8 3 := zzsize.go:20 assign
  refine WL.v (by first | exact r_assign (v := .int _ _) rfl | exact r_assign rfl) rfl rfl rfl ?_
  refine WL.fin hK192 (fun _ _ h => h) ?_
  refine WC.seq fun K193 hK193 => ?_
  refine WC.seq fun K194 hK194 => ?_
  -- region 11
  refine WC.region ?_
  -- R11.0 37 := zzsize.go:21 move
  refine WL.v (by first | exact r_move (v := .int _ _) rfl | exact r_move rfl) rfl rfl rfl ?_
  -- R11.1 38 := zzsize.go:21 binOp
  refine WL.v (by first | exact r_gtr rfl rfl (decide_eq_true (by omega)) | exact r_gtr rfl rfl (decide_eq_false (by omega)) | exact r_gtr rfl rfl rfl) rfl rfl rfl ?_
  refine WL.fin hK194 (fun _ _ h => h) ?_
  by_cases q3 : 65536 < s + n2 + n6 + n7
  · skip
    refine WC.condF rfl rfl ?_
    refine WC.skipF hK193 (fun _ _ h => h) ?_
    refine WC.seq fun K195 hK195 => ?_
    -- region 13
    refine WC.region ?_
    -- R13.0 39 := zzsize.go:24 move
    refine WL.v (by first | exact r_move (v := .int _ _) rfl | exact r_move rfl) rfl rfl rfl ?_
    -- R13.1 40 := zzsize.go:24 move
    refine WL.v (by first | exact r_move (v := .slice _ _ _) rfl | exact r_move rfl) rfl rfl rfl ?_
    -- R13.2 41 := zzsize.go:24 move
    refine WL.v (by first | exact r_move (v := .int _ _) rfl | exact r_move rfl) rfl rfl rfl ?_
    -- R13.3 42 := zzsize.go:24 indexAddr
    refine WL.v (by exact r_indexS ty_sl22 rfl rfl rfl (by omega)) rfl rfl rfl ?_
    -- R13.4 43 := zzsize.go:24 fieldAddr
    refine WL.v (by exact r_field ty_fld41_7 rfl) rfl rfl rfl ?_
    -- R13.5 44 := zzsize.go:24 fieldAddr
    refine WL.v (by exact r_field ty_fld35_0 rfl) rfl rfl rfl ?_
    -- R13.6 45 := zzsize.go:24 load
    refine WL.v (by exact r_load1 ty_one32 rfl (st.old (fun h => h) k7)) rfl rfl rfl ?_
    -- R13.7 46 := zzsize.go:24 call
    refine WL.v (by exact r_len ty_usl32 rfl) rfl rfl rfl ?_
    -- R13.8 47 := zzsize.go:24 binOp
    refine WL.v (by exact r_add (r := ((s + n2 + n6 + n7 : Nat) : Int)) rfl rfl (by rw [wi64 (by omega) (by omega)]; omega)) rfl rfl rfl ?_
    -- R13.9 3 := zzsize.go:24 assign
    refine WL.v (by first | exact r_assign (v := .int _ _) rfl | exact r_assign rfl) rfl rfl rfl ?_
    refine WL.fin hK195 (fun _ _ h => h) ?_
    refine WC.seq fun K196 hK196 => ?_
    refine WC.seq fun K197 hK197 => ?_
    -- region 14
    refine WC.region ?_
    -- R14.0 48 := zzsize.go:25 move
    refine WL.v (by first | exact r_move (v := .int _ _) rfl | exact r_move rfl) rfl rfl rfl ?_
    -- R14.1 49 := zzsize.go:25 binOp
    refine WL.v (by first | exact r_gtr rfl rfl (decide_eq_true (by omega)) | exact r_gtr rfl rfl (decide_eq_false (by omega)) | exact r_gtr rfl rfl rfl) rfl rfl rfl ?_
    refine WL.fin hK197 (fun _ _ h => h) ?_
    refine WC.condT rfl rfl ?_
    refine WC.seq fun K198 hK198 => ?_
    -- region 15
    refine WC.region ?_
    -- R15.0 2 := zzsize.go:26 assign
    refine WL.v (by first | exact r_assign (v := .bool _) rfl | exact r_assign rfl) rfl rfl rfl ?_
    refine WL.fin hK198 (fun _ _ h => h) ?_
    refine WC.ret1 Try.results4 (fun _ _ h => h) rfl ?_
    exact ⟨_, rfl, false, rfl, (fun h => absurd h (by decide)), st⟩
  refine WC.condF rfl rfl ?_
  refine WC.skipF hK193 (fun _ _ h => h) ?_
  refine WC.seq fun K199 hK199 => ?_
  -- region 13
  refine WC.region ?_
  -- R13.0 39 := zzsize.go:24 move
  refine WL.v (by first | exact r_move (v := .int _ _) rfl | exact r_move rfl) rfl rfl rfl ?_
  -- R13.1 40 := zzsize.go:24 move
  refine WL.v (by first | exact r_move (v := .slice _ _ _) rfl | exact r_move rfl) rfl rfl rfl ?_
  -- R13.2 41 := zzsize.go:24 move
  refine WL.v (by first | exact r_move (v := .int _ _) rfl | exact r_move rfl) rfl rfl rfl ?_
  -- R13.3 42 := zzsize.go:24 indexAddr
  refine WL.v (by exact r_indexS ty_sl22 rfl rfl rfl (by omega)) rfl rfl rfl ?_
  -- R13.4 43 := zzsize.go:24 fieldAddr
  refine WL.v (by exact r_field ty_fld41_7 rfl) rfl rfl rfl ?_
  -- R13.5 44 := zzsize.go:24 fieldAddr
  refine WL.v (by exact r_field ty_fld35_0 rfl) rfl rfl rfl ?_
  -- R13.6 45 := zzsize.go:24 load
  refine WL.v (by exact r_load1 ty_one32 rfl (st.old (fun h => h) k7)) rfl rfl rfl ?_
  -- R13.7 46 := zzsize.go:24 call
  refine WL.v (by exact r_len ty_usl32 rfl) rfl rfl rfl ?_
  -- R13.8 47 := zzsize.go:24 binOp
  refine WL.v (by exact r_add (r := ((s + n2 + n6 + n7 : Nat) : Int)) rfl rfl (by rw [wi64 (by omega) (by omega)]; omega)) rfl rfl rfl ?_
  -- R13.9 3 := zzsize.go:24 assign
  refine WL.v (by first | exact r_assign (v := .int _ _) rfl | exact r_assign rfl) rfl rfl rfl ?_
  refine WL.fin hK199 (fun _ _ h => h) ?_
  refine WC.seq fun K200 hK200 => ?_
  refine WC.seq fun K201 hK201 => ?_
  -- region 14
  refine WC.region ?_
  -- R14.0 48 := zzsize.go:25 move
  refine WL.v (by first | exact r_move (v := .int _ _) rfl | exact r_move rfl) rfl rfl rfl ?_
  -- R14.1 49 := zzsize.go:25 binOp
  refine WL.v (by first | exact r_gtr rfl rfl (decide_eq_true (by omega)) | exact r_gtr rfl rfl (decide_eq_false (by omega)) | exact r_gtr rfl rfl rfl) rfl rfl rfl ?_
  refine WL.fin hK201 (fun _ _ h => h) ?_
  refine WC.condF rfl rfl ?_
  refine WC.skipF hK200 (fun _ _ h => h) ?_
  refine WC.seq fun K202 hK202 => ?_
  refine WC.seq fun K203 hK203 => ?_
  -- region 16
  refine WC.region ?_
  -- R16.0 5 := zzsize.go:28 assign
  refine WL.v (by first | exact r_assign (v := .int _ _) rfl | exact r_assign rfl) rfl rfl rfl ?_
  refine WL.fin hK203 (fun _ _ h => h) ?_
  refine WC.block ?_
  refine WC.loop (ι := Nat × Nat) (fun z => [(0, .slice (some ⟨sb, so, none⟩) n c), (3, .int .i64 (z.2 : Nat)), (4, .int .i64 (i : Nat)), (5, .int .i64 (z.1 : Nat))]) (fun z w' => St w0 (fun _ => False) L w' ∧ z.1 ≤ n7 ∧ z.2 ≤ 65536) (fun z => n7 - z.1) (0, s + n2 + n6 + n7) ⟨st, Nat.zero_le _, by show s + n2 + n6 + n7 ≤ 65536; omega⟩ ?_ ?_
  · skip
    repeat (first | exact sub_nil _ | refine sub_cons rfl rfl ?_)
  rintro ⟨j7, s2⟩ w ⟨st, hj7, hs2⟩ K2 hK2
  simp only at st hj7 hs2 hK2 ⊢
  by_cases hjl7 : j7 < n7
  · obtain rfl := ha7 (by omega)
    obtain ⟨ecs, -, hec, hre⟩ := hg7 j7 hjl7
    obtain ⟨ea, en, ec, eb, eo, ee, hen, hec2, -, -⟩ := doc_stored hre
    have ke := (hec 2 (by omega)).trans (congrArg some ee)
    by_cases r70 : 65536 < s2 + en
    · skip
      refine WC.seq fun K204 hK204 => ?_
      refine WC.seq fun K205 hK205 => ?_
      -- region 17
      refine WC.region ?_
      -- R17.0 50 := zzsize.go:28 move
      refine WL.v (by first | exact r_move (v := .int _ _) rfl | exact r_move rfl) rfl rfl rfl ?_
      -- R17.1 51 := zzsize.go:28 move
      refine WL.v (by first | exact r_move (v := .slice _ _ _) rfl | exact r_move rfl) rfl rfl rfl ?_
      -- R17.2 52 := zzsize.go:28 move
      refine WL.v (by first | exact r_move (v := .int _ _) rfl | exact r_move rfl) rfl rfl rfl ?_
      -- R17.3 53 := zzsize.go:28 indexAddr
      refine WL.v (by exact r_indexS ty_sl22 rfl rfl rfl (by omega)) rfl rfl rfl ?_
      -- R17.4 54 := zzsize.go:28 fieldAddr
      refine WL.v (by exact r_field ty_fld41_7 rfl) rfl rfl rfl ?_
      -- R17.5 55 := zzsize.go:28 fieldAddr
      refine WL.v (by exact r_field ty_fld35_0 rfl) rfl rfl rfl ?_
      -- R17.6 56 := zzsize.go:28 load
      refine WL.v (by exact r_load1 ty_one32 rfl (st.old (fun h => h) k7)) rfl rfl rfl ?_
      -- R17.7 57 := zzsize.go:28 call
      refine WL.v (by exact r_len ty_usl32 rfl) rfl rfl rfl ?_
      -- R17.8 58 := zzsize.go:28 binOp
      refine WL.v (by first | exact r_lss rfl rfl (decide_eq_true (by omega)) | exact r_lss rfl rfl (decide_eq_false (by omega)) | exact r_lss rfl rfl rfl) rfl rfl rfl ?_
      refine WL.fin hK205 (fun _ _ h => h) ?_
      refine WC.condT rfl rfl ?_
      refine WC.skipF hK204 (fun _ _ h => h) ?_
      refine WC.seq fun K206 hK206 => ?_
      refine WC.block ?_
      refine WC.seq fun K207 hK207 => ?_
      -- region 19
      refine WC.region ?_
      -- R19.0 61 := zzsize.go:29 move
      refine WL.v (by first | exact r_move (v := .int _ _) rfl | exact r_move rfl) rfl rfl rfl ?_
      -- R19.1 62 := zzsize.go:29 move
      refine WL.v (by first | exact r_move (v := .slice _ _ _) rfl | exact r_move rfl) rfl rfl rfl ?_
      -- R19.2 63 := zzsize.go:29 move
      refine WL.v (by first | exact r_move (v := .int _ _) rfl | exact r_move rfl) rfl rfl rfl ?_
      -- R19.3 64 := zzsize.go:29 indexAddr
      refine WL.v (by exact r_indexS ty_sl22 rfl rfl rfl (by omega)) rfl rfl rfl ?_
      -- R19.4 65 := zzsize.go:29 fieldAddr
      refine WL.v (by exact r_field ty_fld41_7 rfl) rfl rfl rfl ?_
      -- R19.5 66 := zzsize.go:29 fieldAddr
      refine WL.v (by exact r_field ty_fld35_0 rfl) rfl rfl rfl ?_
      -- R19.6 67 := zzsize.go:29 load
      refine WL.v (by exact r_load1 ty_one32 rfl (st.old (fun h => h) k7)) rfl rfl rfl ?_
      -- R19.7 68 := zzsize.go:29 move
      refine WL.v (by first | exact r_move (v := .int _ _) rfl | exact r_move rfl) rfl rfl rfl ?_
      -- R19.8 69 := zzsize.go:29 indexAddr
      refine WL.v (by exact r_indexS ty_sl32 rfl rfl rfl (by omega)) rfl rfl rfl ?_
      -- R19.9 70 := zzsize.go:29 fieldAddr
      refine WL.v (by exact r_field ty_fld52_2 rfl) rfl rfl rfl ?_
      -- R19.10 71 := zzsize.go:29 load
      refine WL.v (by exact r_load1 ty_one30 rfl (st.old (fun h => h) ke)) rfl rfl rfl ?_
      -- R19.11 72 := zzsize.go:29 call
      refine WL.v (by exact r_len ty_usl30 rfl) rfl rfl rfl ?_
      -- R19.12 73 := zzsize.go:29 binOp
      refine WL.v (by exact r_add (r := ((s2 + en : Nat) : Int)) rfl rfl (by rw [wi64 (by omega) (by omega)]; omega)) rfl rfl rfl ?_
      -- R19.13 3 := zzsize.go:29 assign
      refine WL.v (by first | exact r_assign (v := .int _ _) rfl | exact r_assign rfl) rfl rfl rfl ?_
      refine WL.fin hK207 (fun _ _ h => h) ?_
      refine WC.seq fun K208 hK208 => ?_
      -- region 20
      refine WC.region ?_
      -- R20.0 74 := zzsize.go:30 move
      refine WL.v (by first | exact r_move (v := .int _ _) rfl | exact r_move rfl) rfl rfl rfl ?_
      -- R20.1 75 := zzsize.go:30 binOp
      refine WL.v (by first | exact r_gtr rfl rfl (decide_eq_true (by omega)) | exact r_gtr rfl rfl (decide_eq_false (by omega)) | exact r_gtr rfl rfl rfl) rfl rfl rfl ?_
      refine WL.fin hK208 (fun _ _ h => h) ?_
      refine WC.condT rfl rfl ?_
      refine WC.seq fun K209 hK209 => ?_
      -- region 21
      refine WC.region ?_
      -- R21.0 2 := zzsize.go:31 assign
      refine WL.v (by first | exact r_assign (v := .bool _) rfl | exact r_assign rfl) rfl rfl rfl ?_
      refine WL.fin hK209 (fun _ _ h => h) ?_
      refine WC.ret1 Try.results4 (fun _ _ h => h) rfl ?_
      exact ⟨_, rfl, false, rfl, (fun h => absurd h (by decide)), st⟩
    refine WC.seq fun K210 hK210 => ?_
    refine WC.seq fun K211 hK211 => ?_
    -- region 17
    refine WC.region ?_
    -- R17.0 50 := zzsize.go:28 move
    refine WL.v (by first | exact r_move (v := .int _ _) rfl | exact r_move rfl) rfl rfl rfl ?_
    -- R17.1 51 := zzsize.go:28 move
    refine WL.v (by first | exact r_move (v := .slice _ _ _) rfl | exact r_move rfl) rfl rfl rfl ?_
    -- R17.2 52 := zzsize.go:28 move
    refine WL.v (by first | exact r_move (v := .int _ _) rfl | exact r_move rfl) rfl rfl rfl ?_
    -- R17.3 53 := zzsize.go:28 indexAddr
    refine WL.v (by exact r_indexS ty_sl22 rfl rfl rfl (by omega)) rfl rfl rfl ?_
    -- R17.4 54 := zzsize.go:28 fieldAddr
    refine WL.v (by exact r_field ty_fld41_7 rfl) rfl rfl rfl ?_
    -- R17.5 55 := zzsize.go:28 fieldAddr
    refine WL.v (by exact r_field ty_fld35_0 rfl) rfl rfl rfl ?_
    -- R17.6 56 := zzsize.go:28 load
    refine WL.v (by exact r_load1 ty_one32 rfl (st.old (fun h => h) k7)) rfl rfl rfl ?_
    -- R17.7 57 := zzsize.go:28 call
    refine WL.v (by exact r_len ty_usl32 rfl) rfl rfl rfl ?_
    -- R17.8 58 := zzsize.go:28 binOp
    refine WL.v (by first | exact r_lss rfl rfl (decide_eq_true (by omega)) | exact r_lss rfl rfl (decide_eq_false (by omega)) | exact r_lss rfl rfl rfl) rfl rfl rfl ?_
    refine WL.fin hK211 (fun _ _ h => h) ?_
    refine WC.condT rfl rfl ?_
    refine WC.skipF hK210 (fun _ _ h => h) ?_
    refine WC.seq fun K212 hK212 => ?_
    refine WC.block ?_
    refine WC.seq fun K213 hK213 => ?_
    -- region 19
    refine WC.region ?_
    -- R19.0 61 := zzsize.go:29 move
    refine WL.v (by first | exact r_move (v := .int _ _) rfl | exact r_move rfl) rfl rfl rfl ?_
    -- R19.1 62 := zzsize.go:29 move
    refine WL.v (by first | exact r_move (v := .slice _ _ _) rfl | exact r_move rfl) rfl rfl rfl ?_
    -- R19.2 63 := zzsize.go:29 move
    refine WL.v (by first | exact r_move (v := .int _ _) rfl | exact r_move rfl) rfl rfl rfl ?_
    -- R19.3 64 := zzsize.go:29 indexAddr
    refine WL.v (by exact r_indexS ty_sl22 rfl rfl rfl (by omega)) rfl rfl rfl ?_
    -- R19.4 65 := zzsize.go:29 fieldAddr
    refine WL.v (by exact r_field ty_fld41_7 rfl) rfl rfl rfl ?_
    -- R19.5 66 := zzsize.go:29 fieldAddr
    refine WL.v (by exact r_field ty_fld35_0 rfl) rfl rfl rfl ?_
    -- R19.6 67 := zzsize.go:29 load
    refine WL.v (by exact r_load1 ty_one32 rfl (st.old (fun h => h) k7)) rfl rfl rfl ?_
    -- R19.7 68 := zzsize.go:29 move
    refine WL.v (by first | exact r_move (v := .int _ _) rfl | exact r_move rfl) rfl rfl rfl ?_
    -- R19.8 69 := zzsize.go:29 indexAddr
    refine WL.v (by exact r_indexS ty_sl32 rfl rfl rfl (by omega)) rfl rfl rfl ?_
    -- R19.9 70 := zzsize.go:29 fieldAddr
    refine WL.v (by exact r_field ty_fld52_2 rfl) rfl rfl rfl ?_
    -- R19.10 71 := zzsize.go:29 load
    refine WL.v (by exact r_load1 ty_one30 rfl (st.old (fun h => h) ke)) rfl rfl rfl ?_
    -- R19.11 72 := zzsize.go:29 call
    refine WL.v (by exact r_len ty_usl30 rfl) rfl rfl rfl ?_
    -- R19.12 73 := zzsize.go:29 binOp
    refine WL.v (by exact r_add (r := ((s2 + en : Nat) : Int)) rfl rfl (by rw [wi64 (by omega) (by omega)]; omega)) rfl rfl rfl ?_
    -- R19.13 3 := zzsize.go:29 assign
    refine WL.v (by first | exact r_assign (v := .int _ _) rfl | exact r_assign rfl) rfl rfl rfl ?_
    refine WL.fin hK213 (fun _ _ h => h) ?_
    refine WC.seq fun K214 hK214 => ?_
    -- region 20
    refine WC.region ?_
    -- R20.0 74 := zzsize.go:30 move
    refine WL.v (by first | exact r_move (v := .int _ _) rfl | exact r_move rfl) rfl rfl rfl ?_
    -- R20.1 75 := zzsize.go:30 binOp
    refine WL.v (by first | exact r_gtr rfl rfl (decide_eq_true (by omega)) | exact r_gtr rfl rfl (decide_eq_false (by omega)) | exact r_gtr rfl rfl rfl) rfl rfl rfl ?_
    refine WL.fin hK214 (fun _ _ h => h) ?_
    refine WC.condF rfl rfl ?_
    refine WC.skipF hK212 (fun _ _ h => h) ?_
    -- region 18
    refine WC.region ?_
    -- R18.0 59 := zzsize.go:28 move
    refine WL.v (by first | exact r_move (v := .int _ _) rfl | exact r_move rfl) rfl rfl rfl ?_
    -- R18.1 60 := zzsize.go:28 binOp
    refine WL.v (by first | exact r_add rfl rfl (wi64 (by omega) (by omega)) | exact r_add rfl rfl rfl) rfl rfl rfl ?_
    -- R18.2 5 := zzsize.go:28 assign
    refine WL.v (by first | exact r_assign (v := .int _ _) rfl | exact r_assign rfl) rfl rfl rfl ?_
    refine WL.next hK2 (fun _ _ h => h) (j7 + 1, s2 + en) ⟨st, by show j7 + 1 ≤ n7; omega, by show s2 + en ≤ 65536; omega⟩ (by show n7 - (j7 + 1) < n7 - j7; omega) (by repeat (first | exact sub_nil _ | refine sub_cons rfl rfl ?_))
  have hj7e : j7 = n7 := by omega
  subst hj7e
  by_cases q4 : 65536 < s2 + n8
  · skip
    refine WC.seq fun K215 hK215 => ?_
    refine WC.seq fun K216 hK216 => ?_
    -- region 17
    refine WC.region ?_
    -- R17.0 50 := zzsize.go:28 move
    refine WL.v (by first | exact r_move (v := .int _ _) rfl | exact r_move rfl) rfl rfl rfl ?_
    -- R17.1 51 := zzsize.go:28 move
    refine WL.v (by first | exact r_move (v := .slice _ _ _) rfl | exact r_move rfl) rfl rfl rfl ?_
    -- R17.2 52 := zzsize.go:28 move
    refine WL.v (by first | exact r_move (v := .int _ _) rfl | exact r_move rfl) rfl rfl rfl ?_
    -- R17.3 53 := zzsize.go:28 indexAddr
    refine WL.v (by exact r_indexS ty_sl22 rfl rfl rfl (by omega)) rfl rfl rfl ?_
    -- R17.4 54 := zzsize.go:28 fieldAddr
    refine WL.v (by exact r_field ty_fld41_7 rfl) rfl rfl rfl ?_
    -- R17.5 55 := zzsize.go:28 fieldAddr
    refine WL.v (by exact r_field ty_fld35_0 rfl) rfl rfl rfl ?_
    -- R17.6 56 := zzsize.go:28 load
    refine WL.v (by exact r_load1 ty_one32 rfl (st.old (fun h => h) k7)) rfl rfl rfl ?_
    -- R17.7 57 := zzsize.go:28 call
    refine WL.v (by exact r_len ty_usl32 rfl) rfl rfl rfl ?_
    -- R17.8 58 := zzsize.go:28 binOp
    refine WL.v (by first | exact r_lss rfl rfl (decide_eq_true (by omega)) | exact r_lss rfl rfl (decide_eq_false (by omega)) | exact r_lss rfl rfl rfl) rfl rfl rfl ?_
    refine WL.fin hK216 (fun _ _ h => h) ?_
    refine WC.condF rfl rfl ?_
    refine WC.exitF hK202 (fun _ _ h => h) ?_
    refine WC.seq fun K217 hK217 => ?_
    -- region 22
    refine WC.region ?_
    -- R22.0 76 := zzsize.go:34 move
    refine WL.v (by first | exact r_move (v := .int _ _) rfl | exact r_move rfl) rfl rfl rfl ?_
    -- R22.1 77 := zzsize.go:34 move
    refine WL.v (by first | exact r_move (v := .slice _ _ _) rfl | exact r_move rfl) rfl rfl rfl ?_
    -- R22.2 78 := zzsize.go:34 move
    refine WL.v (by first | exact r_move (v := .int _ _) rfl | exact r_move rfl) rfl rfl rfl ?_
    -- R22.3 79 := zzsize.go:34 indexAddr
    refine WL.v (by exact r_indexS ty_sl22 rfl rfl rfl (by omega)) rfl rfl rfl ?_
    -- R22.4 80 := zzsize.go:34 fieldAddr
    refine WL.v (by exact r_field ty_fld41_7 rfl) rfl rfl rfl ?_
    -- R22.5 81 := zzsize.go:34 fieldAddr
    refine WL.v (by exact r_field ty_fld35_1 rfl) rfl rfl rfl ?_
    -- R22.6 82 := zzsize.go:34 load
    refine WL.v (by exact r_load1 ty_one33 rfl (st.old (fun h => h) k8)) rfl rfl rfl ?_
    -- R22.7 83 := zzsize.go:34 call
    refine WL.v (by exact r_len ty_usl33 rfl) rfl rfl rfl ?_
    -- R22.8 84 := zzsize.go:34 binOp
    refine WL.v (by exact r_add (r := ((s2 + n8 : Nat) : Int)) rfl rfl (by rw [wi64 (by omega) (by omega)]; omega)) rfl rfl rfl ?_
    -- R22.9 3 := zzsize.go:34 assign
    refine WL.v (by first | exact r_assign (v := .int _ _) rfl | exact r_assign rfl) rfl rfl rfl ?_
    refine WL.fin hK217 (fun _ _ h => h) ?_
    refine WC.seq fun K218 hK218 => ?_
    refine WC.seq fun K219 hK219 => ?_
    -- region 23
    refine WC.region ?_
    -- R23.0 85 := zzsize.go:35 move
    refine WL.v (by first | exact r_move (v := .int _ _) rfl | exact r_move rfl) rfl rfl rfl ?_
    -- R23.1 86 := zzsize.go:35 binOp
    refine WL.v (by first | exact r_gtr rfl rfl (decide_eq_true (by omega)) | exact r_gtr rfl rfl (decide_eq_false (by omega)) | exact r_gtr rfl rfl rfl) rfl rfl rfl ?_
    refine WL.fin hK219 (fun _ _ h => h) ?_
    refine WC.condT rfl rfl ?_
    refine WC.seq fun K220 hK220 => ?_
    -- region 24
    refine WC.region ?_
    -- R24.0 2 := zzsize.go:36 assign
    refine WL.v (by first | exact r_assign (v := .bool _) rfl | exact r_assign rfl) rfl rfl rfl ?_
    refine WL.fin hK220 (fun _ _ h => h) ?_
    refine WC.ret1 Try.results4 (fun _ _ h => h) rfl ?_
    exact ⟨_, rfl, false, rfl, (fun h => absurd h (by decide)), st⟩
  refine WC.seq fun K221 hK221 => ?_
  refine WC.seq fun K222 hK222 => ?_
  -- region 17
  refine WC.region ?_
  -- R17.0 50 := zzsize.go:28 move
  refine WL.v (by first | exact r_move (v := .int _ _) rfl | exact r_move rfl) rfl rfl rfl ?_
  -- R17.1 51 := zzsize.go:28 move
  refine WL.v (by first | exact r_move (v := .slice _ _ _) rfl | exact r_move rfl) rfl rfl rfl ?_
  -- R17.2 52 := zzsize.go:28 move
  refine WL.v (by first | exact r_move (v := .int _ _) rfl | exact r_move rfl) rfl rfl rfl ?_
  -- R17.3 53 := zzsize.go:28 indexAddr
  refine WL.v (by exact r_indexS ty_sl22 rfl rfl rfl (by omega)) rfl rfl rfl ?_
  -- R17.4 54 := zzsize.go:28 fieldAddr
  refine WL.v (by exact r_field ty_fld41_7 rfl) rfl rfl rfl ?_
  -- R17.5 55 := zzsize.go:28 fieldAddr
  refine WL.v (by exact r_field ty_fld35_0 rfl) rfl rfl rfl ?_
  -- R17.6 56 := zzsize.go:28 load
  refine WL.v (by exact r_load1 ty_one32 rfl (st.old (fun h => h) k7)) rfl rfl rfl ?_
  -- R17.7 57 := zzsize.go:28 call
  refine WL.v (by exact r_len ty_usl32 rfl) rfl rfl rfl ?_
  -- R17.8 58 := zzsize.go:28 binOp
  refine WL.v (by first | exact r_lss rfl rfl (decide_eq_true (by omega)) | exact r_lss rfl rfl (decide_eq_false (by omega)) | exact r_lss rfl rfl rfl) rfl rfl rfl ?_
  refine WL.fin hK222 (fun _ _ h => h) ?_
  refine WC.condF rfl rfl ?_
  refine WC.exitF hK202 (fun _ _ h => h) ?_
  refine WC.seq fun K223 hK223 => ?_
  -- region 22
  refine WC.region ?_
  -- R22.0 76 := zzsize.go:34 move
  refine WL.v (by first | exact r_move (v := .int _ _) rfl | exact r_move rfl) rfl rfl rfl ?_
  -- R22.1 77 := zzsize.go:34 move
  refine WL.v (by first | exact r_move (v := .slice _ _ _) rfl | exact r_move rfl) rfl rfl rfl ?_
  -- R22.2 78 := zzsize.go:34 move
  refine WL.v (by first | exact r_move (v := .int _ _) rfl | exact r_move rfl) rfl rfl rfl ?_
  -- R22.3 79 := zzsize.go:34 indexAddr
  refine WL.v (by exact r_indexS ty_sl22 rfl rfl rfl (by omega)) rfl rfl rfl ?_
  -- R22.4 80 := zzsize.go:34 fieldAddr
  refine WL.v (by exact r_field ty_fld41_7 rfl) rfl rfl rfl ?_
  -- R22.5 81 := zzsize.go:34 fieldAddr
  refine WL.v (by exact r_field ty_fld35_1 rfl) rfl rfl rfl ?_
  -- R22.6 82 := zzsize.go:34 load
  refine WL.v (by exact r_load1 ty_one33 rfl (st.old (fun h => h) k8)) rfl rfl rfl ?_
  -- R22.7 83 := zzsize.go:34 call
  refine WL.v (by exact r_len ty_usl33 rfl) rfl rfl rfl ?_
  -- R22.8 84 := zzsize.go:34 binOp
  refine WL.v (by exact r_add (r := ((s2 + n8 : Nat) : Int)) rfl rfl (by rw [wi64 (by omega) (by omega)]; omega)) rfl rfl rfl ?_
  -- R22.9 3 := zzsize.go:34 assign
  refine WL.v (by first | exact r_assign (v := .int _ _) rfl | exact r_assign rfl) rfl rfl rfl ?_
  refine WL.fin hK223 (fun _ _ h => h) ?_
  refine WC.seq fun K224 hK224 => ?_
  refine WC.seq fun K225 hK225 => ?_
  -- region 23
  refine WC.region ?_
  -- R23.0 85 := zzsize.go:35 move
  refine WL.v (by first | exact r_move (v := .int _ _) rfl | exact r_move rfl) rfl rfl rfl ?_
  -- R23.1 86 := zzsize.go:35 binOp
  refine WL.v (by first | exact r_gtr rfl rfl (decide_eq_true (by omega)) | exact r_gtr rfl rfl (decide_eq_false (by omega)) | exact r_gtr rfl rfl rfl) rfl rfl rfl ?_
  refine WL.fin hK225 (fun _ _ h => h) ?_
  refine WC.condF rfl rfl ?_
  refine WC.skipF hK224 (fun _ _ h => h) ?_
  refine WC.seq fun K226 hK226 => ?_
  refine WC.seq fun K227 hK227 => ?_
  -- region 25
  refine WC.region ?_
  -- R25.0 6 := zzsize.go:38 assign
  refine WL.v (by first | exact r_assign (v := .int _ _) rfl | exact r_assign rfl) rfl rfl rfl ?_
  refine WL.fin hK227 (fun _ _ h => h) ?_
  refine WC.block ?_
  refine WC.loop (ι := Nat × Nat) (fun z => [(0, .slice (some ⟨sb, so, none⟩) n c), (3, .int .i64 (z.2 : Nat)), (4, .int .i64 (i : Nat)), (6, .int .i64 (z.1 : Nat))]) (fun z w' => St w0 (fun _ => False) L w' ∧ z.1 ≤ n8 ∧ z.2 ≤ 65536) (fun z => n8 - z.1) (0, s2 + n8) ⟨st, Nat.zero_le _, by show s2 + n8 ≤ 65536; omega⟩ ?_ ?_
  · skip
    repeat (first | exact sub_nil _ | refine sub_cons rfl rfl ?_)
  rintro ⟨j8, s3⟩ w ⟨st, hj8, hs3⟩ K3 hK3
  simp only at st hj8 hs3 hK3 ⊢
  by_cases hjl8 : j8 < n8
  · obtain rfl := ha8 (by omega)
    obtain ⟨ecs, -, hec, hre⟩ := hg8 j8 hjl8
    obtain ⟨es, ese, hes⟩ := term_text hre
    have kt := (hec 0 (by omega)).trans (congrArg some ese)
    obtain ⟨ea, en, ec, eb, eo, ee, hen, hec2, -, -⟩ := term_posts hre
    have ke := (hec 1 (by omega)).trans (congrArg some ee)
    by_cases r80 : 65536 < s3 + es.size
    · skip
      refine WC.seq fun K228 hK228 => ?_
      refine WC.seq fun K229 hK229 => ?_
      -- region 26
      refine WC.region ?_
      -- R26.0 87 := zzsize.go:38 move
      refine WL.v (by first | exact r_move (v := .int _ _) rfl | exact r_move rfl) rfl rfl rfl ?_
      -- R26.1 88 := zzsize.go:38 move
      refine WL.v (by first | exact r_move (v := .slice _ _ _) rfl | exact r_move rfl) rfl rfl rfl ?_
      -- R26.2 89 := zzsize.go:38 move
      refine WL.v (by first | exact r_move (v := .int _ _) rfl | exact r_move rfl) rfl rfl rfl ?_
      -- R26.3 90 := zzsize.go:38 indexAddr
      refine WL.v (by exact r_indexS ty_sl22 rfl rfl rfl (by omega)) rfl rfl rfl ?_
      -- R26.4 91 := zzsize.go:38 fieldAddr
      refine WL.v (by exact r_field ty_fld41_7 rfl) rfl rfl rfl ?_
      -- R26.5 92 := zzsize.go:38 fieldAddr
      refine WL.v (by exact r_field ty_fld35_1 rfl) rfl rfl rfl ?_
      -- R26.6 93 := zzsize.go:38 load
      refine WL.v (by exact r_load1 ty_one33 rfl (st.old (fun h => h) k8)) rfl rfl rfl ?_
      -- R26.7 94 := zzsize.go:38 call
      refine WL.v (by exact r_len ty_usl33 rfl) rfl rfl rfl ?_
      -- R26.8 95 := zzsize.go:38 binOp
      refine WL.v (by first | exact r_lss rfl rfl (decide_eq_true (by omega)) | exact r_lss rfl rfl (decide_eq_false (by omega)) | exact r_lss rfl rfl rfl) rfl rfl rfl ?_
      refine WL.fin hK229 (fun _ _ h => h) ?_
      refine WC.condT rfl rfl ?_
      refine WC.skipF hK228 (fun _ _ h => h) ?_
      refine WC.seq fun K230 hK230 => ?_
      refine WC.block ?_
      refine WC.seq fun K231 hK231 => ?_
      -- region 28
      refine WC.region ?_
      -- R28.0 98 := zzsize.go:39 move
      refine WL.v (by first | exact r_move (v := .int _ _) rfl | exact r_move rfl) rfl rfl rfl ?_
      -- R28.1 99 := zzsize.go:39 move
      refine WL.v (by first | exact r_move (v := .slice _ _ _) rfl | exact r_move rfl) rfl rfl rfl ?_
      -- R28.2 100 := zzsize.go:39 move
      refine WL.v (by first | exact r_move (v := .int _ _) rfl | exact r_move rfl) rfl rfl rfl ?_
      -- R28.3 101 := zzsize.go:39 indexAddr
      refine WL.v (by exact r_indexS ty_sl22 rfl rfl rfl (by omega)) rfl rfl rfl ?_
      -- R28.4 102 := zzsize.go:39 fieldAddr
      refine WL.v (by exact r_field ty_fld41_7 rfl) rfl rfl rfl ?_
      -- R28.5 103 := zzsize.go:39 fieldAddr
      refine WL.v (by exact r_field ty_fld35_1 rfl) rfl rfl rfl ?_
      -- R28.6 104 := zzsize.go:39 load
      refine WL.v (by exact r_load1 ty_one33 rfl (st.old (fun h => h) k8)) rfl rfl rfl ?_
      -- R28.7 105 := zzsize.go:39 move
      refine WL.v (by first | exact r_move (v := .int _ _) rfl | exact r_move rfl) rfl rfl rfl ?_
      -- R28.8 106 := zzsize.go:39 indexAddr
      refine WL.v (by exact r_indexS ty_sl33 rfl rfl rfl (by omega)) rfl rfl rfl ?_
      -- R28.9 107 := zzsize.go:39 fieldAddr
      refine WL.v (by exact r_field ty_fld55_0 rfl) rfl rfl rfl ?_
      -- R28.10 108 := zzsize.go:39 load
      refine WL.v (by exact r_load1 ty_one9 rfl (st.old (fun h => h) kt)) rfl rfl rfl ?_
      -- R28.11 109 := zzsize.go:39 call
      refine WL.v (by exact r_lens ty_ustr9 rfl) rfl rfl rfl ?_
      -- R28.12 110 := zzsize.go:39 binOp
      refine WL.v (by exact r_add (r := ((s3 + es.size : Nat) : Int)) rfl rfl (by rw [wi64 (by omega) (by omega)]; omega)) rfl rfl rfl ?_
      -- R28.13 3 := zzsize.go:39 assign
      refine WL.v (by first | exact r_assign (v := .int _ _) rfl | exact r_assign rfl) rfl rfl rfl ?_
      refine WL.fin hK231 (fun _ _ h => h) ?_
      refine WC.seq fun K232 hK232 => ?_
      refine WC.seq fun K233 hK233 => ?_
      -- region 29
      refine WC.region ?_
      -- R29.0 111 := zzsize.go:40 move
      refine WL.v (by first | exact r_move (v := .int _ _) rfl | exact r_move rfl) rfl rfl rfl ?_
      -- R29.1 112 := zzsize.go:40 binOp
      refine WL.v (by first | exact r_gtr rfl rfl (decide_eq_true (by omega)) | exact r_gtr rfl rfl (decide_eq_false (by omega)) | exact r_gtr rfl rfl rfl) rfl rfl rfl ?_
      refine WL.fin hK233 (fun _ _ h => h) ?_
      refine WC.condT rfl rfl ?_
      refine WC.seq fun K234 hK234 => ?_
      -- region 30
      refine WC.region ?_
      -- R30.0 2 := zzsize.go:41 assign
      refine WL.v (by first | exact r_assign (v := .bool _) rfl | exact r_assign rfl) rfl rfl rfl ?_
      refine WL.fin hK234 (fun _ _ h => h) ?_
      refine WC.ret1 Try.results4 (fun _ _ h => h) rfl ?_
      exact ⟨_, rfl, false, rfl, (fun h => absurd h (by decide)), st⟩
    refine WC.seq fun K235 hK235 => ?_
    refine WC.seq fun K236 hK236 => ?_
    -- region 26
    refine WC.region ?_
    -- R26.0 87 := zzsize.go:38 move
    refine WL.v (by first | exact r_move (v := .int _ _) rfl | exact r_move rfl) rfl rfl rfl ?_
    -- R26.1 88 := zzsize.go:38 move
    refine WL.v (by first | exact r_move (v := .slice _ _ _) rfl | exact r_move rfl) rfl rfl rfl ?_
    -- R26.2 89 := zzsize.go:38 move
    refine WL.v (by first | exact r_move (v := .int _ _) rfl | exact r_move rfl) rfl rfl rfl ?_
    -- R26.3 90 := zzsize.go:38 indexAddr
    refine WL.v (by exact r_indexS ty_sl22 rfl rfl rfl (by omega)) rfl rfl rfl ?_
    -- R26.4 91 := zzsize.go:38 fieldAddr
    refine WL.v (by exact r_field ty_fld41_7 rfl) rfl rfl rfl ?_
    -- R26.5 92 := zzsize.go:38 fieldAddr
    refine WL.v (by exact r_field ty_fld35_1 rfl) rfl rfl rfl ?_
    -- R26.6 93 := zzsize.go:38 load
    refine WL.v (by exact r_load1 ty_one33 rfl (st.old (fun h => h) k8)) rfl rfl rfl ?_
    -- R26.7 94 := zzsize.go:38 call
    refine WL.v (by exact r_len ty_usl33 rfl) rfl rfl rfl ?_
    -- R26.8 95 := zzsize.go:38 binOp
    refine WL.v (by first | exact r_lss rfl rfl (decide_eq_true (by omega)) | exact r_lss rfl rfl (decide_eq_false (by omega)) | exact r_lss rfl rfl rfl) rfl rfl rfl ?_
    refine WL.fin hK236 (fun _ _ h => h) ?_
    refine WC.condT rfl rfl ?_
    refine WC.skipF hK235 (fun _ _ h => h) ?_
    refine WC.seq fun K237 hK237 => ?_
    refine WC.block ?_
    refine WC.seq fun K238 hK238 => ?_
    -- region 28
    refine WC.region ?_
    -- R28.0 98 := zzsize.go:39 move
    refine WL.v (by first | exact r_move (v := .int _ _) rfl | exact r_move rfl) rfl rfl rfl ?_
    -- R28.1 99 := zzsize.go:39 move
    refine WL.v (by first | exact r_move (v := .slice _ _ _) rfl | exact r_move rfl) rfl rfl rfl ?_
    -- R28.2 100 := zzsize.go:39 move
    refine WL.v (by first | exact r_move (v := .int _ _) rfl | exact r_move rfl) rfl rfl rfl ?_
    -- R28.3 101 := zzsize.go:39 indexAddr
    refine WL.v (by exact r_indexS ty_sl22 rfl rfl rfl (by omega)) rfl rfl rfl ?_
    -- R28.4 102 := zzsize.go:39 fieldAddr
    refine WL.v (by exact r_field ty_fld41_7 rfl) rfl rfl rfl ?_
    -- R28.5 103 := zzsize.go:39 fieldAddr
    refine WL.v (by exact r_field ty_fld35_1 rfl) rfl rfl rfl ?_
    -- R28.6 104 := zzsize.go:39 load
    refine WL.v (by exact r_load1 ty_one33 rfl (st.old (fun h => h) k8)) rfl rfl rfl ?_
    -- R28.7 105 := zzsize.go:39 move
    refine WL.v (by first | exact r_move (v := .int _ _) rfl | exact r_move rfl) rfl rfl rfl ?_
    -- R28.8 106 := zzsize.go:39 indexAddr
    refine WL.v (by exact r_indexS ty_sl33 rfl rfl rfl (by omega)) rfl rfl rfl ?_
    -- R28.9 107 := zzsize.go:39 fieldAddr
    refine WL.v (by exact r_field ty_fld55_0 rfl) rfl rfl rfl ?_
    -- R28.10 108 := zzsize.go:39 load
    refine WL.v (by exact r_load1 ty_one9 rfl (st.old (fun h => h) kt)) rfl rfl rfl ?_
    -- R28.11 109 := zzsize.go:39 call
    refine WL.v (by exact r_lens ty_ustr9 rfl) rfl rfl rfl ?_
    -- R28.12 110 := zzsize.go:39 binOp
    refine WL.v (by exact r_add (r := ((s3 + es.size : Nat) : Int)) rfl rfl (by rw [wi64 (by omega) (by omega)]; omega)) rfl rfl rfl ?_
    -- R28.13 3 := zzsize.go:39 assign
    refine WL.v (by first | exact r_assign (v := .int _ _) rfl | exact r_assign rfl) rfl rfl rfl ?_
    refine WL.fin hK238 (fun _ _ h => h) ?_
    refine WC.seq fun K239 hK239 => ?_
    refine WC.seq fun K240 hK240 => ?_
    -- region 29
    refine WC.region ?_
    -- R29.0 111 := zzsize.go:40 move
    refine WL.v (by first | exact r_move (v := .int _ _) rfl | exact r_move rfl) rfl rfl rfl ?_
    -- R29.1 112 := zzsize.go:40 binOp
    refine WL.v (by first | exact r_gtr rfl rfl (decide_eq_true (by omega)) | exact r_gtr rfl rfl (decide_eq_false (by omega)) | exact r_gtr rfl rfl rfl) rfl rfl rfl ?_
    refine WL.fin hK240 (fun _ _ h => h) ?_
    by_cases r81 : 65536 < s3 + es.size + en
    · skip
      refine WC.condF rfl rfl ?_
      refine WC.skipF hK239 (fun _ _ h => h) ?_
      refine WC.seq fun K241 hK241 => ?_
      -- region 31
      refine WC.region ?_
      -- R31.0 113 := zzsize.go:43 move
      refine WL.v (by first | exact r_move (v := .int _ _) rfl | exact r_move rfl) rfl rfl rfl ?_
      -- R31.1 114 := zzsize.go:43 move
      refine WL.v (by first | exact r_move (v := .slice _ _ _) rfl | exact r_move rfl) rfl rfl rfl ?_
      -- R31.2 115 := zzsize.go:43 move
      refine WL.v (by first | exact r_move (v := .int _ _) rfl | exact r_move rfl) rfl rfl rfl ?_
      -- R31.3 116 := zzsize.go:43 indexAddr
      refine WL.v (by exact r_indexS ty_sl22 rfl rfl rfl (by omega)) rfl rfl rfl ?_
      -- R31.4 117 := zzsize.go:43 fieldAddr
      refine WL.v (by exact r_field ty_fld41_7 rfl) rfl rfl rfl ?_
      -- R31.5 118 := zzsize.go:43 fieldAddr
      refine WL.v (by exact r_field ty_fld35_1 rfl) rfl rfl rfl ?_
      -- R31.6 119 := zzsize.go:43 load
      refine WL.v (by exact r_load1 ty_one33 rfl (st.old (fun h => h) k8)) rfl rfl rfl ?_
      -- R31.7 120 := zzsize.go:43 move
      refine WL.v (by first | exact r_move (v := .int _ _) rfl | exact r_move rfl) rfl rfl rfl ?_
      -- R31.8 121 := zzsize.go:43 indexAddr
      refine WL.v (by exact r_indexS ty_sl33 rfl rfl rfl (by omega)) rfl rfl rfl ?_
      -- R31.9 122 := zzsize.go:43 fieldAddr
      refine WL.v (by exact r_field ty_fld55_1 rfl) rfl rfl rfl ?_
      -- R31.10 123 := zzsize.go:43 load
      refine WL.v (by exact r_load1 ty_one53 rfl (st.old (fun h => h) ke)) rfl rfl rfl ?_
      -- R31.11 124 := zzsize.go:43 call
      refine WL.v (by exact r_len ty_usl53 rfl) rfl rfl rfl ?_
      -- R31.12 125 := zzsize.go:43 binOp
      refine WL.v (by exact r_add (r := ((s3 + es.size + en : Nat) : Int)) rfl rfl (by rw [wi64 (by omega) (by omega)]; omega)) rfl rfl rfl ?_
      -- R31.13 3 := zzsize.go:43 assign
      refine WL.v (by first | exact r_assign (v := .int _ _) rfl | exact r_assign rfl) rfl rfl rfl ?_
      refine WL.fin hK241 (fun _ _ h => h) ?_
      refine WC.seq fun K242 hK242 => ?_
      -- region 32
      refine WC.region ?_
      -- R32.0 126 := zzsize.go:44 move
      refine WL.v (by first | exact r_move (v := .int _ _) rfl | exact r_move rfl) rfl rfl rfl ?_
      -- R32.1 127 := zzsize.go:44 binOp
      refine WL.v (by first | exact r_gtr rfl rfl (decide_eq_true (by omega)) | exact r_gtr rfl rfl (decide_eq_false (by omega)) | exact r_gtr rfl rfl rfl) rfl rfl rfl ?_
      refine WL.fin hK242 (fun _ _ h => h) ?_
      refine WC.condT rfl rfl ?_
      refine WC.seq fun K243 hK243 => ?_
      -- region 33
      refine WC.region ?_
      -- R33.0 2 := zzsize.go:45 assign
      refine WL.v (by first | exact r_assign (v := .bool _) rfl | exact r_assign rfl) rfl rfl rfl ?_
      refine WL.fin hK243 (fun _ _ h => h) ?_
      refine WC.ret1 Try.results4 (fun _ _ h => h) rfl ?_
      exact ⟨_, rfl, false, rfl, (fun h => absurd h (by decide)), st⟩
    refine WC.condF rfl rfl ?_
    refine WC.skipF hK239 (fun _ _ h => h) ?_
    refine WC.seq fun K244 hK244 => ?_
    -- region 31
    refine WC.region ?_
    -- R31.0 113 := zzsize.go:43 move
    refine WL.v (by first | exact r_move (v := .int _ _) rfl | exact r_move rfl) rfl rfl rfl ?_
    -- R31.1 114 := zzsize.go:43 move
    refine WL.v (by first | exact r_move (v := .slice _ _ _) rfl | exact r_move rfl) rfl rfl rfl ?_
    -- R31.2 115 := zzsize.go:43 move
    refine WL.v (by first | exact r_move (v := .int _ _) rfl | exact r_move rfl) rfl rfl rfl ?_
    -- R31.3 116 := zzsize.go:43 indexAddr
    refine WL.v (by exact r_indexS ty_sl22 rfl rfl rfl (by omega)) rfl rfl rfl ?_
    -- R31.4 117 := zzsize.go:43 fieldAddr
    refine WL.v (by exact r_field ty_fld41_7 rfl) rfl rfl rfl ?_
    -- R31.5 118 := zzsize.go:43 fieldAddr
    refine WL.v (by exact r_field ty_fld35_1 rfl) rfl rfl rfl ?_
    -- R31.6 119 := zzsize.go:43 load
    refine WL.v (by exact r_load1 ty_one33 rfl (st.old (fun h => h) k8)) rfl rfl rfl ?_
    -- R31.7 120 := zzsize.go:43 move
    refine WL.v (by first | exact r_move (v := .int _ _) rfl | exact r_move rfl) rfl rfl rfl ?_
    -- R31.8 121 := zzsize.go:43 indexAddr
    refine WL.v (by exact r_indexS ty_sl33 rfl rfl rfl (by omega)) rfl rfl rfl ?_
    -- R31.9 122 := zzsize.go:43 fieldAddr
    refine WL.v (by exact r_field ty_fld55_1 rfl) rfl rfl rfl ?_
    -- R31.10 123 := zzsize.go:43 load
    refine WL.v (by exact r_load1 ty_one53 rfl (st.old (fun h => h) ke)) rfl rfl rfl ?_
    -- R31.11 124 := zzsize.go:43 call
    refine WL.v (by exact r_len ty_usl53 rfl) rfl rfl rfl ?_
    -- R31.12 125 := zzsize.go:43 binOp
    refine WL.v (by exact r_add (r := ((s3 + es.size + en : Nat) : Int)) rfl rfl (by rw [wi64 (by omega) (by omega)]; omega)) rfl rfl rfl ?_
    -- R31.13 3 := zzsize.go:43 assign
    refine WL.v (by first | exact r_assign (v := .int _ _) rfl | exact r_assign rfl) rfl rfl rfl ?_
    refine WL.fin hK244 (fun _ _ h => h) ?_
    refine WC.seq fun K245 hK245 => ?_
    -- region 32
    refine WC.region ?_
    -- R32.0 126 := zzsize.go:44 move
    refine WL.v (by first | exact r_move (v := .int _ _) rfl | exact r_move rfl) rfl rfl rfl ?_
    -- R32.1 127 := zzsize.go:44 binOp
    refine WL.v (by first | exact r_gtr rfl rfl (decide_eq_true (by omega)) | exact r_gtr rfl rfl (decide_eq_false (by omega)) | exact r_gtr rfl rfl rfl) rfl rfl rfl ?_
    refine WL.fin hK245 (fun _ _ h => h) ?_
    refine WC.condF rfl rfl ?_
    refine WC.skipF hK237 (fun _ _ h => h) ?_
    -- region 27
    refine WC.region ?_
    -- R27.0 96 := zzsize.go:38 move
    refine WL.v (by first | exact r_move (v := .int _ _) rfl | exact r_move rfl) rfl rfl rfl ?_
    -- R27.1 97 := zzsize.go:38 binOp
    refine WL.v (by first | exact r_add rfl rfl (wi64 (by omega) (by omega)) | exact r_add rfl rfl rfl) rfl rfl rfl ?_
    -- R27.2 6 := zzsize.go:38 assign
    refine WL.v (by first | exact r_assign (v := .int _ _) rfl | exact r_assign rfl) rfl rfl rfl ?_
    refine WL.next hK3 (fun _ _ h => h) (j8 + 1, s3 + es.size + en) ⟨st, by show j8 + 1 ≤ n8; omega, by show s3 + es.size + en ≤ 65536; omega⟩ (by show n8 - (j8 + 1) < n8 - j8; omega) (by repeat (first | exact sub_nil _ | refine sub_cons rfl rfl ?_))
  have hj8e : j8 = n8 := by omega
  subst hj8e
  by_cases q5 : 65536 < s3 + n9
  · skip
    refine WC.seq fun K246 hK246 => ?_
    refine WC.seq fun K247 hK247 => ?_
    -- region 26
    refine WC.region ?_
    -- R26.0 87 := zzsize.go:38 move
    refine WL.v (by first | exact r_move (v := .int _ _) rfl | exact r_move rfl) rfl rfl rfl ?_
    -- R26.1 88 := zzsize.go:38 move
    refine WL.v (by first | exact r_move (v := .slice _ _ _) rfl | exact r_move rfl) rfl rfl rfl ?_
    -- R26.2 89 := zzsize.go:38 move
    refine WL.v (by first | exact r_move (v := .int _ _) rfl | exact r_move rfl) rfl rfl rfl ?_
    -- R26.3 90 := zzsize.go:38 indexAddr
    refine WL.v (by exact r_indexS ty_sl22 rfl rfl rfl (by omega)) rfl rfl rfl ?_
    -- R26.4 91 := zzsize.go:38 fieldAddr
    refine WL.v (by exact r_field ty_fld41_7 rfl) rfl rfl rfl ?_
    -- R26.5 92 := zzsize.go:38 fieldAddr
    refine WL.v (by exact r_field ty_fld35_1 rfl) rfl rfl rfl ?_
    -- R26.6 93 := zzsize.go:38 load
    refine WL.v (by exact r_load1 ty_one33 rfl (st.old (fun h => h) k8)) rfl rfl rfl ?_
    -- R26.7 94 := zzsize.go:38 call
    refine WL.v (by exact r_len ty_usl33 rfl) rfl rfl rfl ?_
    -- R26.8 95 := zzsize.go:38 binOp
    refine WL.v (by first | exact r_lss rfl rfl (decide_eq_true (by omega)) | exact r_lss rfl rfl (decide_eq_false (by omega)) | exact r_lss rfl rfl rfl) rfl rfl rfl ?_
    refine WL.fin hK247 (fun _ _ h => h) ?_
    refine WC.condF rfl rfl ?_
    refine WC.exitF hK226 (fun _ _ h => h) ?_
    refine WC.seq fun K248 hK248 => ?_
    -- region 34
    refine WC.region ?_
    -- R34.0 128 := zzsize.go:48 move
    refine WL.v (by first | exact r_move (v := .int _ _) rfl | exact r_move rfl) rfl rfl rfl ?_
    -- R34.1 129 := zzsize.go:48 move
    refine WL.v (by first | exact r_move (v := .slice _ _ _) rfl | exact r_move rfl) rfl rfl rfl ?_
    -- R34.2 130 := zzsize.go:48 move
    refine WL.v (by first | exact r_move (v := .int _ _) rfl | exact r_move rfl) rfl rfl rfl ?_
    -- R34.3 131 := zzsize.go:48 indexAddr
    refine WL.v (by exact r_indexS ty_sl22 rfl rfl rfl (by omega)) rfl rfl rfl ?_
    -- R34.4 132 := zzsize.go:48 fieldAddr
    refine WL.v (by exact r_field ty_fld41_8 rfl) rfl rfl rfl ?_
    -- R34.5 133 := zzsize.go:48 load
    refine WL.v (by exact r_load1 ty_one36 rfl (st.old (fun h => h) k9)) rfl rfl rfl ?_
    -- R34.6 134 := zzsize.go:48 call
    refine WL.v (by exact r_len ty_usl36 rfl) rfl rfl rfl ?_
    -- R34.7 135 := zzsize.go:48 binOp
    refine WL.v (by exact r_add (r := ((s3 + n9 : Nat) : Int)) rfl rfl (by rw [wi64 (by omega) (by omega)]; omega)) rfl rfl rfl ?_
    -- R34.8 3 := zzsize.go:48 assign
    refine WL.v (by first | exact r_assign (v := .int _ _) rfl | exact r_assign rfl) rfl rfl rfl ?_
    refine WL.fin hK248 (fun _ _ h => h) ?_
    refine WC.seq fun K249 hK249 => ?_
    refine WC.seq fun K250 hK250 => ?_
    -- region 35
    refine WC.region ?_
    -- R35.0 136 := zzsize.go:49 move
    refine WL.v (by first | exact r_move (v := .int _ _) rfl | exact r_move rfl) rfl rfl rfl ?_
    -- R35.1 137 := zzsize.go:49 binOp
    refine WL.v (by first | exact r_gtr rfl rfl (decide_eq_true (by omega)) | exact r_gtr rfl rfl (decide_eq_false (by omega)) | exact r_gtr rfl rfl rfl) rfl rfl rfl ?_
    refine WL.fin hK250 (fun _ _ h => h) ?_
    refine WC.condT rfl rfl ?_
    refine WC.seq fun K251 hK251 => ?_
    -- region 36
    refine WC.region ?_
    -- R36.0 2 := zzsize.go:50 assign
    refine WL.v (by first | exact r_assign (v := .bool _) rfl | exact r_assign rfl) rfl rfl rfl ?_
    refine WL.fin hK251 (fun _ _ h => h) ?_
    refine WC.ret1 Try.results4 (fun _ _ h => h) rfl ?_
    exact ⟨_, rfl, false, rfl, (fun h => absurd h (by decide)), st⟩
  refine WC.seq fun K252 hK252 => ?_
  refine WC.seq fun K253 hK253 => ?_
  -- region 26
  refine WC.region ?_
  -- R26.0 87 := zzsize.go:38 move
  refine WL.v (by first | exact r_move (v := .int _ _) rfl | exact r_move rfl) rfl rfl rfl ?_
  -- R26.1 88 := zzsize.go:38 move
  refine WL.v (by first | exact r_move (v := .slice _ _ _) rfl | exact r_move rfl) rfl rfl rfl ?_
  -- R26.2 89 := zzsize.go:38 move
  refine WL.v (by first | exact r_move (v := .int _ _) rfl | exact r_move rfl) rfl rfl rfl ?_
  -- R26.3 90 := zzsize.go:38 indexAddr
  refine WL.v (by exact r_indexS ty_sl22 rfl rfl rfl (by omega)) rfl rfl rfl ?_
  -- R26.4 91 := zzsize.go:38 fieldAddr
  refine WL.v (by exact r_field ty_fld41_7 rfl) rfl rfl rfl ?_
  -- R26.5 92 := zzsize.go:38 fieldAddr
  refine WL.v (by exact r_field ty_fld35_1 rfl) rfl rfl rfl ?_
  -- R26.6 93 := zzsize.go:38 load
  refine WL.v (by exact r_load1 ty_one33 rfl (st.old (fun h => h) k8)) rfl rfl rfl ?_
  -- R26.7 94 := zzsize.go:38 call
  refine WL.v (by exact r_len ty_usl33 rfl) rfl rfl rfl ?_
  -- R26.8 95 := zzsize.go:38 binOp
  refine WL.v (by first | exact r_lss rfl rfl (decide_eq_true (by omega)) | exact r_lss rfl rfl (decide_eq_false (by omega)) | exact r_lss rfl rfl rfl) rfl rfl rfl ?_
  refine WL.fin hK253 (fun _ _ h => h) ?_
  refine WC.condF rfl rfl ?_
  refine WC.exitF hK226 (fun _ _ h => h) ?_
  refine WC.seq fun K254 hK254 => ?_
  -- region 34
  refine WC.region ?_
  -- R34.0 128 := zzsize.go:48 move
  refine WL.v (by first | exact r_move (v := .int _ _) rfl | exact r_move rfl) rfl rfl rfl ?_
  -- R34.1 129 := zzsize.go:48 move
  refine WL.v (by first | exact r_move (v := .slice _ _ _) rfl | exact r_move rfl) rfl rfl rfl ?_
  -- R34.2 130 := zzsize.go:48 move
  refine WL.v (by first | exact r_move (v := .int _ _) rfl | exact r_move rfl) rfl rfl rfl ?_
  -- R34.3 131 := zzsize.go:48 indexAddr
  refine WL.v (by exact r_indexS ty_sl22 rfl rfl rfl (by omega)) rfl rfl rfl ?_
  -- R34.4 132 := zzsize.go:48 fieldAddr
  refine WL.v (by exact r_field ty_fld41_8 rfl) rfl rfl rfl ?_
  -- R34.5 133 := zzsize.go:48 load
  refine WL.v (by exact r_load1 ty_one36 rfl (st.old (fun h => h) k9)) rfl rfl rfl ?_
  -- R34.6 134 := zzsize.go:48 call
  refine WL.v (by exact r_len ty_usl36 rfl) rfl rfl rfl ?_
  -- R34.7 135 := zzsize.go:48 binOp
  refine WL.v (by exact r_add (r := ((s3 + n9 : Nat) : Int)) rfl rfl (by rw [wi64 (by omega) (by omega)]; omega)) rfl rfl rfl ?_
  -- R34.8 3 := zzsize.go:48 assign
  refine WL.v (by first | exact r_assign (v := .int _ _) rfl | exact r_assign rfl) rfl rfl rfl ?_
  refine WL.fin hK254 (fun _ _ h => h) ?_
  refine WC.seq fun K255 hK255 => ?_
  refine WC.seq fun K256 hK256 => ?_
  -- region 35
  refine WC.region ?_
  -- R35.0 136 := zzsize.go:49 move
  refine WL.v (by first | exact r_move (v := .int _ _) rfl | exact r_move rfl) rfl rfl rfl ?_
  -- R35.1 137 := zzsize.go:49 binOp
  refine WL.v (by first | exact r_gtr rfl rfl (decide_eq_true (by omega)) | exact r_gtr rfl rfl (decide_eq_false (by omega)) | exact r_gtr rfl rfl rfl) rfl rfl rfl ?_
  refine WL.fin hK256 (fun _ _ h => h) ?_
  refine WC.condF rfl rfl ?_
  refine WC.skipF hK255 (fun _ _ h => h) ?_
  refine WC.seq fun K257 hK257 => ?_
  refine WC.seq fun K258 hK258 => ?_
  -- region 37
  refine WC.region ?_
  -- R37.0 7 := zzsize.go:52 assign
  refine WL.v (by first | exact r_assign (v := .int _ _) rfl | exact r_assign rfl) rfl rfl rfl ?_
  refine WL.fin hK258 (fun _ _ h => h) ?_
  refine WC.block ?_
  refine WC.loop (ι := Nat × Nat) (fun z => [(0, .slice (some ⟨sb, so, none⟩) n c), (3, .int .i64 (z.2 : Nat)), (4, .int .i64 (i : Nat)), (7, .int .i64 (z.1 : Nat))]) (fun z w' => St w0 (fun _ => False) L w' ∧ z.1 ≤ n9 ∧ z.2 ≤ 65536) (fun z => n9 - z.1) (0, s3 + n9) ⟨st, Nat.zero_le _, by show s3 + n9 ≤ 65536; omega⟩ ?_ ?_
  · skip
    repeat (first | exact sub_nil _ | refine sub_cons rfl rfl ?_)
  rintro ⟨j9, s4⟩ w ⟨st, hj9, hs4⟩ K4 hK4
  simp only at st hj9 hs4 hK4 ⊢
  by_cases hjl9 : j9 < n9
  · obtain rfl := ha9 (by omega)
    obtain ⟨ecs, -, hec, hre⟩ := hg9 j9 hjl9
    obtain ⟨ea, en, ec, eb, eo, ee, hen, hec2, -, -⟩ := batch_text hre
    have ke := (hec 1 (by omega)).trans (congrArg some ee)
    by_cases r90 : 65536 < s4 + en
    · skip
      refine WC.seq fun K259 hK259 => ?_
      refine WC.seq fun K260 hK260 => ?_
      -- region 38
      refine WC.region ?_
      -- R38.0 138 := zzsize.go:52 move
      refine WL.v (by first | exact r_move (v := .int _ _) rfl | exact r_move rfl) rfl rfl rfl ?_
      -- R38.1 139 := zzsize.go:52 move
      refine WL.v (by first | exact r_move (v := .slice _ _ _) rfl | exact r_move rfl) rfl rfl rfl ?_
      -- R38.2 140 := zzsize.go:52 move
      refine WL.v (by first | exact r_move (v := .int _ _) rfl | exact r_move rfl) rfl rfl rfl ?_
      -- R38.3 141 := zzsize.go:52 indexAddr
      refine WL.v (by exact r_indexS ty_sl22 rfl rfl rfl (by omega)) rfl rfl rfl ?_
      -- R38.4 142 := zzsize.go:52 fieldAddr
      refine WL.v (by exact r_field ty_fld41_8 rfl) rfl rfl rfl ?_
      -- R38.5 143 := zzsize.go:52 load
      refine WL.v (by exact r_load1 ty_one36 rfl (st.old (fun h => h) k9)) rfl rfl rfl ?_
      -- R38.6 144 := zzsize.go:52 call
      refine WL.v (by exact r_len ty_usl36 rfl) rfl rfl rfl ?_
      -- R38.7 145 := zzsize.go:52 binOp
      refine WL.v (by first | exact r_lss rfl rfl (decide_eq_true (by omega)) | exact r_lss rfl rfl (decide_eq_false (by omega)) | exact r_lss rfl rfl rfl) rfl rfl rfl ?_
      refine WL.fin hK260 (fun _ _ h => h) ?_
      refine WC.condT rfl rfl ?_
      refine WC.skipF hK259 (fun _ _ h => h) ?_
      refine WC.seq fun K261 hK261 => ?_
      refine WC.block ?_
      refine WC.seq fun K262 hK262 => ?_
      -- region 40
      refine WC.region ?_
      -- R40.0 148 := zzsize.go:53 move
      refine WL.v (by first | exact r_move (v := .int _ _) rfl | exact r_move rfl) rfl rfl rfl ?_
      -- R40.1 149 := zzsize.go:53 move
      refine WL.v (by first | exact r_move (v := .slice _ _ _) rfl | exact r_move rfl) rfl rfl rfl ?_
      -- R40.2 150 := zzsize.go:53 move
      refine WL.v (by first | exact r_move (v := .int _ _) rfl | exact r_move rfl) rfl rfl rfl ?_
      -- R40.3 151 := zzsize.go:53 indexAddr
      refine WL.v (by exact r_indexS ty_sl22 rfl rfl rfl (by omega)) rfl rfl rfl ?_
      -- R40.4 152 := zzsize.go:53 fieldAddr
      refine WL.v (by exact r_field ty_fld41_8 rfl) rfl rfl rfl ?_
      -- R40.5 153 := zzsize.go:53 load
      refine WL.v (by exact r_load1 ty_one36 rfl (st.old (fun h => h) k9)) rfl rfl rfl ?_
      -- R40.6 154 := zzsize.go:53 move
      refine WL.v (by first | exact r_move (v := .int _ _) rfl | exact r_move rfl) rfl rfl rfl ?_
      -- R40.7 155 := zzsize.go:53 indexAddr
      refine WL.v (by exact r_indexS ty_sl36 rfl rfl rfl (by omega)) rfl rfl rfl ?_
      -- R40.8 156 := zzsize.go:53 fieldAddr
      refine WL.v (by exact r_field ty_fld57_1 rfl) rfl rfl rfl ?_
      -- R40.9 157 := zzsize.go:53 load
      refine WL.v (by exact r_load1 ty_one30 rfl (st.old (fun h => h) ke)) rfl rfl rfl ?_
      -- R40.10 158 := zzsize.go:53 call
      refine WL.v (by exact r_len ty_usl30 rfl) rfl rfl rfl ?_
      -- R40.11 159 := zzsize.go:53 binOp
      refine WL.v (by exact r_add (r := ((s4 + en : Nat) : Int)) rfl rfl (by rw [wi64 (by omega) (by omega)]; omega)) rfl rfl rfl ?_
      -- R40.12 3 := zzsize.go:53 assign
      refine WL.v (by first | exact r_assign (v := .int _ _) rfl | exact r_assign rfl) rfl rfl rfl ?_
      refine WL.fin hK262 (fun _ _ h => h) ?_
      refine WC.seq fun K263 hK263 => ?_
      -- region 41
      refine WC.region ?_
      -- R41.0 160 := zzsize.go:54 move
      refine WL.v (by first | exact r_move (v := .int _ _) rfl | exact r_move rfl) rfl rfl rfl ?_
      -- R41.1 161 := zzsize.go:54 binOp
      refine WL.v (by first | exact r_gtr rfl rfl (decide_eq_true (by omega)) | exact r_gtr rfl rfl (decide_eq_false (by omega)) | exact r_gtr rfl rfl rfl) rfl rfl rfl ?_
      refine WL.fin hK263 (fun _ _ h => h) ?_
      refine WC.condT rfl rfl ?_
      refine WC.seq fun K264 hK264 => ?_
      -- region 42
      refine WC.region ?_
      -- R42.0 2 := zzsize.go:55 assign
      refine WL.v (by first | exact r_assign (v := .bool _) rfl | exact r_assign rfl) rfl rfl rfl ?_
      refine WL.fin hK264 (fun _ _ h => h) ?_
      refine WC.ret1 Try.results4 (fun _ _ h => h) rfl ?_
      exact ⟨_, rfl, false, rfl, (fun h => absurd h (by decide)), st⟩
    refine WC.seq fun K265 hK265 => ?_
    refine WC.seq fun K266 hK266 => ?_
    -- region 38
    refine WC.region ?_
    -- R38.0 138 := zzsize.go:52 move
    refine WL.v (by first | exact r_move (v := .int _ _) rfl | exact r_move rfl) rfl rfl rfl ?_
    -- R38.1 139 := zzsize.go:52 move
    refine WL.v (by first | exact r_move (v := .slice _ _ _) rfl | exact r_move rfl) rfl rfl rfl ?_
    -- R38.2 140 := zzsize.go:52 move
    refine WL.v (by first | exact r_move (v := .int _ _) rfl | exact r_move rfl) rfl rfl rfl ?_
    -- R38.3 141 := zzsize.go:52 indexAddr
    refine WL.v (by exact r_indexS ty_sl22 rfl rfl rfl (by omega)) rfl rfl rfl ?_
    -- R38.4 142 := zzsize.go:52 fieldAddr
    refine WL.v (by exact r_field ty_fld41_8 rfl) rfl rfl rfl ?_
    -- R38.5 143 := zzsize.go:52 load
    refine WL.v (by exact r_load1 ty_one36 rfl (st.old (fun h => h) k9)) rfl rfl rfl ?_
    -- R38.6 144 := zzsize.go:52 call
    refine WL.v (by exact r_len ty_usl36 rfl) rfl rfl rfl ?_
    -- R38.7 145 := zzsize.go:52 binOp
    refine WL.v (by first | exact r_lss rfl rfl (decide_eq_true (by omega)) | exact r_lss rfl rfl (decide_eq_false (by omega)) | exact r_lss rfl rfl rfl) rfl rfl rfl ?_
    refine WL.fin hK266 (fun _ _ h => h) ?_
    refine WC.condT rfl rfl ?_
    refine WC.skipF hK265 (fun _ _ h => h) ?_
    refine WC.seq fun K267 hK267 => ?_
    refine WC.block ?_
    refine WC.seq fun K268 hK268 => ?_
    -- region 40
    refine WC.region ?_
    -- R40.0 148 := zzsize.go:53 move
    refine WL.v (by first | exact r_move (v := .int _ _) rfl | exact r_move rfl) rfl rfl rfl ?_
    -- R40.1 149 := zzsize.go:53 move
    refine WL.v (by first | exact r_move (v := .slice _ _ _) rfl | exact r_move rfl) rfl rfl rfl ?_
    -- R40.2 150 := zzsize.go:53 move
    refine WL.v (by first | exact r_move (v := .int _ _) rfl | exact r_move rfl) rfl rfl rfl ?_
    -- R40.3 151 := zzsize.go:53 indexAddr
    refine WL.v (by exact r_indexS ty_sl22 rfl rfl rfl (by omega)) rfl rfl rfl ?_
    -- R40.4 152 := zzsize.go:53 fieldAddr
    refine WL.v (by exact r_field ty_fld41_8 rfl) rfl rfl rfl ?_
    -- R40.5 153 := zzsize.go:53 load
    refine WL.v (by exact r_load1 ty_one36 rfl (st.old (fun h => h) k9)) rfl rfl rfl ?_
    -- R40.6 154 := zzsize.go:53 move
    refine WL.v (by first | exact r_move (v := .int _ _) rfl | exact r_move rfl) rfl rfl rfl ?_
    -- R40.7 155 := zzsize.go:53 indexAddr
    refine WL.v (by exact r_indexS ty_sl36 rfl rfl rfl (by omega)) rfl rfl rfl ?_
    -- R40.8 156 := zzsize.go:53 fieldAddr
    refine WL.v (by exact r_field ty_fld57_1 rfl) rfl rfl rfl ?_
    -- R40.9 157 := zzsize.go:53 load
    refine WL.v (by exact r_load1 ty_one30 rfl (st.old (fun h => h) ke)) rfl rfl rfl ?_
    -- R40.10 158 := zzsize.go:53 call
    refine WL.v (by exact r_len ty_usl30 rfl) rfl rfl rfl ?_
    -- R40.11 159 := zzsize.go:53 binOp
    refine WL.v (by exact r_add (r := ((s4 + en : Nat) : Int)) rfl rfl (by rw [wi64 (by omega) (by omega)]; omega)) rfl rfl rfl ?_
    -- R40.12 3 := zzsize.go:53 assign
    refine WL.v (by first | exact r_assign (v := .int _ _) rfl | exact r_assign rfl) rfl rfl rfl ?_
    refine WL.fin hK268 (fun _ _ h => h) ?_
    refine WC.seq fun K269 hK269 => ?_
    -- region 41
    refine WC.region ?_
    -- R41.0 160 := zzsize.go:54 move
    refine WL.v (by first | exact r_move (v := .int _ _) rfl | exact r_move rfl) rfl rfl rfl ?_
    -- R41.1 161 := zzsize.go:54 binOp
    refine WL.v (by first | exact r_gtr rfl rfl (decide_eq_true (by omega)) | exact r_gtr rfl rfl (decide_eq_false (by omega)) | exact r_gtr rfl rfl rfl) rfl rfl rfl ?_
    refine WL.fin hK269 (fun _ _ h => h) ?_
    refine WC.condF rfl rfl ?_
    refine WC.skipF hK267 (fun _ _ h => h) ?_
    -- region 39
    refine WC.region ?_
    -- R39.0 146 := zzsize.go:52 move
    refine WL.v (by first | exact r_move (v := .int _ _) rfl | exact r_move rfl) rfl rfl rfl ?_
    -- R39.1 147 := zzsize.go:52 binOp
    refine WL.v (by first | exact r_add rfl rfl (wi64 (by omega) (by omega)) | exact r_add rfl rfl rfl) rfl rfl rfl ?_
    -- R39.2 7 := zzsize.go:52 assign
    refine WL.v (by first | exact r_assign (v := .int _ _) rfl | exact r_assign rfl) rfl rfl rfl ?_
    refine WL.next hK4 (fun _ _ h => h) (j9 + 1, s4 + en) ⟨st, by show j9 + 1 ≤ n9; omega, by show s4 + en ≤ 65536; omega⟩ (by show n9 - (j9 + 1) < n9 - j9; omega) (by repeat (first | exact sub_nil _ | refine sub_cons rfl rfl ?_))
  have hj9e : j9 = n9 := by omega
  subst hj9e
  by_cases q6 : 65536 < s4 + nL
  · skip
    refine WC.seq fun K270 hK270 => ?_
    refine WC.seq fun K271 hK271 => ?_
    -- region 38
    refine WC.region ?_
    -- R38.0 138 := zzsize.go:52 move
    refine WL.v (by first | exact r_move (v := .int _ _) rfl | exact r_move rfl) rfl rfl rfl ?_
    -- R38.1 139 := zzsize.go:52 move
    refine WL.v (by first | exact r_move (v := .slice _ _ _) rfl | exact r_move rfl) rfl rfl rfl ?_
    -- R38.2 140 := zzsize.go:52 move
    refine WL.v (by first | exact r_move (v := .int _ _) rfl | exact r_move rfl) rfl rfl rfl ?_
    -- R38.3 141 := zzsize.go:52 indexAddr
    refine WL.v (by exact r_indexS ty_sl22 rfl rfl rfl (by omega)) rfl rfl rfl ?_
    -- R38.4 142 := zzsize.go:52 fieldAddr
    refine WL.v (by exact r_field ty_fld41_8 rfl) rfl rfl rfl ?_
    -- R38.5 143 := zzsize.go:52 load
    refine WL.v (by exact r_load1 ty_one36 rfl (st.old (fun h => h) k9)) rfl rfl rfl ?_
    -- R38.6 144 := zzsize.go:52 call
    refine WL.v (by exact r_len ty_usl36 rfl) rfl rfl rfl ?_
    -- R38.7 145 := zzsize.go:52 binOp
    refine WL.v (by first | exact r_lss rfl rfl (decide_eq_true (by omega)) | exact r_lss rfl rfl (decide_eq_false (by omega)) | exact r_lss rfl rfl rfl) rfl rfl rfl ?_
    refine WL.fin hK271 (fun _ _ h => h) ?_
    refine WC.condF rfl rfl ?_
    refine WC.exitF hK257 (fun _ _ h => h) ?_
    refine WC.seq fun K272 hK272 => ?_
    -- region 43
    refine WC.region ?_
    -- R43.0 162 := zzsize.go:58 move
    refine WL.v (by first | exact r_move (v := .int _ _) rfl | exact r_move rfl) rfl rfl rfl ?_
    -- R43.1 163 := zzsize.go:58 move
    refine WL.v (by first | exact r_move (v := .slice _ _ _) rfl | exact r_move rfl) rfl rfl rfl ?_
    -- R43.2 164 := zzsize.go:58 move
    refine WL.v (by first | exact r_move (v := .int _ _) rfl | exact r_move rfl) rfl rfl rfl ?_
    -- R43.3 165 := zzsize.go:58 indexAddr
    refine WL.v (by exact r_indexS ty_sl22 rfl rfl rfl (by omega)) rfl rfl rfl ?_
    -- R43.4 166 := zzsize.go:58 fieldAddr
    refine WL.v (by exact r_field ty_fld41_9 rfl) rfl rfl rfl ?_
    -- R43.5 167 := zzsize.go:58 load
    refine WL.v (by exact r_load1 ty_one25 rfl (st.old (fun h => h) kL)) rfl rfl rfl ?_
    -- R43.6 168 := zzsize.go:58 call
    refine WL.v (by exact r_len ty_usl25 rfl) rfl rfl rfl ?_
    -- R43.7 169 := zzsize.go:58 binOp
    refine WL.v (by exact r_add (r := ((s4 + nL : Nat) : Int)) rfl rfl (by rw [wi64 (by omega) (by omega)]; omega)) rfl rfl rfl ?_
    -- R43.8 3 := zzsize.go:58 assign
    refine WL.v (by first | exact r_assign (v := .int _ _) rfl | exact r_assign rfl) rfl rfl rfl ?_
    refine WL.fin hK272 (fun _ _ h => h) ?_
    refine WC.seq fun K273 hK273 => ?_
    refine WC.seq fun K274 hK274 => ?_
    -- region 44
    refine WC.region ?_
    -- R44.0 170 := zzsize.go:59 move
    refine WL.v (by first | exact r_move (v := .int _ _) rfl | exact r_move rfl) rfl rfl rfl ?_
    -- R44.1 171 := zzsize.go:59 binOp
    refine WL.v (by first | exact r_gtr rfl rfl (decide_eq_true (by omega)) | exact r_gtr rfl rfl (decide_eq_false (by omega)) | exact r_gtr rfl rfl rfl) rfl rfl rfl ?_
    refine WL.fin hK274 (fun _ _ h => h) ?_
    refine WC.condT rfl rfl ?_
    refine WC.seq fun K275 hK275 => ?_
    -- region 45
    refine WC.region ?_
    -- R45.0 2 := zzsize.go:60 assign
    refine WL.v (by first | exact r_assign (v := .bool _) rfl | exact r_assign rfl) rfl rfl rfl ?_
    refine WL.fin hK275 (fun _ _ h => h) ?_
    refine WC.ret1 Try.results4 (fun _ _ h => h) rfl ?_
    exact ⟨_, rfl, false, rfl, (fun h => absurd h (by decide)), st⟩
  refine WC.seq fun K276 hK276 => ?_
  refine WC.seq fun K277 hK277 => ?_
  -- region 38
  refine WC.region ?_
  -- R38.0 138 := zzsize.go:52 move
  refine WL.v (by first | exact r_move (v := .int _ _) rfl | exact r_move rfl) rfl rfl rfl ?_
  -- R38.1 139 := zzsize.go:52 move
  refine WL.v (by first | exact r_move (v := .slice _ _ _) rfl | exact r_move rfl) rfl rfl rfl ?_
  -- R38.2 140 := zzsize.go:52 move
  refine WL.v (by first | exact r_move (v := .int _ _) rfl | exact r_move rfl) rfl rfl rfl ?_
  -- R38.3 141 := zzsize.go:52 indexAddr
  refine WL.v (by exact r_indexS ty_sl22 rfl rfl rfl (by omega)) rfl rfl rfl ?_
  -- R38.4 142 := zzsize.go:52 fieldAddr
  refine WL.v (by exact r_field ty_fld41_8 rfl) rfl rfl rfl ?_
  -- R38.5 143 := zzsize.go:52 load
  refine WL.v (by exact r_load1 ty_one36 rfl (st.old (fun h => h) k9)) rfl rfl rfl ?_
  -- R38.6 144 := zzsize.go:52 call
  refine WL.v (by exact r_len ty_usl36 rfl) rfl rfl rfl ?_
  -- R38.7 145 := zzsize.go:52 binOp
  refine WL.v (by first | exact r_lss rfl rfl (decide_eq_true (by omega)) | exact r_lss rfl rfl (decide_eq_false (by omega)) | exact r_lss rfl rfl rfl) rfl rfl rfl ?_
  refine WL.fin hK277 (fun _ _ h => h) ?_
  refine WC.condF rfl rfl ?_
  refine WC.exitF hK257 (fun _ _ h => h) ?_
  refine WC.seq fun K278 hK278 => ?_
  -- region 43
  refine WC.region ?_
  -- R43.0 162 := zzsize.go:58 move
  refine WL.v (by first | exact r_move (v := .int _ _) rfl | exact r_move rfl) rfl rfl rfl ?_
  -- R43.1 163 := zzsize.go:58 move
  refine WL.v (by first | exact r_move (v := .slice _ _ _) rfl | exact r_move rfl) rfl rfl rfl ?_
  -- R43.2 164 := zzsize.go:58 move
  refine WL.v (by first | exact r_move (v := .int _ _) rfl | exact r_move rfl) rfl rfl rfl ?_
  -- R43.3 165 := zzsize.go:58 indexAddr
  refine WL.v (by exact r_indexS ty_sl22 rfl rfl rfl (by omega)) rfl rfl rfl ?_
  -- R43.4 166 := zzsize.go:58 fieldAddr
  refine WL.v (by exact r_field ty_fld41_9 rfl) rfl rfl rfl ?_
  -- R43.5 167 := zzsize.go:58 load
  refine WL.v (by exact r_load1 ty_one25 rfl (st.old (fun h => h) kL)) rfl rfl rfl ?_
  -- R43.6 168 := zzsize.go:58 call
  refine WL.v (by exact r_len ty_usl25 rfl) rfl rfl rfl ?_
  -- R43.7 169 := zzsize.go:58 binOp
  refine WL.v (by exact r_add (r := ((s4 + nL : Nat) : Int)) rfl rfl (by rw [wi64 (by omega) (by omega)]; omega)) rfl rfl rfl ?_
  -- R43.8 3 := zzsize.go:58 assign
  refine WL.v (by first | exact r_assign (v := .int _ _) rfl | exact r_assign rfl) rfl rfl rfl ?_
  refine WL.fin hK278 (fun _ _ h => h) ?_
  refine WC.seq fun K279 hK279 => ?_
  refine WC.seq fun K280 hK280 => ?_
  -- region 44
  refine WC.region ?_
  -- R44.0 170 := zzsize.go:59 move
  refine WL.v (by first | exact r_move (v := .int _ _) rfl | exact r_move rfl) rfl rfl rfl ?_
  -- R44.1 171 := zzsize.go:59 binOp
  refine WL.v (by first | exact r_gtr rfl rfl (decide_eq_true (by omega)) | exact r_gtr rfl rfl (decide_eq_false (by omega)) | exact r_gtr rfl rfl rfl) rfl rfl rfl ?_
  refine WL.fin hK280 (fun _ _ h => h) ?_
  by_cases q7 : 65536 < s4 + nL + nG
  · skip
    refine WC.condF rfl rfl ?_
    refine WC.skipF hK279 (fun _ _ h => h) ?_
    refine WC.seq fun K281 hK281 => ?_
    -- region 46
    refine WC.region ?_
    -- R46.0 172 := zzsize.go:62 move
    refine WL.v (by first | exact r_move (v := .int _ _) rfl | exact r_move rfl) rfl rfl rfl ?_
    -- R46.1 173 := zzsize.go:62 move
    refine WL.v (by first | exact r_move (v := .slice _ _ _) rfl | exact r_move rfl) rfl rfl rfl ?_
    -- R46.2 174 := zzsize.go:62 move
    refine WL.v (by first | exact r_move (v := .int _ _) rfl | exact r_move rfl) rfl rfl rfl ?_
    -- R46.3 175 := zzsize.go:62 indexAddr
    refine WL.v (by exact r_indexS ty_sl22 rfl rfl rfl (by omega)) rfl rfl rfl ?_
    -- R46.4 176 := zzsize.go:62 fieldAddr
    refine WL.v (by exact r_field ty_fld41_10 rfl) rfl rfl rfl ?_
    -- R46.5 177 := zzsize.go:62 load
    refine WL.v (by exact r_load1 ty_one37 rfl (st.old (fun h => h) kG)) rfl rfl rfl ?_
    -- R46.6 178 := zzsize.go:62 call
    refine WL.v (by exact r_len ty_usl37 rfl) rfl rfl rfl ?_
    -- R46.7 179 := zzsize.go:62 binOp
    refine WL.v (by exact r_add (r := ((s4 + nL + nG : Nat) : Int)) rfl rfl (by rw [wi64 (by omega) (by omega)]; omega)) rfl rfl rfl ?_
    -- R46.8 3 := zzsize.go:62 assign
    refine WL.v (by first | exact r_assign (v := .int _ _) rfl | exact r_assign rfl) rfl rfl rfl ?_
    refine WL.fin hK281 (fun _ _ h => h) ?_
    refine WC.seq fun K282 hK282 => ?_
    refine WC.seq fun K283 hK283 => ?_
    -- region 47
    refine WC.region ?_
    -- R47.0 180 := zzsize.go:63 move
    refine WL.v (by first | exact r_move (v := .int _ _) rfl | exact r_move rfl) rfl rfl rfl ?_
    -- R47.1 181 := zzsize.go:63 binOp
    refine WL.v (by first | exact r_gtr rfl rfl (decide_eq_true (by omega)) | exact r_gtr rfl rfl (decide_eq_false (by omega)) | exact r_gtr rfl rfl rfl) rfl rfl rfl ?_
    refine WL.fin hK283 (fun _ _ h => h) ?_
    refine WC.condT rfl rfl ?_
    refine WC.seq fun K284 hK284 => ?_
    -- region 48
    refine WC.region ?_
    -- R48.0 2 := zzsize.go:64 assign
    refine WL.v (by first | exact r_assign (v := .bool _) rfl | exact r_assign rfl) rfl rfl rfl ?_
    refine WL.fin hK284 (fun _ _ h => h) ?_
    refine WC.ret1 Try.results4 (fun _ _ h => h) rfl ?_
    exact ⟨_, rfl, false, rfl, (fun h => absurd h (by decide)), st⟩
  refine WC.condF rfl rfl ?_
  refine WC.skipF hK279 (fun _ _ h => h) ?_
  refine WC.seq fun K285 hK285 => ?_
  -- region 46
  refine WC.region ?_
  -- R46.0 172 := zzsize.go:62 move
  refine WL.v (by first | exact r_move (v := .int _ _) rfl | exact r_move rfl) rfl rfl rfl ?_
  -- R46.1 173 := zzsize.go:62 move
  refine WL.v (by first | exact r_move (v := .slice _ _ _) rfl | exact r_move rfl) rfl rfl rfl ?_
  -- R46.2 174 := zzsize.go:62 move
  refine WL.v (by first | exact r_move (v := .int _ _) rfl | exact r_move rfl) rfl rfl rfl ?_
  -- R46.3 175 := zzsize.go:62 indexAddr
  refine WL.v (by exact r_indexS ty_sl22 rfl rfl rfl (by omega)) rfl rfl rfl ?_
  -- R46.4 176 := zzsize.go:62 fieldAddr
  refine WL.v (by exact r_field ty_fld41_10 rfl) rfl rfl rfl ?_
  -- R46.5 177 := zzsize.go:62 load
  refine WL.v (by exact r_load1 ty_one37 rfl (st.old (fun h => h) kG)) rfl rfl rfl ?_
  -- R46.6 178 := zzsize.go:62 call
  refine WL.v (by exact r_len ty_usl37 rfl) rfl rfl rfl ?_
  -- R46.7 179 := zzsize.go:62 binOp
  refine WL.v (by exact r_add (r := ((s4 + nL + nG : Nat) : Int)) rfl rfl (by rw [wi64 (by omega) (by omega)]; omega)) rfl rfl rfl ?_
  -- R46.8 3 := zzsize.go:62 assign
  refine WL.v (by first | exact r_assign (v := .int _ _) rfl | exact r_assign rfl) rfl rfl rfl ?_
  refine WL.fin hK285 (fun _ _ h => h) ?_
  refine WC.seq fun K286 hK286 => ?_
  refine WC.seq fun K287 hK287 => ?_
  -- region 47
  refine WC.region ?_
  -- R47.0 180 := zzsize.go:63 move
  refine WL.v (by first | exact r_move (v := .int _ _) rfl | exact r_move rfl) rfl rfl rfl ?_
  -- R47.1 181 := zzsize.go:63 binOp
  refine WL.v (by first | exact r_gtr rfl rfl (decide_eq_true (by omega)) | exact r_gtr rfl rfl (decide_eq_false (by omega)) | exact r_gtr rfl rfl rfl) rfl rfl rfl ?_
  refine WL.fin hK287 (fun _ _ h => h) ?_
  refine WC.condF rfl rfl ?_
  refine WC.skipF hK286 (fun _ _ h => h) ?_
  refine WC.seq fun K288 hK288 => ?_
  -- region 49
  refine WC.region ?_
  -- R49.0 8 := zzsize.go:66 assign
  refine WL.v (by first | exact r_assign (v := .int _ _) rfl | exact r_assign rfl) rfl rfl rfl ?_
  refine WL.fin hK288 (fun _ _ h => h) ?_
  refine WC.block ?_
  refine WC.loop (ι := Nat × Nat) (fun z => [(0, .slice (some ⟨sb, so, none⟩) n c), (3, .int .i64 (z.2 : Nat)), (4, .int .i64 (i : Nat)), (8, .int .i64 (z.1 : Nat))]) (fun z w' => St w0 (fun _ => False) L w' ∧ z.1 ≤ nG ∧ z.2 ≤ 65536 ∧ bas (gl i) z.1 ≤ z.2) (fun z => nG - z.1) (0, s4 + nL + nG) ⟨st, Nat.zero_le _, by show s4 + nL + nG ≤ 65536; omega, Nat.zero_le _⟩ ?_ ?_
  · skip
    repeat (first | exact sub_nil _ | refine sub_cons rfl rfl ?_)
  rintro ⟨jG, s5⟩ w ⟨st, hjG, hs5, hsb⟩ K5 hK5
  simp only at st hjG hs5 hsb hK5 ⊢
  by_cases hjlG : jG < nG
  · have haGs := haG (by omega)
    have haHs := haH (by omega)
    subst haGH
    rw [haGs] at haHs
    subst haGs
    obtain ⟨ecs, -, hec, hre⟩ := hgG jG hjlG
    obtain ⟨ea, en, ec, eb, eo, ee, hen, hec2, -, -⟩ := group_docs hre
    have ke := (hec 1 (by omega)).trans (congrArg some ee)
    have hen2 : en = gl i jG := by
      obtain ⟨a', c', hc'⟩ := hgH jG (by omega)
      simp only [Option.some.injEq, Addr.mk.injEq, and_true] at haHs
      obtain ⟨rfl, rfl⟩ := haHs
      rw [ke] at hc'
      cases hc'; rfl
    by_cases rG0 : 65536 < s5 + en
    · skip
      refine WC.seq fun K289 hK289 => ?_
      refine WC.seq fun K290 hK290 => ?_
      -- region 50
      refine WC.region ?_
      -- R50.0 182 := zzsize.go:66 move
      refine WL.v (by first | exact r_move (v := .int _ _) rfl | exact r_move rfl) rfl rfl rfl ?_
      -- R50.1 183 := zzsize.go:66 move
      refine WL.v (by first | exact r_move (v := .slice _ _ _) rfl | exact r_move rfl) rfl rfl rfl ?_
      -- R50.2 184 := zzsize.go:66 move
      refine WL.v (by first | exact r_move (v := .int _ _) rfl | exact r_move rfl) rfl rfl rfl ?_
      -- R50.3 185 := zzsize.go:66 indexAddr
      refine WL.v (by exact r_indexS ty_sl22 rfl rfl rfl (by omega)) rfl rfl rfl ?_
      -- R50.4 186 := zzsize.go:66 fieldAddr
      refine WL.v (by exact r_field ty_fld41_10 rfl) rfl rfl rfl ?_
      -- R50.5 187 := zzsize.go:66 load
      refine WL.v (by exact r_load1 ty_one37 rfl (st.old (fun h => h) kG)) rfl rfl rfl ?_
      -- R50.6 188 := zzsize.go:66 call
      refine WL.v (by exact r_len ty_usl37 rfl) rfl rfl rfl ?_
      -- R50.7 189 := zzsize.go:66 binOp
      refine WL.v (by first | exact r_lss rfl rfl (decide_eq_true (by omega)) | exact r_lss rfl rfl (decide_eq_false (by omega)) | exact r_lss rfl rfl rfl) rfl rfl rfl ?_
      refine WL.fin hK290 (fun _ _ h => h) ?_
      refine WC.condT rfl rfl ?_
      refine WC.skipF hK289 (fun _ _ h => h) ?_
      refine WC.seq fun K291 hK291 => ?_
      refine WC.block ?_
      refine WC.seq fun K292 hK292 => ?_
      -- region 52
      refine WC.region ?_
      -- R52.0 192 := zzsize.go:67 move
      refine WL.v (by first | exact r_move (v := .int _ _) rfl | exact r_move rfl) rfl rfl rfl ?_
      -- R52.1 193 := zzsize.go:67 move
      refine WL.v (by first | exact r_move (v := .slice _ _ _) rfl | exact r_move rfl) rfl rfl rfl ?_
      -- R52.2 194 := zzsize.go:67 move
      refine WL.v (by first | exact r_move (v := .int _ _) rfl | exact r_move rfl) rfl rfl rfl ?_
      -- R52.3 195 := zzsize.go:67 indexAddr
      refine WL.v (by exact r_indexS ty_sl22 rfl rfl rfl (by omega)) rfl rfl rfl ?_
      -- R52.4 196 := zzsize.go:67 fieldAddr
      refine WL.v (by exact r_field ty_fld41_10 rfl) rfl rfl rfl ?_
      -- R52.5 197 := zzsize.go:67 load
      refine WL.v (by exact r_load1 ty_one37 rfl (st.old (fun h => h) kG)) rfl rfl rfl ?_
      -- R52.6 198 := zzsize.go:67 move
      refine WL.v (by first | exact r_move (v := .int _ _) rfl | exact r_move rfl) rfl rfl rfl ?_
      -- R52.7 199 := zzsize.go:67 indexAddr
      refine WL.v (by exact r_indexS ty_sl37 rfl rfl rfl (by omega)) rfl rfl rfl ?_
      -- R52.8 200 := zzsize.go:67 fieldAddr
      refine WL.v (by exact r_field ty_fld60_1 rfl) rfl rfl rfl ?_
      -- R52.9 201 := zzsize.go:67 load
      refine WL.v (by exact r_load1 ty_one58 rfl (st.old (fun h => h) ke)) rfl rfl rfl ?_
      -- R52.10 202 := zzsize.go:67 call
      refine WL.v (by exact r_len ty_usl58 rfl) rfl rfl rfl ?_
      -- R52.11 203 := zzsize.go:67 binOp
      refine WL.v (by exact r_add (r := ((s5 + en : Nat) : Int)) rfl rfl (by rw [wi64 (by omega) (by omega)]; omega)) rfl rfl rfl ?_
      -- R52.12 3 := zzsize.go:67 assign
      refine WL.v (by first | exact r_assign (v := .int _ _) rfl | exact r_assign rfl) rfl rfl rfl ?_
      refine WL.fin hK292 (fun _ _ h => h) ?_
      refine WC.seq fun K293 hK293 => ?_
      -- region 53
      refine WC.region ?_
      -- R53.0 204 := zzsize.go:68 move
      refine WL.v (by first | exact r_move (v := .int _ _) rfl | exact r_move rfl) rfl rfl rfl ?_
      -- R53.1 205 := zzsize.go:68 binOp
      refine WL.v (by first | exact r_gtr rfl rfl (decide_eq_true (by omega)) | exact r_gtr rfl rfl (decide_eq_false (by omega)) | exact r_gtr rfl rfl rfl) rfl rfl rfl ?_
      refine WL.fin hK293 (fun _ _ h => h) ?_
      refine WC.condT rfl rfl ?_
      refine WC.seq fun K294 hK294 => ?_
      -- region 54
      refine WC.region ?_
      -- R54.0 2 := zzsize.go:69 assign
      refine WL.v (by first | exact r_assign (v := .bool _) rfl | exact r_assign rfl) rfl rfl rfl ?_
      refine WL.fin hK294 (fun _ _ h => h) ?_
      refine WC.ret1 Try.results4 (fun _ _ h => h) rfl ?_
      exact ⟨_, rfl, false, rfl, (fun h => absurd h (by decide)), st⟩
    refine WC.seq fun K295 hK295 => ?_
    refine WC.seq fun K296 hK296 => ?_
    -- region 50
    refine WC.region ?_
    -- R50.0 182 := zzsize.go:66 move
    refine WL.v (by first | exact r_move (v := .int _ _) rfl | exact r_move rfl) rfl rfl rfl ?_
    -- R50.1 183 := zzsize.go:66 move
    refine WL.v (by first | exact r_move (v := .slice _ _ _) rfl | exact r_move rfl) rfl rfl rfl ?_
    -- R50.2 184 := zzsize.go:66 move
    refine WL.v (by first | exact r_move (v := .int _ _) rfl | exact r_move rfl) rfl rfl rfl ?_
    -- R50.3 185 := zzsize.go:66 indexAddr
    refine WL.v (by exact r_indexS ty_sl22 rfl rfl rfl (by omega)) rfl rfl rfl ?_
    -- R50.4 186 := zzsize.go:66 fieldAddr
    refine WL.v (by exact r_field ty_fld41_10 rfl) rfl rfl rfl ?_
    -- R50.5 187 := zzsize.go:66 load
    refine WL.v (by exact r_load1 ty_one37 rfl (st.old (fun h => h) kG)) rfl rfl rfl ?_
    -- R50.6 188 := zzsize.go:66 call
    refine WL.v (by exact r_len ty_usl37 rfl) rfl rfl rfl ?_
    -- R50.7 189 := zzsize.go:66 binOp
    refine WL.v (by first | exact r_lss rfl rfl (decide_eq_true (by omega)) | exact r_lss rfl rfl (decide_eq_false (by omega)) | exact r_lss rfl rfl rfl) rfl rfl rfl ?_
    refine WL.fin hK296 (fun _ _ h => h) ?_
    refine WC.condT rfl rfl ?_
    refine WC.skipF hK295 (fun _ _ h => h) ?_
    refine WC.seq fun K297 hK297 => ?_
    refine WC.block ?_
    refine WC.seq fun K298 hK298 => ?_
    -- region 52
    refine WC.region ?_
    -- R52.0 192 := zzsize.go:67 move
    refine WL.v (by first | exact r_move (v := .int _ _) rfl | exact r_move rfl) rfl rfl rfl ?_
    -- R52.1 193 := zzsize.go:67 move
    refine WL.v (by first | exact r_move (v := .slice _ _ _) rfl | exact r_move rfl) rfl rfl rfl ?_
    -- R52.2 194 := zzsize.go:67 move
    refine WL.v (by first | exact r_move (v := .int _ _) rfl | exact r_move rfl) rfl rfl rfl ?_
    -- R52.3 195 := zzsize.go:67 indexAddr
    refine WL.v (by exact r_indexS ty_sl22 rfl rfl rfl (by omega)) rfl rfl rfl ?_
    -- R52.4 196 := zzsize.go:67 fieldAddr
    refine WL.v (by exact r_field ty_fld41_10 rfl) rfl rfl rfl ?_
    -- R52.5 197 := zzsize.go:67 load
    refine WL.v (by exact r_load1 ty_one37 rfl (st.old (fun h => h) kG)) rfl rfl rfl ?_
    -- R52.6 198 := zzsize.go:67 move
    refine WL.v (by first | exact r_move (v := .int _ _) rfl | exact r_move rfl) rfl rfl rfl ?_
    -- R52.7 199 := zzsize.go:67 indexAddr
    refine WL.v (by exact r_indexS ty_sl37 rfl rfl rfl (by omega)) rfl rfl rfl ?_
    -- R52.8 200 := zzsize.go:67 fieldAddr
    refine WL.v (by exact r_field ty_fld60_1 rfl) rfl rfl rfl ?_
    -- R52.9 201 := zzsize.go:67 load
    refine WL.v (by exact r_load1 ty_one58 rfl (st.old (fun h => h) ke)) rfl rfl rfl ?_
    -- R52.10 202 := zzsize.go:67 call
    refine WL.v (by exact r_len ty_usl58 rfl) rfl rfl rfl ?_
    -- R52.11 203 := zzsize.go:67 binOp
    refine WL.v (by exact r_add (r := ((s5 + en : Nat) : Int)) rfl rfl (by rw [wi64 (by omega) (by omega)]; omega)) rfl rfl rfl ?_
    -- R52.12 3 := zzsize.go:67 assign
    refine WL.v (by first | exact r_assign (v := .int _ _) rfl | exact r_assign rfl) rfl rfl rfl ?_
    refine WL.fin hK298 (fun _ _ h => h) ?_
    refine WC.seq fun K299 hK299 => ?_
    -- region 53
    refine WC.region ?_
    -- R53.0 204 := zzsize.go:68 move
    refine WL.v (by first | exact r_move (v := .int _ _) rfl | exact r_move rfl) rfl rfl rfl ?_
    -- R53.1 205 := zzsize.go:68 binOp
    refine WL.v (by first | exact r_gtr rfl rfl (decide_eq_true (by omega)) | exact r_gtr rfl rfl (decide_eq_false (by omega)) | exact r_gtr rfl rfl rfl) rfl rfl rfl ?_
    refine WL.fin hK299 (fun _ _ h => h) ?_
    refine WC.condF rfl rfl ?_
    refine WC.skipF hK297 (fun _ _ h => h) ?_
    -- region 51
    refine WC.region ?_
    -- R51.0 190 := zzsize.go:66 move
    refine WL.v (by first | exact r_move (v := .int _ _) rfl | exact r_move rfl) rfl rfl rfl ?_
    -- R51.1 191 := zzsize.go:66 binOp
    refine WL.v (by first | exact r_add rfl rfl (wi64 (by omega) (by omega)) | exact r_add rfl rfl rfl) rfl rfl rfl ?_
    -- R51.2 8 := zzsize.go:66 assign
    refine WL.v (by first | exact r_assign (v := .int _ _) rfl | exact r_assign rfl) rfl rfl rfl ?_
    refine WL.next hK5 (fun _ _ h => h) (jG + 1, s5 + en) ⟨st, by show jG + 1 ≤ nG; omega, by show s5 + en ≤ 65536; omega, by show bas (gl i) jG + gl i jG ≤ s5 + en; omega⟩ (by show nG - (jG + 1) < nG - jG; omega) (by repeat (first | exact sub_nil _ | refine sub_cons rfl rfl ?_))
  have hjGe : jG = nG := by omega
  subst hjGe
  refine WC.seq fun K300 hK300 => ?_
  refine WC.seq fun K301 hK301 => ?_
  -- region 50
  refine WC.region ?_
  -- R50.0 182 := zzsize.go:66 move
  refine WL.v (by first | exact r_move (v := .int _ _) rfl | exact r_move rfl) rfl rfl rfl ?_
  -- R50.1 183 := zzsize.go:66 move
  refine WL.v (by first | exact r_move (v := .slice _ _ _) rfl | exact r_move rfl) rfl rfl rfl ?_
  -- R50.2 184 := zzsize.go:66 move
  refine WL.v (by first | exact r_move (v := .int _ _) rfl | exact r_move rfl) rfl rfl rfl ?_
  -- R50.3 185 := zzsize.go:66 indexAddr
  refine WL.v (by exact r_indexS ty_sl22 rfl rfl rfl (by omega)) rfl rfl rfl ?_
  -- R50.4 186 := zzsize.go:66 fieldAddr
  refine WL.v (by exact r_field ty_fld41_10 rfl) rfl rfl rfl ?_
  -- R50.5 187 := zzsize.go:66 load
  refine WL.v (by exact r_load1 ty_one37 rfl (st.old (fun h => h) kG)) rfl rfl rfl ?_
  -- R50.6 188 := zzsize.go:66 call
  refine WL.v (by exact r_len ty_usl37 rfl) rfl rfl rfl ?_
  -- R50.7 189 := zzsize.go:66 binOp
  refine WL.v (by first | exact r_lss rfl rfl (decide_eq_true (by omega)) | exact r_lss rfl rfl (decide_eq_false (by omega)) | exact r_lss rfl rfl rfl) rfl rfl rfl ?_
  refine WL.fin hK301 (fun _ _ h => h) ?_
  refine WC.condF rfl rfl ?_
  refine WC.exitF hK184 (fun _ _ h => h) ?_
  -- region 6
  refine WC.region ?_
  -- R6.0 17 := zzsize.go:15 move
  refine WL.v (by first | exact r_move (v := .int _ _) rfl | exact r_move rfl) rfl rfl rfl ?_
  -- R6.1 18 := zzsize.go:15 binOp
  refine WL.v (by first | exact r_add rfl rfl (wi64 (by omega) (by omega)) | exact r_add rfl rfl rfl) rfl rfl rfl ?_
  -- R6.2 4 := zzsize.go:15 assign
  refine WL.v (by first | exact r_assign (v := .int _ _) rfl | exact r_assign rfl) rfl rfl rfl ?_
  refine WL.next hK1 (fun _ _ h => h) (i + 1, s5) ⟨st, by show i + 1 ≤ n; omega, hs5, fun j hj => ?_⟩ (by show n - (i + 1) < n - i; omega) (by repeat (first | exact sub_nil _ | refine sub_cons rfl rfl ?_))
  by_cases hji : j = i
  · subst hji
    rw [hgni]
    exact ⟨by omega, by omega, by omega⟩
  · exact hl j (by simp only at hj; omega)

end Go.Proofs.Qxb6500835a

