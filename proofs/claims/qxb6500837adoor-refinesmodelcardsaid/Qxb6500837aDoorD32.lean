import Derived.Test.Qxb6500837aDoorD31
set_option linter.unusedVariables false
set_option linter.unusedSimpArgs false
set_option maxRecDepth 20000
namespace Go.Proofs.Qxb6500837aDoor
open Go.RowKit Go.E1 Go.Disk
variable {w0 : World} {L L' l I J K K' : List HI} {w : World} {D : DK} {m : Int} {P : PD} {q : Obj → Prop}
variable {R : PD} {NS : Int → Option Value} {f : Nat → Value}

theorem rev_last {x : Nat} {r : List Nat} : (x :: r).reverse.getD r.length 0 = x := by
  rw [List.reverse_cons, List.getD_eq_getElem?_getD, List.getElem?_append_right (by simp)]; simp
theorem rev_last2 {x y : Nat} {r : List Nat} : (x :: y :: r).reverse.getD r.length 0 = y := by
  rw [List.reverse_cons, List.getD_eq_getElem?_getD, List.getElem?_append_left (by simp), ← List.getD_eq_getElem?_getD]; exact rev_last
theorem tear_bytes {a b : Nat → Int} {k : Nat} (hk : k ≤ 512) : bytesOf 512 (fun j => if j < k then a j else b j) = ([] ++ ((bytesOf 512 a).take k).drop 0) ++ ((bytesOf 512 b).take 512).drop k := by
  apply List.ext_getElem?
  intro j
  have la : (([] ++ ((bytesOf 512 a).take k).drop 0) : List Int).length = k := by simp [bytesOf_len]; omega
  by_cases hj : j < 512
  · have e0 : (bytesOf 512 (fun j => if j < k then a j else b j))[j]? = some (if j < k then a j else b j) := by simp [bytesOf, hj]
    rw [e0]
    by_cases hjk : j < k
    · rw [List.getElem?_append_left (by rw [la]; exact hjk)]
      simp [bytesOf, hj, hjk]
    · rw [List.getElem?_append_right (by rw [la]; omega), la, List.getElem?_drop, List.getElem?_take_of_lt (by omega), show k + (j - k) = j by omega]
      simp [bytesOf, hj, hjk]
  · have e0 : (bytesOf 512 (fun j => if j < k then a j else b j))[j]? = none := by simp [bytesOf]; omega
    rw [e0, eq_comm, List.getElem?_eq_none]
    rw [List.length_append, la]
    simp [bytesOf_len]; omega

set_option maxHeartbeats 128000000 in
theorem lookL_ok : JOK w0 28 := by
  intro R kp tear tb bw bm bb NS wv XW f K L w hwf hkpo hkpl hkpr hbk hown hXW hKL hbb st
  have hs1 := hwf.s1; have hs2 := hwf.s2
  have hpl : R.pend.length ≤ 65536 := by have := hwf.ple; have := hwf.l2; omega
  obtain ⟨A, hA⟩ : ∃ A, A = crashPc kp.bs tear (kOf tb) 0 R.pc R.pend := ⟨_, rfl⟩
  have hAr : ∀ s j, 0 ≤ A s j ∧ A s j < 256 := by rw [hA]; exact crashPc_range hwf.pcr fun p hp => (hwf.psec p hp).2
  rw [← hA] at hbb
  obtain ⟨wa, wc, wb, wo, rfl, hwc, hwa, hwrd⟩ := hown.form
  refine enter [.pointer (some ⟨bw, 0, none⟩)] Tryd.func28 rfl Tryd.ntmps28 rfl ?_
  show WC _ _ _ 132 [] [(0, .pointer (some ⟨bw, 0, none⟩))] _
  refine WC.seq fun K1038 hK1038 => ?_
  -- region 0
  refine WC.region ?_
  -- R0.0 2 := laws.go:184 assign
  refine WL.v (by first | exact r_assign (v := .bool _) rfl | exact r_assign rfl) rfl rfl rfl ?_
  refine WL.fin hK1038 (fun _ _ h => h) ?_
  refine WC.seq fun K1039 hK1039 => ?_
  refine WC.seq fun K1040 hK1040 => ?_
  -- region 1
  refine WC.region ?_
  -- R1.0 3 := laws.go:185 assign
  refine WL.v (by first | exact r_assign (v := .int _ _) rfl | exact r_assign rfl) rfl rfl rfl ?_
  refine WL.fin hK1040 (fun _ _ h => h) ?_
  refine WC.block ?_
  refine WC.loop (ι := Nat) (fun z => [(0, .pointer (some ⟨bw, 0, none⟩)), (3, .int .i64 (z : Nat))])
    (fun z w' => z ≤ R.sec ∧ S0 w0 (bkI bw bm (.slice wa R.pend.length wc) (.slice kp.a kp.bs.length kp.c) tear tb (.slice (some ⟨bb, 0, none⟩) (R.sec * 512) (R.sec * 512)) (R.sec : Nat) :: mpI bm NS :: L) w') (fun z => R.sec - z) 0 ⟨Nat.zero_le _, st⟩ ?_ ?_
  · skip
    repeat (first | exact sub_nil _ | refine sub_cons rfl rfl ?_)
  rintro s w ⟨hs, st⟩ K1 hK1
  by_cases hsl : ¬ s < R.sec
  · skip
    refine WC.seq fun K1041 hK1041 => ?_
    refine WC.seq fun K1042 hK1042 => ?_
    -- region 2
    refine WC.region ?_
    -- R2.0 11 := laws.go:185 move
    refine WL.v (by first | exact r_move (v := .int _ _) rfl | exact r_move rfl) rfl rfl rfl ?_
    -- R2.1 12 := laws.go:185 move
    refine WL.v (by first | exact r_move (v := .pointer _) rfl | exact r_move rfl) rfl rfl rfl ?_
    -- R2.2 13 := laws.go:185 nilCheck
    refine WL.v (by exact r_nilCheck rfl) rfl rfl rfl ?_
    -- R2.3 14 := laws.go:185 fieldAddr
    refine WL.v (by exact r_field ty_fld60_4 rfl) rfl rfl rfl ?_
    -- R2.4 15 := laws.go:185 load
    refine WL.v (by exact r_load1 ty_one2 rfl (by first | assumption | exact st.c0 (by first | decide | omega) | exact st.c1 (by first | decide | omega) | exact st.c2 (by first | decide | omega) | exact st.c3 (by first | decide | omega) | exact st.c4 (by first | decide | omega) | exact st.c5 (by first | decide | omega) | exact st.c6 (by first | decide | omega) | exact st.c7 (by first | decide | omega) | exact st.c8 (by first | decide | omega))) rfl rfl rfl ?_
    -- R2.5 16 := laws.go:185 binOp
    refine WL.v (by first | exact r_lss rfl rfl (decide_eq_true (by omega)) | exact r_lss rfl rfl (decide_eq_false (by omega)) | exact r_lss rfl rfl rfl) rfl rfl rfl ?_
    refine WL.fin hK1042 (fun _ _ h => h) ?_
    refine WC.condF rfl rfl ?_
    refine WC.exitF hK1039 (fun _ _ h => h) ?_
    refine WC.seq fun K1043 hK1043 => ?_
    -- region 23
    refine WC.region ?_
    -- R23.0 2 := laws.go:207 assign
    refine WL.v (by first | exact r_assign (v := .bool _) rfl | exact r_assign rfl) rfl rfl rfl ?_
    refine WL.fin hK1043 (fun _ _ h => h) ?_
    refine WC.ret1 Tryd.results28 (fun _ _ h => h) rfl ?_
    exact ⟨_, rfl, rfl, st⟩
  have hsl : s < R.sec := by omega
  have hgot : Sees w0 [iI bb (R.sec * 512) (img A)] (.slice (some ⟨bb, s * 512, none⟩) 512 (R.sec * 512 - s * 512)) (bytesOf 512 (A s)) := by
    have e : bytesOf 512 (A s) = bytesOf 512 (fun k => img A (s * 512 + k)) := bytesOf_congr fun k hk => by
      show _ = A ((s * 512 + k) / 512) ((s * 512 + k) % 512)
      rw [show (s * 512 + k) / 512 = s by omega, show (s * 512 + k) % 512 = k by omega]
    rw [e]
    exact Sees.part (img_range hAr) (by omega) (by omega)
  have hAW : bytesOf 512 (A s) = bytesOf 512 (wantW (R.pc s) R.pend tear (kOf tb) (mineL kp.bs tear R.pend s R.pend.length)) := bytesOf_congr fun j hj => by
    rw [hA, ← crash_want (Nat.le_refl _) j hj, List.take_length]
  refine WC.seq fun K1044 hK1044 => ?_
  refine WC.seq fun K1045 hK1045 => ?_
  -- region 2
  refine WC.region ?_
  -- R2.0 11 := laws.go:185 move
  refine WL.v (by first | exact r_move (v := .int _ _) rfl | exact r_move rfl) rfl rfl rfl ?_
  -- R2.1 12 := laws.go:185 move
  refine WL.v (by first | exact r_move (v := .pointer _) rfl | exact r_move rfl) rfl rfl rfl ?_
  -- R2.2 13 := laws.go:185 nilCheck
  refine WL.v (by exact r_nilCheck rfl) rfl rfl rfl ?_
  -- R2.3 14 := laws.go:185 fieldAddr
  refine WL.v (by exact r_field ty_fld60_4 rfl) rfl rfl rfl ?_
  -- R2.4 15 := laws.go:185 load
  refine WL.v (by exact r_load1 ty_one2 rfl (by first | assumption | exact st.c0 (by first | decide | omega) | exact st.c1 (by first | decide | omega) | exact st.c2 (by first | decide | omega) | exact st.c3 (by first | decide | omega) | exact st.c4 (by first | decide | omega) | exact st.c5 (by first | decide | omega) | exact st.c6 (by first | decide | omega) | exact st.c7 (by first | decide | omega) | exact st.c8 (by first | decide | omega))) rfl rfl rfl ?_
  -- R2.5 16 := laws.go:185 binOp
  refine WL.v (by first | exact r_lss rfl rfl (decide_eq_true (by omega)) | exact r_lss rfl rfl (decide_eq_false (by omega)) | exact r_lss rfl rfl rfl) rfl rfl rfl ?_
  refine WL.fin hK1045 (fun _ _ h => h) ?_
  refine WC.condT rfl rfl ?_
  refine WC.skipF hK1044 (fun _ _ h => h) ?_
  refine WC.seq fun K1046 hK1046 => ?_
  refine WC.block ?_
  refine WC.seq fun K1047 hK1047 => ?_
  -- region 4
  refine WC.region ?_
  -- R4.0 4 := laws.go:186 assign
  refine WL.v (by first | exact r_assign (v := .slice _ _ _) rfl | exact r_assign rfl) rfl rfl rfl ?_
  refine WL.fin hK1047 (fun _ _ h => h) ?_
  refine WC.seq fun K1048 hK1048 => ?_
  refine WC.seq fun K1049 hK1049 => ?_
  -- region 5
  refine WC.region ?_
  -- R5.0 19 := laws.go:187 move
  refine WL.v (by first | exact r_move (v := .pointer _) rfl | exact r_move rfl) rfl rfl rfl ?_
  -- R5.1 20 := laws.go:187 nilCheck
  refine WL.v (by exact r_nilCheck rfl) rfl rfl rfl ?_
  -- R5.2 21 := laws.go:187 fieldAddr
  refine WL.v (by exact r_field ty_fld60_1 rfl) rfl rfl rfl ?_
  -- R5.3 22 := laws.go:187 load
  refine WL.v (by exact r_load1 ty_one46 rfl (by first | assumption | exact st.c0 (by first | decide | omega) | exact st.c1 (by first | decide | omega) | exact st.c2 (by first | decide | omega) | exact st.c3 (by first | decide | omega) | exact st.c4 (by first | decide | omega) | exact st.c5 (by first | decide | omega) | exact st.c6 (by first | decide | omega) | exact st.c7 (by first | decide | omega) | exact st.c8 (by first | decide | omega))) rfl rfl rfl ?_
  -- R5.4 23 := laws.go:187 call
  refine WL.v (by exact r_len ty_usl46 rfl) rfl rfl rfl ?_
  -- R5.5 24 := laws.go:187 move
  refine WL.v (by first | exact r_move (v := .int _ _) rfl | exact r_move rfl) rfl rfl rfl ?_
  refine WL.fin hK1049 (fun _ _ h => h) ?_
  refine WC.block ?_
  refine WC.loop (ι := Nat × Value × List HI × (Nat → Value)) (fun z => [(0, .pointer (some ⟨bw, 0, none⟩)), (3, .int .i64 (s : Nat)), (4, z.2.1), (22, .slice wa R.pend.length wc), (23, .int .i64 (R.pend.length : Nat)), (24, .int .i64 (z.1 : Nat))])
    (fun z w' => z.1 ≤ R.pend.length ∧ OwnSl 3 1 z.2.1 (mineL kp.bs tear R.pend s z.1).length z.2.2.1 z.2.2.2 ∧ (∀ x, x < (mineL kp.bs tear R.pend s z.1).length → z.2.2.2 x = .int .i64 (((mineL kp.bs tear R.pend s z.1).reverse.getD x 0 : Nat) : Int)) ∧ S0 w0 (bkI bw bm (.slice wa R.pend.length wc) (.slice kp.a kp.bs.length kp.c) tear tb (.slice (some ⟨bb, 0, none⟩) (R.sec * 512) (R.sec * 512)) (R.sec : Nat) :: mpI bm NS :: (z.2.2.1 ++ L)) w') (fun z => R.pend.length - z.1) (0, .slice none 0 0, [], fun _ => undef)
    ⟨Nat.zero_le _, OwnSl.nil _ _ _, fun x hx => absurd hx (Nat.not_lt_zero _), st⟩ ?_ ?_
  · skip
    repeat (first | exact sub_nil _ | refine sub_cons rfl rfl ?_)
  rintro ⟨i, v4, XM, g⟩ w ⟨hi, hom, hgm, st⟩ K2 hK2
  dsimp only at hi hom hgm st ⊢
  obtain ⟨ma, mc, mb, rfl, hma, hmrd⟩ := hom.form
  by_cases hil : ¬ i < R.pend.length
  rotate_left
  · have hil : i < R.pend.length := by omega
    obtain rfl := hwa (by omega)
    obtain ⟨p, hp⟩ : ∃ p, R.pend[i]? = some p := ⟨_, List.getElem?_eq_getElem hil⟩
    have hgp : R.pend.getD i (0, fun _ => 0) = p := by rw [List.getD_eq_getElem?_getD, hp]; rfl
    obtain ⟨hp0, hp1⟩ := hbk.wt i p hp
    have hps := (hwf.psec p (List.mem_of_getElem? hp)).1
    obtain ⟨ga, gc, hgv⟩ := hp1.sl
    have g0 := hwrd st (fun x hx => List.mem_cons_of_mem _ (List.mem_cons_of_mem _ (List.mem_append_right _ (hXW hx)))) (i * 2) (by omega)
    have g1 := hwrd st (fun x hx => List.mem_cons_of_mem _ (List.mem_cons_of_mem _ (List.mem_append_right _ (hXW hx)))) (i * 2 + 1) (by omega)
    rw [hp0] at g0
    rw [hgv] at g1
    have hml := mineL_len (keep := kp.bs) (tear := tear) (pend := R.pend) (s := s) (i := i)
    by_cases hpe : p.1 = s
    rotate_left
    · have em : mineL kp.bs tear R.pend s (i + 1) = mineL kp.bs tear R.pend s i := by
        show (if (R.pend.getD i (0, fun _ => 0)).1 = s ∧ chosenB kp.bs tear i = true then _ else _) = _
        rw [hgp, if_neg (fun h => hpe h.1)]
      refine WC.seq fun K1050 hK1050 => ?_
      -- region 6
      refine WC.region ?_
      -- R6.0 25 := laws.go:187 binOp
      refine WL.v (by first | exact r_lss rfl rfl (decide_eq_true (by omega)) | exact r_lss rfl rfl (decide_eq_false (by omega)) | exact r_lss rfl rfl rfl) rfl rfl rfl ?_
      refine WL.fin hK1050 (fun _ _ h => h) ?_
      refine WC.seq fun K1051 hK1051 => ?_
      refine WC.condT rfl rfl ?_
      refine WC.skipF hK1051 (fun _ _ h => h) ?_
      refine WC.seq fun K1052 hK1052 => ?_
      refine WC.block ?_
      refine WC.seq fun K1053 hK1053 => ?_
      -- region 7
      refine WC.region ?_
      -- R7.0 26 := laws.go:187 move
      refine WL.v (by first | exact r_move (v := .int _ _) rfl | exact r_move rfl) rfl rfl rfl ?_
      -- R7.1 27 := laws.go:187 indexAddr
      refine WL.v (by exact r_indexS (j := i) ty_sl46 rfl rfl rfl hil) rfl rfl rfl ?_
      -- R7.2 28 := laws.go:187 load
      refine WL.v (v := .agg #[.int .i64 (p.1 : Nat), .slice ga (bytesOf 512 p.2).length gc]) (by exact r_loadL (vs := [_, _]) ty_agg63 rfl ⟨g0, g1, trivial⟩) rfl rfl rfl ?_
      -- R7.3 6 := laws.go:187 alloc
      refine WL.alloc (m := 2) st ty_zero63 rfl rfl rfl ?_
      intro b6 w st
      -- R7.4 5 := laws.go:187 assign
      refine WL.v (by first | exact r_assign (v := .int _ _) rfl | exact r_assign rfl) rfl rfl rfl ?_
      -- R7.5 None := laws.go:187 store
      first | refine WL.storeW (vs := [_, _]) st ty_agg63 rfl rfl rfl rfl rfl rfl ?_ | refine WL.storeL (vs := [_, _]) st ty_agg63 rfl rfl rfl rfl (by first | decide | omega) rfl rfl ?_ | refine WL.storeW (vs := [_, _]) st.front1 ty_agg63 rfl rfl rfl rfl rfl rfl ?_ | refine WL.storeL (vs := [_, _]) st.front1 ty_agg63 rfl rfl rfl rfl (by first | decide | omega) rfl rfl ?_ | refine WL.storeW (vs := [_, _]) st.front2 ty_agg63 rfl rfl rfl rfl rfl rfl ?_ | refine WL.storeL (vs := [_, _]) st.front2 ty_agg63 rfl rfl rfl rfl (by first | decide | omega) rfl rfl ?_ | refine WL.storeW (vs := [_, _]) st.front3 ty_agg63 rfl rfl rfl rfl rfl rfl ?_ | refine WL.storeL (vs := [_, _]) st.front3 ty_agg63 rfl rfl rfl rfl (by first | decide | omega) rfl rfl ?_ | refine WL.storeW (vs := [_, _]) st.front4 ty_agg63 rfl rfl rfl rfl rfl rfl ?_ | refine WL.storeL (vs := [_, _]) st.front4 ty_agg63 rfl rfl rfl rfl (by first | decide | omega) rfl rfl ?_ | refine WL.storeW (vs := [_, _]) st.front5 ty_agg63 rfl rfl rfl rfl rfl rfl ?_ | refine WL.storeL (vs := [_, _]) st.front5 ty_agg63 rfl rfl rfl rfl (by first | decide | omega) rfl rfl ?_ | refine WL.storeW (vs := [_, _]) st.front6 ty_agg63 rfl rfl rfl rfl rfl rfl ?_ | refine WL.storeL (vs := [_, _]) st.front6 ty_agg63 rfl rfl rfl rfl (by first | decide | omega) rfl rfl ?_ | refine WL.storeW (vs := [_, _]) st.front7 ty_agg63 rfl rfl rfl rfl rfl rfl ?_ | refine WL.storeL (vs := [_, _]) st.front7 ty_agg63 rfl rfl rfl rfl (by first | decide | omega) rfl rfl ?_ | refine WL.storeW (vs := [_, _]) st.front8 ty_agg63 rfl rfl rfl rfl rfl rfl ?_ | refine WL.storeL (vs := [_, _]) st.front8 ty_agg63 rfl rfl rfl rfl (by first | decide | omega) rfl rfl ?_
      intro w st
      refine WL.fin hK1053 (fun _ _ h => h) ?_
      refine WC.seq fun K1054 hK1054 => ?_
      -- region 8
      refine WC.region ?_
      -- R8.0 29 := laws.go:188 fieldAddr
      refine WL.v (by exact r_field ty_fld63_0 rfl) rfl rfl rfl ?_
      -- R8.1 30 := laws.go:188 load
      refine WL.v (by exact r_load1 ty_one2 rfl (by first | assumption | exact st.c0 (by first | decide | omega) | exact st.c1 (by first | decide | omega) | exact st.c2 (by first | decide | omega) | exact st.c3 (by first | decide | omega) | exact st.c4 (by first | decide | omega) | exact st.c5 (by first | decide | omega) | exact st.c6 (by first | decide | omega) | exact st.c7 (by first | decide | omega) | exact st.c8 (by first | decide | omega))) rfl rfl rfl ?_
      -- R8.2 31 := laws.go:188 move
      refine WL.v (by first | exact r_move (v := .int _ _) rfl | exact r_move rfl) rfl rfl rfl ?_
      -- R8.3 32 := laws.go:188 binOp
      refine WL.v (by exact r_eql rfl rfl (decide_eq_false (by omega))) rfl rfl rfl ?_
      -- R8.4 33 := laws.go:188 move
      refine WL.v (by first | exact r_move (v := .bool _) rfl | exact r_move rfl) rfl rfl rfl ?_
      -- R8.5 34 := laws.go:188 move
      refine WL.no rfl rfl ?_
      -- R8.6 35 := laws.go:188 nilCheck
      refine WL.no rfl rfl ?_
      -- R8.7 36 := laws.go:188 fieldAddr
      refine WL.no rfl rfl ?_
      -- R8.8 37 := laws.go:188 load
      refine WL.no rfl rfl ?_
      -- R8.9 38 := laws.go:188 move
      refine WL.no rfl rfl ?_
      -- R8.10 39 := laws.go:188 call
      refine WL.no rfl rfl ?_
      -- R8.11 40 := laws.go:188 pick
      refine WL.v (by first | exact r_pickT (v := .bool _) rfl rfl | exact r_pickF (v := .bool _) rfl rfl) rfl rfl rfl ?_
      refine WL.fin hK1054 (fun _ _ h => h) ?_
      refine WC.condF rfl rfl ?_
      refine WC.skipF hK1052 (fun _ _ h => h) ?_
      -- region 10
      refine WC.region ?_
      -- R10.0 45 := laws.go:187 binOp
      refine WL.v (by exact r_add (r := ((i + 1 : Nat) : Int)) rfl rfl ((wi64 (by omega) (by omega)).trans (by omega))) rfl rfl rfl ?_
      -- R10.1 24 := laws.go:187 move
      refine WL.v (by first | exact r_move (v := .int _ _) rfl | exact r_move rfl) rfl rfl rfl ?_
      refine WL.next hK2 (fun _ _ h => h) (i + 1, .slice ma (mineL kp.bs tear R.pend s i).length mc, XM, g) ⟨by show i + 1 ≤ _; omega, by show OwnSl _ _ _ (mineL kp.bs tear R.pend s (i + 1)).length _ _; rw [em]; exact hom, by show ∀ x, x < (mineL kp.bs tear R.pend s (i + 1)).length → g x = .int .i64 (((mineL kp.bs tear R.pend s (i + 1)).reverse.getD x 0 : Nat) : Int); rw [em]; exact hgm, st.drop⟩ (by show _ - (i + 1) < _ - i; omega) (by repeat (first | exact sub_nil _ | refine sub_cons rfl rfl ?_))
    rcases hch : chosenB kp.bs tear i with _ | _
    · have em : mineL kp.bs tear R.pend s (i + 1) = mineL kp.bs tear R.pend s i := by
        show (if (R.pend.getD i (0, fun _ => 0)).1 = s ∧ chosenB kp.bs tear i = true then _ else _) = _
        rw [if_neg (fun h => by rw [hch] at h; cases h.2)]
      refine WC.seq fun K1055 hK1055 => ?_
      -- region 6
      refine WC.region ?_
      -- R6.0 25 := laws.go:187 binOp
      refine WL.v (by first | exact r_lss rfl rfl (decide_eq_true (by omega)) | exact r_lss rfl rfl (decide_eq_false (by omega)) | exact r_lss rfl rfl rfl) rfl rfl rfl ?_
      refine WL.fin hK1055 (fun _ _ h => h) ?_
      refine WC.seq fun K1056 hK1056 => ?_
      refine WC.condT rfl rfl ?_
      refine WC.skipF hK1056 (fun _ _ h => h) ?_
      refine WC.seq fun K1057 hK1057 => ?_
      refine WC.block ?_
      refine WC.seq fun K1058 hK1058 => ?_
      -- region 7
      refine WC.region ?_
      -- R7.0 26 := laws.go:187 move
      refine WL.v (by first | exact r_move (v := .int _ _) rfl | exact r_move rfl) rfl rfl rfl ?_
      -- R7.1 27 := laws.go:187 indexAddr
      refine WL.v (by exact r_indexS (j := i) ty_sl46 rfl rfl rfl hil) rfl rfl rfl ?_
      -- R7.2 28 := laws.go:187 load
      refine WL.v (v := .agg #[.int .i64 (p.1 : Nat), .slice ga (bytesOf 512 p.2).length gc]) (by exact r_loadL (vs := [_, _]) ty_agg63 rfl ⟨g0, g1, trivial⟩) rfl rfl rfl ?_
      -- R7.3 6 := laws.go:187 alloc
      refine WL.alloc (m := 2) st ty_zero63 rfl rfl rfl ?_
      intro b6 w st
      -- R7.4 5 := laws.go:187 assign
      refine WL.v (by first | exact r_assign (v := .int _ _) rfl | exact r_assign rfl) rfl rfl rfl ?_
      -- R7.5 None := laws.go:187 store
      first | refine WL.storeW (vs := [_, _]) st ty_agg63 rfl rfl rfl rfl rfl rfl ?_ | refine WL.storeL (vs := [_, _]) st ty_agg63 rfl rfl rfl rfl (by first | decide | omega) rfl rfl ?_ | refine WL.storeW (vs := [_, _]) st.front1 ty_agg63 rfl rfl rfl rfl rfl rfl ?_ | refine WL.storeL (vs := [_, _]) st.front1 ty_agg63 rfl rfl rfl rfl (by first | decide | omega) rfl rfl ?_ | refine WL.storeW (vs := [_, _]) st.front2 ty_agg63 rfl rfl rfl rfl rfl rfl ?_ | refine WL.storeL (vs := [_, _]) st.front2 ty_agg63 rfl rfl rfl rfl (by first | decide | omega) rfl rfl ?_ | refine WL.storeW (vs := [_, _]) st.front3 ty_agg63 rfl rfl rfl rfl rfl rfl ?_ | refine WL.storeL (vs := [_, _]) st.front3 ty_agg63 rfl rfl rfl rfl (by first | decide | omega) rfl rfl ?_ | refine WL.storeW (vs := [_, _]) st.front4 ty_agg63 rfl rfl rfl rfl rfl rfl ?_ | refine WL.storeL (vs := [_, _]) st.front4 ty_agg63 rfl rfl rfl rfl (by first | decide | omega) rfl rfl ?_ | refine WL.storeW (vs := [_, _]) st.front5 ty_agg63 rfl rfl rfl rfl rfl rfl ?_ | refine WL.storeL (vs := [_, _]) st.front5 ty_agg63 rfl rfl rfl rfl (by first | decide | omega) rfl rfl ?_ | refine WL.storeW (vs := [_, _]) st.front6 ty_agg63 rfl rfl rfl rfl rfl rfl ?_ | refine WL.storeL (vs := [_, _]) st.front6 ty_agg63 rfl rfl rfl rfl (by first | decide | omega) rfl rfl ?_ | refine WL.storeW (vs := [_, _]) st.front7 ty_agg63 rfl rfl rfl rfl rfl rfl ?_ | refine WL.storeL (vs := [_, _]) st.front7 ty_agg63 rfl rfl rfl rfl (by first | decide | omega) rfl rfl ?_ | refine WL.storeW (vs := [_, _]) st.front8 ty_agg63 rfl rfl rfl rfl rfl rfl ?_ | refine WL.storeL (vs := [_, _]) st.front8 ty_agg63 rfl rfl rfl rfl (by first | decide | omega) rfl rfl ?_
      intro w st
      refine WL.fin hK1058 (fun _ _ h => h) ?_
      refine WC.seq fun K1059 hK1059 => ?_
      -- region 8
      refine WC.region ?_
      -- R8.0 29 := laws.go:188 fieldAddr
      refine WL.v (by exact r_field ty_fld63_0 rfl) rfl rfl rfl ?_
      -- R8.1 30 := laws.go:188 load
      refine WL.v (by exact r_load1 ty_one2 rfl (by first | assumption | exact st.c0 (by first | decide | omega) | exact st.c1 (by first | decide | omega) | exact st.c2 (by first | decide | omega) | exact st.c3 (by first | decide | omega) | exact st.c4 (by first | decide | omega) | exact st.c5 (by first | decide | omega) | exact st.c6 (by first | decide | omega) | exact st.c7 (by first | decide | omega) | exact st.c8 (by first | decide | omega))) rfl rfl rfl ?_
      -- R8.2 31 := laws.go:188 move
      refine WL.v (by first | exact r_move (v := .int _ _) rfl | exact r_move rfl) rfl rfl rfl ?_
      -- R8.3 32 := laws.go:188 binOp
      refine WL.v (by exact r_eql rfl rfl (decide_eq_true (by omega))) rfl rfl rfl ?_
      -- R8.4 33 := laws.go:188 move
      refine WL.v (by first | exact r_move (v := .bool _) rfl | exact r_move rfl) rfl rfl rfl ?_
      -- R8.5 34 := laws.go:188 move
      refine WL.v (by first | exact r_move (v := .pointer _) rfl | exact r_move rfl) rfl rfl rfl ?_
      -- R8.6 35 := laws.go:188 nilCheck
      refine WL.v (by exact r_nilCheck rfl) rfl rfl rfl ?_
      -- R8.7 36 := laws.go:188 fieldAddr
      refine WL.v (by exact r_field ty_fld60_2 rfl) rfl rfl rfl ?_
      -- R8.8 37 := laws.go:188 load
      refine WL.v (by exact r_loadL (vs := [_, _, _]) ty_agg31 rfl ⟨(by first | assumption | exact st.c0 (by first | decide | omega) | exact st.c1 (by first | decide | omega) | exact st.c2 (by first | decide | omega) | exact st.c3 (by first | decide | omega) | exact st.c4 (by first | decide | omega) | exact st.c5 (by first | decide | omega) | exact st.c6 (by first | decide | omega) | exact st.c7 (by first | decide | omega) | exact st.c8 (by first | decide | omega)), (by first | assumption | exact st.c0 (by first | decide | omega) | exact st.c1 (by first | decide | omega) | exact st.c2 (by first | decide | omega) | exact st.c3 (by first | decide | omega) | exact st.c4 (by first | decide | omega) | exact st.c5 (by first | decide | omega) | exact st.c6 (by first | decide | omega) | exact st.c7 (by first | decide | omega) | exact st.c8 (by first | decide | omega)), (by first | assumption | exact st.c0 (by first | decide | omega) | exact st.c1 (by first | decide | omega) | exact st.c2 (by first | decide | omega) | exact st.c3 (by first | decide | omega) | exact st.c4 (by first | decide | omega) | exact st.c5 (by first | decide | omega) | exact st.c6 (by first | decide | omega) | exact st.c7 (by first | decide | omega) | exact st.c8 (by first | decide | omega)), trivial⟩) rfl rfl rfl ?_
      -- R8.9 38 := laws.go:188 move
      refine WL.v (by first | exact r_move (v := .int _ _) rfl | exact r_move rfl) rfl rfl rfl ?_
      -- R8.10 39 := laws.go:188 call
      refine WL.call (r_call ty_call29 rfl) rfl rfl rfl (chosen_ok kp tear tb i hkpo hkpl (by omega) hkpr st) ?_
      rintro _ w ⟨rfl, st⟩
      rw [hch]
      -- R8.11 40 := laws.go:188 pick
      refine WL.v (by first | exact r_pickT (v := .bool _) rfl rfl | exact r_pickF (v := .bool _) rfl rfl) rfl rfl rfl ?_
      refine WL.fin hK1059 (fun _ _ h => h) ?_
      refine WC.condF rfl rfl ?_
      refine WC.skipF hK1057 (fun _ _ h => h) ?_
      -- region 10
      refine WC.region ?_
      -- R10.0 45 := laws.go:187 binOp
      refine WL.v (by exact r_add (r := ((i + 1 : Nat) : Int)) rfl rfl ((wi64 (by omega) (by omega)).trans (by omega))) rfl rfl rfl ?_
      -- R10.1 24 := laws.go:187 move
      refine WL.v (by first | exact r_move (v := .int _ _) rfl | exact r_move rfl) rfl rfl rfl ?_
      refine WL.next hK2 (fun _ _ h => h) (i + 1, .slice ma (mineL kp.bs tear R.pend s i).length mc, XM, g) ⟨by show i + 1 ≤ _; omega, by show OwnSl _ _ _ (mineL kp.bs tear R.pend s (i + 1)).length _ _; rw [em]; exact hom, by show ∀ x, x < (mineL kp.bs tear R.pend s (i + 1)).length → g x = .int .i64 (((mineL kp.bs tear R.pend s (i + 1)).reverse.getD x 0 : Nat) : Int); rw [em]; exact hgm, st.drop⟩ (by show _ - (i + 1) < _ - i; omega) (by repeat (first | exact sub_nil _ | refine sub_cons rfl rfl ?_))
    have em : mineL kp.bs tear R.pend s (i + 1) = i :: mineL kp.bs tear R.pend s i := by
      show (if (R.pend.getD i (0, fun _ => 0)).1 = s ∧ chosenB kp.bs tear i = true then _ else _) = _
      rw [hgp, if_pos ⟨hpe, hch⟩]
    refine WC.seq fun K1060 hK1060 => ?_
    -- region 6
    refine WC.region ?_
    -- R6.0 25 := laws.go:187 binOp
    refine WL.v (by first | exact r_lss rfl rfl (decide_eq_true (by omega)) | exact r_lss rfl rfl (decide_eq_false (by omega)) | exact r_lss rfl rfl rfl) rfl rfl rfl ?_
    refine WL.fin hK1060 (fun _ _ h => h) ?_
    refine WC.seq fun K1061 hK1061 => ?_
    refine WC.condT rfl rfl ?_
    refine WC.skipF hK1061 (fun _ _ h => h) ?_
    refine WC.seq fun K1062 hK1062 => ?_
    refine WC.block ?_
    refine WC.seq fun K1063 hK1063 => ?_
    -- region 7
    refine WC.region ?_
    -- R7.0 26 := laws.go:187 move
    refine WL.v (by first | exact r_move (v := .int _ _) rfl | exact r_move rfl) rfl rfl rfl ?_
    -- R7.1 27 := laws.go:187 indexAddr
    refine WL.v (by exact r_indexS (j := i) ty_sl46 rfl rfl rfl hil) rfl rfl rfl ?_
    -- R7.2 28 := laws.go:187 load
    refine WL.v (v := .agg #[.int .i64 (p.1 : Nat), .slice ga (bytesOf 512 p.2).length gc]) (by exact r_loadL (vs := [_, _]) ty_agg63 rfl ⟨g0, g1, trivial⟩) rfl rfl rfl ?_
    -- R7.3 6 := laws.go:187 alloc
    refine WL.alloc (m := 2) st ty_zero63 rfl rfl rfl ?_
    intro b6 w st
    -- R7.4 5 := laws.go:187 assign
    refine WL.v (by first | exact r_assign (v := .int _ _) rfl | exact r_assign rfl) rfl rfl rfl ?_
    -- R7.5 None := laws.go:187 store
    first | refine WL.storeW (vs := [_, _]) st ty_agg63 rfl rfl rfl rfl rfl rfl ?_ | refine WL.storeL (vs := [_, _]) st ty_agg63 rfl rfl rfl rfl (by first | decide | omega) rfl rfl ?_ | refine WL.storeW (vs := [_, _]) st.front1 ty_agg63 rfl rfl rfl rfl rfl rfl ?_ | refine WL.storeL (vs := [_, _]) st.front1 ty_agg63 rfl rfl rfl rfl (by first | decide | omega) rfl rfl ?_ | refine WL.storeW (vs := [_, _]) st.front2 ty_agg63 rfl rfl rfl rfl rfl rfl ?_ | refine WL.storeL (vs := [_, _]) st.front2 ty_agg63 rfl rfl rfl rfl (by first | decide | omega) rfl rfl ?_ | refine WL.storeW (vs := [_, _]) st.front3 ty_agg63 rfl rfl rfl rfl rfl rfl ?_ | refine WL.storeL (vs := [_, _]) st.front3 ty_agg63 rfl rfl rfl rfl (by first | decide | omega) rfl rfl ?_ | refine WL.storeW (vs := [_, _]) st.front4 ty_agg63 rfl rfl rfl rfl rfl rfl ?_ | refine WL.storeL (vs := [_, _]) st.front4 ty_agg63 rfl rfl rfl rfl (by first | decide | omega) rfl rfl ?_ | refine WL.storeW (vs := [_, _]) st.front5 ty_agg63 rfl rfl rfl rfl rfl rfl ?_ | refine WL.storeL (vs := [_, _]) st.front5 ty_agg63 rfl rfl rfl rfl (by first | decide | omega) rfl rfl ?_ | refine WL.storeW (vs := [_, _]) st.front6 ty_agg63 rfl rfl rfl rfl rfl rfl ?_ | refine WL.storeL (vs := [_, _]) st.front6 ty_agg63 rfl rfl rfl rfl (by first | decide | omega) rfl rfl ?_ | refine WL.storeW (vs := [_, _]) st.front7 ty_agg63 rfl rfl rfl rfl rfl rfl ?_ | refine WL.storeL (vs := [_, _]) st.front7 ty_agg63 rfl rfl rfl rfl (by first | decide | omega) rfl rfl ?_ | refine WL.storeW (vs := [_, _]) st.front8 ty_agg63 rfl rfl rfl rfl rfl rfl ?_ | refine WL.storeL (vs := [_, _]) st.front8 ty_agg63 rfl rfl rfl rfl (by first | decide | omega) rfl rfl ?_
    intro w st
    refine WL.fin hK1063 (fun _ _ h => h) ?_
    refine WC.seq fun K1064 hK1064 => ?_
    -- region 8
    refine WC.region ?_
    -- R8.0 29 := laws.go:188 fieldAddr
    refine WL.v (by exact r_field ty_fld63_0 rfl) rfl rfl rfl ?_
    -- R8.1 30 := laws.go:188 load
    refine WL.v (by exact r_load1 ty_one2 rfl (by first | assumption | exact st.c0 (by first | decide | omega) | exact st.c1 (by first | decide | omega) | exact st.c2 (by first | decide | omega) | exact st.c3 (by first | decide | omega) | exact st.c4 (by first | decide | omega) | exact st.c5 (by first | decide | omega) | exact st.c6 (by first | decide | omega) | exact st.c7 (by first | decide | omega) | exact st.c8 (by first | decide | omega))) rfl rfl rfl ?_
    -- R8.2 31 := laws.go:188 move
    refine WL.v (by first | exact r_move (v := .int _ _) rfl | exact r_move rfl) rfl rfl rfl ?_
    -- R8.3 32 := laws.go:188 binOp
    refine WL.v (by exact r_eql rfl rfl (decide_eq_true (by omega))) rfl rfl rfl ?_
    -- R8.4 33 := laws.go:188 move
    refine WL.v (by first | exact r_move (v := .bool _) rfl | exact r_move rfl) rfl rfl rfl ?_
    -- R8.5 34 := laws.go:188 move
    refine WL.v (by first | exact r_move (v := .pointer _) rfl | exact r_move rfl) rfl rfl rfl ?_
    -- R8.6 35 := laws.go:188 nilCheck
    refine WL.v (by exact r_nilCheck rfl) rfl rfl rfl ?_
    -- R8.7 36 := laws.go:188 fieldAddr
    refine WL.v (by exact r_field ty_fld60_2 rfl) rfl rfl rfl ?_
    -- R8.8 37 := laws.go:188 load
    refine WL.v (by exact r_loadL (vs := [_, _, _]) ty_agg31 rfl ⟨(by first | assumption | exact st.c0 (by first | decide | omega) | exact st.c1 (by first | decide | omega) | exact st.c2 (by first | decide | omega) | exact st.c3 (by first | decide | omega) | exact st.c4 (by first | decide | omega) | exact st.c5 (by first | decide | omega) | exact st.c6 (by first | decide | omega) | exact st.c7 (by first | decide | omega) | exact st.c8 (by first | decide | omega)), (by first | assumption | exact st.c0 (by first | decide | omega) | exact st.c1 (by first | decide | omega) | exact st.c2 (by first | decide | omega) | exact st.c3 (by first | decide | omega) | exact st.c4 (by first | decide | omega) | exact st.c5 (by first | decide | omega) | exact st.c6 (by first | decide | omega) | exact st.c7 (by first | decide | omega) | exact st.c8 (by first | decide | omega)), (by first | assumption | exact st.c0 (by first | decide | omega) | exact st.c1 (by first | decide | omega) | exact st.c2 (by first | decide | omega) | exact st.c3 (by first | decide | omega) | exact st.c4 (by first | decide | omega) | exact st.c5 (by first | decide | omega) | exact st.c6 (by first | decide | omega) | exact st.c7 (by first | decide | omega) | exact st.c8 (by first | decide | omega)), trivial⟩) rfl rfl rfl ?_
    -- R8.9 38 := laws.go:188 move
    refine WL.v (by first | exact r_move (v := .int _ _) rfl | exact r_move rfl) rfl rfl rfl ?_
    -- R8.10 39 := laws.go:188 call
    refine WL.call (r_call ty_call29 rfl) rfl rfl rfl (chosen_ok kp tear tb i hkpo hkpl (by omega) hkpr st) ?_
    rintro _ w ⟨rfl, st⟩
    rw [hch]
    -- R8.11 40 := laws.go:188 pick
    refine WL.v (by first | exact r_pickT (v := .bool _) rfl rfl | exact r_pickF (v := .bool _) rfl rfl) rfl rfl rfl ?_
    refine WL.fin hK1064 (fun _ _ h => h) ?_
    refine WC.condT rfl rfl ?_
    -- region 9
    refine WC.region ?_
    -- R9.0 41 := laws.go:189 move
    refine WL.v (by first | exact r_move (v := .slice _ _ _) rfl | exact r_move rfl) rfl rfl rfl ?_
    -- R9.1 42 := laws.go:189 move
    refine WL.v (by first | exact r_move (v := .int _ _) rfl | exact r_move rfl) rfl rfl rfl ?_
    -- R9.2 43 := laws.go:189 buildSlice
    first | refine WL.mkslice (m := 1) (vs := [.int _ _]) st ty_sl61 ty_zero3 rfl rfl rfl rfl rfl rfl ?_ | refine WL.mkslice (m := 1) (vs := [_]) st ty_sl61 ty_zero3 rfl rfl rfl rfl rfl rfl ?_ | refine WL.mkslice st ty_sl61 ty_zero3 rfl rfl rfl rfl rfl rfl ?_
    intro b43 w st
    -- R9.3 44 := laws.go:189 call
    have c43 : ∀ j, j < 1 * 1 → w.cell? ⟨b43, 0 + j, none⟩ = some (.int .i64 (i : Nat)) := fun j hj => by rw [show j = 0 by omega]; exact st.c0 (by decide)
    have st : S0 w0 (XM ++ ((b43, Row 3 1 (nth [.int .i64 (i : Nat)])) :: (b6, Row 63 2 (nth [.int .i64 (p.1 : Nat), .slice ga (bytesOf 512 p.2).length gc])) :: bkI bw bm (.slice (some ⟨wb, wo, none⟩) R.pend.length wc) (.slice kp.a kp.bs.length kp.c) tear tb (.slice (some ⟨bb, 0, none⟩) (R.sec * 512) (R.sec * 512)) (R.sec : Nat) :: mpI bm NS :: L)) w := st.perm (List.perm_append_comm_assoc [_, _, _, _] XM L)
    refine WL.appendO (m := 1) (c := 1) (bx := b43) (ox := 0) (news := fun _ => .int .i64 (i : Nat)) hom st ty_mk61 ty_zero3 rfl (by decide) rfl rfl (by decide) c43 (fun _ _ => rfl) (by omega) (by omega) rfl rfl rfl ?_
    intro v' XM' g' w hom' st hg1 hg2
    have st : S0 w0 (bkI bw bm (.slice (some ⟨wb, wo, none⟩) R.pend.length wc) (.slice kp.a kp.bs.length kp.c) tear tb (.slice (some ⟨bb, 0, none⟩) (R.sec * 512) (R.sec * 512)) (R.sec : Nat) :: mpI bm NS :: (XM' ++ L)) w := (st.perm (List.perm_append_comm_assoc XM' [_, _, _, _] L)).drop.drop
    obtain ⟨na, nc, nb, rfl, _, _⟩ := hom'.form
    -- R9.4 4 := laws.go:189 assign
    refine WL.v (by first | exact r_assign (v := .slice _ _ _) rfl | exact r_assign rfl) rfl rfl rfl ?_
    refine WL.fin hK1062 (fun _ _ h => h) ?_
    -- region 10
    refine WC.region ?_
    -- R10.0 45 := laws.go:187 binOp
    refine WL.v (by exact r_add (r := ((i + 1 : Nat) : Int)) rfl rfl ((wi64 (by omega) (by omega)).trans (by omega))) rfl rfl rfl ?_
    -- R10.1 24 := laws.go:187 move
    refine WL.v (by first | exact r_move (v := .int _ _) rfl | exact r_move rfl) rfl rfl rfl ?_
    refine WL.next hK2 (fun _ _ h => h) (i + 1, _, XM', g') ⟨by show i + 1 ≤ _; omega, by show OwnSl _ _ _ (mineL kp.bs tear R.pend s (i + 1)).length _ _; rw [em]; exact hom', fun x hx => ?_, st⟩ (by show _ - (i + 1) < _ - i; omega) (by repeat (first | exact sub_nil _ | refine sub_cons rfl rfl ?_))
    have hx : x < (mineL kp.bs tear R.pend s (i + 1)).length := hx
    show g' x = .int .i64 (((mineL kp.bs tear R.pend s (i + 1)).reverse.getD x 0 : Nat) : Int)
    rw [em] at hx ⊢
    rw [List.length_cons] at hx
    by_cases hxl : x < (mineL kp.bs tear R.pend s i).length
    · rw [hg1 x (by omega), hgm x hxl, List.reverse_cons, List.getD_eq_getElem?_getD, List.getD_eq_getElem?_getD, List.getElem?_append_left (by rw [List.length_reverse]; exact hxl)]
    · obtain rfl : x = (mineL kp.bs tear R.pend s i).length := by omega
      have := hg2 0 (by decide)
      rw [show (mineL kp.bs tear R.pend s i).length * 1 + 0 = (mineL kp.bs tear R.pend s i).length by omega] at this
      rw [this, rev_last]
  obtain rfl : i = R.pend.length := by omega
  refine WC.seq fun K1065 hK1065 => ?_
  -- region 6
  refine WC.region ?_
  -- R6.0 25 := laws.go:187 binOp
  refine WL.v (by first | exact r_lss rfl rfl (decide_eq_true (by omega)) | exact r_lss rfl rfl (decide_eq_false (by omega)) | exact r_lss rfl rfl rfl) rfl rfl rfl ?_
  refine WL.fin hK1065 (fun _ _ h => h) ?_
  refine WC.seq fun K1066 hK1066 => ?_
  refine WC.condF rfl rfl ?_
  refine WC.exitF hK1048 (fun _ _ h => h) ?_
  refine WC.seq fun K1067 hK1067 => ?_
  -- region 11
  refine WC.region ?_
  -- R11.0 46 := laws.go:192 move
  refine WL.v (by first | exact r_move (v := .pointer _) rfl | exact r_move rfl) rfl rfl rfl ?_
  -- R11.1 47 := laws.go:192 move
  refine WL.v (by first | exact r_move (v := .int _ _) rfl | exact r_move rfl) rfl rfl rfl ?_
  -- R11.2 48 := laws.go:192 call
  refine WL.call (r_call ty_call30 rfl) rfl rfl rfl (before_ok hbk hsl hs2 st) ?_
  rintro v48 w ⟨X, hsv, st⟩
  obtain ⟨va, vc, rfl⟩ := hsv.sl
  have st : S0 w0 (bkI bw bm (.slice wa R.pend.length wc) (.slice kp.a kp.bs.length kp.c) tear tb (.slice (some ⟨bb, 0, none⟩) (R.sec * 512) (R.sec * 512)) (R.sec : Nat) :: mpI bm NS :: (X ++ (XM ++ L))) w := st.perm (List.perm_append_comm_assoc X [_, _] _)
  -- R11.3 7 := laws.go:192 assign
  refine WL.v (by first | exact r_assign (v := .slice _ _ _) rfl | exact r_assign rfl) rfl rfl rfl ?_
  refine WL.fin hK1067 (fun _ _ h => h) ?_
  refine WC.cut (ι := Value × List HI) (fun z => [(0, .pointer (some ⟨bw, 0, none⟩)), (3, .int .i64 (s : Nat)), (7, z.1)])
    (fun z w' => Sees w0 (z.2 ++ K) z.1 (bytesOf 512 (A s)) ∧ S0 w0 (bkI bw bm (.slice wa R.pend.length wc) (.slice kp.a kp.bs.length kp.c) tear tb (.slice (some ⟨bb, 0, none⟩) (R.sec * 512) (R.sec * 512)) (R.sec : Nat) :: mpI bm NS :: (z.2 ++ L)) w') ?_ ?_
  rotate_left
  · intro KC hKC
    have hxlt : ∀ x, x ∈ mineL kp.bs tear R.pend s R.pend.length → x < R.pend.length := fun x hx => mineL_lt hx
    rcases hM : mineL kp.bs tear R.pend s R.pend.length with _ | ⟨x, r⟩
    · rw [hM] at hAW
      have hAW : bytesOf 512 (A s) = bytesOf 512 (R.pc s) := hAW
      refine WC.seq fun K1068 hK1068 => ?_
      -- region 12
      refine WC.region ?_
      -- R12.0 49 := laws.go:193 move
      refine WL.v (by first | exact r_move (v := .slice _ _ _) rfl | exact r_move rfl) rfl rfl rfl ?_
      -- R12.1 50 := laws.go:193 call
      refine WL.v (by exact r_len ty_usl61 rfl) rfl rfl rfl ?_
      -- R12.2 8 := laws.go:193 assign
      refine WL.v (by first | exact r_assign (v := .int _ _) rfl | exact r_assign rfl) rfl rfl rfl ?_
      refine WL.fin hK1068 (fun _ _ h => h) ?_
      refine WC.seq fun K1069 hK1069 => ?_
      -- region 13 (draws)
      refine WC.quietS st ty_mixed (by kernel_rfl) fun Kq hKq => ?_
      -- R13.0 51 := laws.go:193 move
      refine QL.v (fun w st => by first | exact r_move (v := .int _ _) rfl | exact r_move rfl) rfl rfl rfl ?_
      -- R13.1 52 := laws.go:193 binOp
      refine QL.v (fun w st => by exact r_gtr rfl rfl (decide_eq_false (by simp))) rfl rfl rfl ?_
      -- R13.2 53 := laws.go:193 move
      refine QL.v (fun w st => by first | exact r_move (v := .bool _) rfl | exact r_move rfl) rfl rfl rfl ?_
      -- R13.3 54 := laws.go:193 move
      refine QL.no rfl rfl ?_
      -- R13.4 55 := laws.go:193 move
      refine QL.no rfl rfl ?_
      -- R13.5 56 := laws.go:193 binOp
      refine QL.no rfl rfl ?_
      -- R13.6 57 := laws.go:193 indexAddr
      refine QL.no rfl rfl ?_
      -- R13.7 58 := laws.go:193 load
      refine QL.no rfl rfl ?_
      -- R13.8 59 := laws.go:193 move
      refine QL.no rfl rfl ?_
      -- R13.9 60 := laws.go:193 nilCheck
      refine QL.no rfl rfl ?_
      -- R13.10 61 := laws.go:193 fieldAddr
      refine QL.no rfl rfl ?_
      -- R13.11 62 := laws.go:193 fieldAddr
      refine QL.no rfl rfl ?_
      -- R13.12 63 := laws.go:193 load
      refine QL.no rfl rfl ?_
      -- R13.13 64 := laws.go:193 binOp
      refine QL.no rfl rfl ?_
      -- R13.14 65 := laws.go:193 pick
      refine QL.v (fun w st => by first | exact r_pickT (v := .bool _) rfl rfl | exact r_pickF (v := .bool _) rfl rfl) rfl rfl rfl ?_
      refine QL.wl hKq fun w st => ?_
      refine WL.fin hK1069 (fun _ _ h => h) ?_
      refine WC.condF rfl rfl ?_
      refine WC.seq fun K1070 hK1070 => ?_
      -- region 15
      refine WC.region ?_
      -- R15.0 78 := laws.go:195 move
      refine WL.v (by first | exact r_move (v := .int _ _) rfl | exact r_move rfl) rfl rfl rfl ?_
      -- R15.1 79 := laws.go:195 binOp
      refine WL.v (by exact r_gtr rfl rfl (decide_eq_false (by simp))) rfl rfl rfl ?_
      refine WL.fin hK1070 (fun _ _ h => h) ?_
      refine WC.condF rfl rfl ?_
      refine WC.skipJ hKC (fun _ _ h => h) (_, X) ⟨by rw [hAW]; exact hsv, st.sublist (((List.Sublist.append_left (List.sublist_append_right _ _) _).cons_cons _).cons_cons _)⟩ (by repeat (first | exact sub_nil _ | refine sub_cons rfl rfl ?_))
    rw [hM] at hma hmrd hgm hAW hxlt hom
    have hml := mineL_len (keep := kp.bs) (tear := tear) (pend := R.pend) (s := s) (i := R.pend.length)
    rw [hM, List.length_cons] at hml
    have hlr : (x :: r).length = r.length + 1 := rfl
    rw [hlr] at hma hmrd hgm hom ⊢
    obtain rfl := hma (by omega)
    have hx := hxlt x List.mem_cons_self
    obtain rfl := hwa (by omega)
    obtain ⟨p, hp⟩ : ∃ p, R.pend[x]? = some p := ⟨_, List.getElem?_eq_getElem hx⟩
    have hpx : pdX R.pend x = p.2 := by unfold pdX; rw [List.getD_eq_getElem?_getD, hp]; rfl
    obtain ⟨_, hp1⟩ := hbk.wt x p hp
    have hgx : g r.length = .int .i64 (x : Nat) := by rw [hgm r.length (by omega), rev_last]
    have ldm : ∀ w, S0 w0 (bkI bw bm (.slice (some ⟨wb, wo, none⟩) R.pend.length wc) (.slice kp.a kp.bs.length kp.c) tear tb (.slice (some ⟨bb, 0, none⟩) (R.sec * 512) (R.sec * 512)) (R.sec : Nat) :: mpI bm NS :: (X ++ (XM ++ L))) w → w.cell? ⟨mb, 0 + r.length * 1, none⟩ = some (.int .i64 (x : Nat)) := fun w st => by
      rw [show 0 + r.length * 1 = r.length by omega, hmrd st (fun x hx => List.mem_cons_of_mem _ (List.mem_cons_of_mem _ (List.mem_append_right _ (List.mem_append_left _ hx)))) r.length (by omega), hgx]
    by_cases hxt : (x : Int) = tear
    rotate_left
    · rw [wantW_cons, if_neg hxt, hpx] at hAW
      obtain ⟨ga, gc, hgv⟩ := hp1.sl
      rw [hgv] at hp1
      refine WC.seq fun K1071 hK1071 => ?_
      -- region 12
      refine WC.region ?_
      -- R12.0 49 := laws.go:193 move
      refine WL.v (by first | exact r_move (v := .slice _ _ _) rfl | exact r_move rfl) rfl rfl rfl ?_
      -- R12.1 50 := laws.go:193 call
      refine WL.v (by exact r_len ty_usl61 rfl) rfl rfl rfl ?_
      -- R12.2 8 := laws.go:193 assign
      refine WL.v (by first | exact r_assign (v := .int _ _) rfl | exact r_assign rfl) rfl rfl rfl ?_
      refine WL.fin hK1071 (fun _ _ h => h) ?_
      refine WC.seq fun K1072 hK1072 => ?_
      -- region 13 (draws)
      refine WC.quietS st ty_mixed (by kernel_rfl) fun Kq hKq => ?_
      -- R13.0 51 := laws.go:193 move
      refine QL.v (fun w st => by first | exact r_move (v := .int _ _) rfl | exact r_move rfl) rfl rfl rfl ?_
      -- R13.1 52 := laws.go:193 binOp
      refine QL.v (fun w st => by exact r_gtr rfl rfl (decide_eq_true (by omega))) rfl rfl rfl ?_
      -- R13.2 53 := laws.go:193 move
      refine QL.v (fun w st => by first | exact r_move (v := .bool _) rfl | exact r_move rfl) rfl rfl rfl ?_
      -- R13.3 54 := laws.go:193 move
      refine QL.v (fun w st => by first | exact r_move (v := .slice _ _ _) rfl | exact r_move rfl) rfl rfl rfl ?_
      -- R13.4 55 := laws.go:193 move
      refine QL.v (fun w st => by first | exact r_move (v := .int _ _) rfl | exact r_move rfl) rfl rfl rfl ?_
      -- R13.5 56 := laws.go:193 binOp
      refine QL.v (fun w st => by exact r_sub (r := ((r.length : Nat) : Int)) rfl rfl ((wi64 (by omega) (by omega)).trans (by omega))) rfl rfl rfl ?_
      -- R13.6 57 := laws.go:193 indexAddr
      refine QL.v (fun w st => by exact r_indexS (j := r.length) ty_sl61 rfl rfl rfl (by omega)) rfl rfl rfl ?_
      -- R13.7 58 := laws.go:193 load
      refine QL.v (fun w st => by exact r_load1 (v := .int .i64 (x : Nat)) ty_one3 rfl (ldm w st)) rfl rfl rfl ?_
      -- R13.8 59 := laws.go:193 move
      refine QL.v (fun w st => by first | exact r_move (v := .pointer _) rfl | exact r_move rfl) rfl rfl rfl ?_
      -- R13.9 60 := laws.go:193 nilCheck
      refine QL.v (fun w st => by exact r_nilCheck rfl) rfl rfl rfl ?_
      -- R13.10 61 := laws.go:193 fieldAddr
      refine QL.v (fun w st => by exact r_field ty_fld60_2 rfl) rfl rfl rfl ?_
      -- R13.11 62 := laws.go:193 fieldAddr
      refine QL.v (fun w st => by exact r_field ty_fld31_1 rfl) rfl rfl rfl ?_
      -- R13.12 63 := laws.go:193 load
      refine QL.v (fun w st => by exact r_load1 ty_one2 rfl (by first | assumption | exact st.c0 (by first | decide | omega) | exact st.c1 (by first | decide | omega) | exact st.c2 (by first | decide | omega) | exact st.c3 (by first | decide | omega) | exact st.c4 (by first | decide | omega) | exact st.c5 (by first | decide | omega) | exact st.c6 (by first | decide | omega) | exact st.c7 (by first | decide | omega) | exact st.c8 (by first | decide | omega))) rfl rfl rfl ?_
      -- R13.13 64 := laws.go:193 binOp
      refine QL.v (fun w st => by exact r_neq rfl rfl (decide_eq_true hxt)) rfl rfl rfl ?_
      -- R13.14 65 := laws.go:193 pick
      refine QL.v (fun w st => by first | exact r_pickT (v := .bool _) rfl rfl | exact r_pickF (v := .bool _) rfl rfl) rfl rfl rfl ?_
      refine QL.wl hKq fun w st => ?_
      refine WL.fin hK1072 (fun _ _ h => h) ?_
      refine WC.condT rfl rfl ?_
      -- region 14 (draws)
      refine WC.quietS st ty_mixed (by kernel_rfl) fun Kq hKq => ?_
      -- R14.0 66 := laws.go:194 move
      refine QL.v (fun w st => by first | exact r_move (v := .pointer _) rfl | exact r_move rfl) rfl rfl rfl ?_
      -- R14.1 67 := laws.go:194 nilCheck
      refine QL.v (fun w st => by exact r_nilCheck rfl) rfl rfl rfl ?_
      -- R14.2 68 := laws.go:194 fieldAddr
      refine QL.v (fun w st => by exact r_field ty_fld60_1 rfl) rfl rfl rfl ?_
      -- R14.3 69 := laws.go:194 load
      refine QL.v (fun w st => by exact r_load1 ty_one46 rfl (by first | assumption | exact st.c0 (by first | decide | omega) | exact st.c1 (by first | decide | omega) | exact st.c2 (by first | decide | omega) | exact st.c3 (by first | decide | omega) | exact st.c4 (by first | decide | omega) | exact st.c5 (by first | decide | omega) | exact st.c6 (by first | decide | omega) | exact st.c7 (by first | decide | omega) | exact st.c8 (by first | decide | omega))) rfl rfl rfl ?_
      -- R14.4 70 := laws.go:194 move
      refine QL.v (fun w st => by first | exact r_move (v := .slice _ _ _) rfl | exact r_move rfl) rfl rfl rfl ?_
      -- R14.5 71 := laws.go:194 move
      refine QL.v (fun w st => by first | exact r_move (v := .int _ _) rfl | exact r_move rfl) rfl rfl rfl ?_
      -- R14.6 72 := laws.go:194 binOp
      refine QL.v (fun w st => by exact r_sub (r := ((r.length : Nat) : Int)) rfl rfl ((wi64 (by omega) (by omega)).trans (by omega))) rfl rfl rfl ?_
      -- R14.7 73 := laws.go:194 indexAddr
      refine QL.v (fun w st => by exact r_indexS (j := r.length) ty_sl61 rfl rfl rfl (by omega)) rfl rfl rfl ?_
      -- R14.8 74 := laws.go:194 load
      refine QL.v (fun w st => by exact r_load1 (v := .int .i64 (x : Nat)) ty_one3 rfl (ldm w st)) rfl rfl rfl ?_
      -- R14.9 75 := laws.go:194 indexAddr
      refine QL.v (fun w st => by exact r_indexS (j := x) ty_sl46 rfl rfl rfl hx) rfl rfl rfl ?_
      -- R14.10 76 := laws.go:194 fieldAddr
      refine QL.v (fun w st => by exact r_field ty_fld63_1 rfl) rfl rfl rfl ?_
      -- R14.11 77 := laws.go:194 load
      refine QL.v (fun w st => by exact r_load1 (v := .slice ga (bytesOf 512 p.2).length gc) ty_one29 rfl (by rw [show wo + x * 2 + 1 = wo + (x * 2 + 1) by omega, hwrd st (fun x hx => List.mem_cons_of_mem _ (List.mem_cons_of_mem _ (List.mem_append_right _ (List.mem_append_right _ (hXW hx))))) (x * 2 + 1) (by omega), hgv])) rfl rfl rfl ?_
      -- R14.12 7 := laws.go:194 assign
      refine QL.v (fun w st => by first | exact r_assign (v := .slice _ _ _) rfl | exact r_assign rfl) rfl rfl rfl ?_
      refine QL.wl hKq fun w st => ?_
      refine WL.join hKC (fun _ _ h => h) (_, []) ⟨by rw [hAW]; exact hp1, st.sublist ((((List.sublist_append_right _ _).trans (List.sublist_append_right _ _)).cons_cons _).cons_cons _)⟩ (by repeat (first | exact sub_nil _ | refine sub_cons rfl rfl ?_))
    rw [wantW_cons, if_pos hxt, hpx] at hAW
    have hk5 := kOf_le tb
    obtain ⟨s0, hs0v, hs0b, hs0o, hs0r⟩ := hp1
    have hs0l : s0.bs.length = 512 := by rw [hs0b, bytesOf_len]
    have hs0c := hs0o.le
    refine WC.seq fun K1073 hK1073 => ?_
    -- region 12
    refine WC.region ?_
    -- R12.0 49 := laws.go:193 move
    refine WL.v (by first | exact r_move (v := .slice _ _ _) rfl | exact r_move rfl) rfl rfl rfl ?_
    -- R12.1 50 := laws.go:193 call
    refine WL.v (by exact r_len ty_usl61 rfl) rfl rfl rfl ?_
    -- R12.2 8 := laws.go:193 assign
    refine WL.v (by first | exact r_assign (v := .int _ _) rfl | exact r_assign rfl) rfl rfl rfl ?_
    refine WL.fin hK1073 (fun _ _ h => h) ?_
    refine WC.seq fun K1074 hK1074 => ?_
    -- region 13 (draws)
    refine WC.quietS st ty_mixed (by kernel_rfl) fun Kq hKq => ?_
    -- R13.0 51 := laws.go:193 move
    refine QL.v (fun w st => by first | exact r_move (v := .int _ _) rfl | exact r_move rfl) rfl rfl rfl ?_
    -- R13.1 52 := laws.go:193 binOp
    refine QL.v (fun w st => by exact r_gtr rfl rfl (decide_eq_true (by omega))) rfl rfl rfl ?_
    -- R13.2 53 := laws.go:193 move
    refine QL.v (fun w st => by first | exact r_move (v := .bool _) rfl | exact r_move rfl) rfl rfl rfl ?_
    -- R13.3 54 := laws.go:193 move
    refine QL.v (fun w st => by first | exact r_move (v := .slice _ _ _) rfl | exact r_move rfl) rfl rfl rfl ?_
    -- R13.4 55 := laws.go:193 move
    refine QL.v (fun w st => by first | exact r_move (v := .int _ _) rfl | exact r_move rfl) rfl rfl rfl ?_
    -- R13.5 56 := laws.go:193 binOp
    refine QL.v (fun w st => by exact r_sub (r := ((r.length : Nat) : Int)) rfl rfl ((wi64 (by omega) (by omega)).trans (by omega))) rfl rfl rfl ?_
    -- R13.6 57 := laws.go:193 indexAddr
    refine QL.v (fun w st => by exact r_indexS (j := r.length) ty_sl61 rfl rfl rfl (by omega)) rfl rfl rfl ?_
    -- R13.7 58 := laws.go:193 load
    refine QL.v (fun w st => by exact r_load1 (v := .int .i64 (x : Nat)) ty_one3 rfl (ldm w st)) rfl rfl rfl ?_
    -- R13.8 59 := laws.go:193 move
    refine QL.v (fun w st => by first | exact r_move (v := .pointer _) rfl | exact r_move rfl) rfl rfl rfl ?_
    -- R13.9 60 := laws.go:193 nilCheck
    refine QL.v (fun w st => by exact r_nilCheck rfl) rfl rfl rfl ?_
    -- R13.10 61 := laws.go:193 fieldAddr
    refine QL.v (fun w st => by exact r_field ty_fld60_2 rfl) rfl rfl rfl ?_
    -- R13.11 62 := laws.go:193 fieldAddr
    refine QL.v (fun w st => by exact r_field ty_fld31_1 rfl) rfl rfl rfl ?_
    -- R13.12 63 := laws.go:193 load
    refine QL.v (fun w st => by exact r_load1 ty_one2 rfl (by first | assumption | exact st.c0 (by first | decide | omega) | exact st.c1 (by first | decide | omega) | exact st.c2 (by first | decide | omega) | exact st.c3 (by first | decide | omega) | exact st.c4 (by first | decide | omega) | exact st.c5 (by first | decide | omega) | exact st.c6 (by first | decide | omega) | exact st.c7 (by first | decide | omega) | exact st.c8 (by first | decide | omega))) rfl rfl rfl ?_
    -- R13.13 64 := laws.go:193 binOp
    refine QL.v (fun w st => by exact r_neq rfl rfl (decide_eq_false (by omega))) rfl rfl rfl ?_
    -- R13.14 65 := laws.go:193 pick
    refine QL.v (fun w st => by first | exact r_pickT (v := .bool _) rfl rfl | exact r_pickF (v := .bool _) rfl rfl) rfl rfl rfl ?_
    refine QL.wl hKq fun w st => ?_
    refine WL.fin hK1074 (fun _ _ h => h) ?_
    refine WC.condF rfl rfl ?_
    refine WC.seq fun K1075 hK1075 => ?_
    -- region 15
    refine WC.region ?_
    -- R15.0 78 := laws.go:195 move
    refine WL.v (by first | exact r_move (v := .int _ _) rfl | exact r_move rfl) rfl rfl rfl ?_
    -- R15.1 79 := laws.go:195 binOp
    refine WL.v (by exact r_gtr rfl rfl (decide_eq_true (by omega))) rfl rfl rfl ?_
    refine WL.fin hK1075 (fun _ _ h => h) ?_
    refine WC.condT rfl rfl ?_
    refine WC.seq fun K1076 hK1076 => ?_
    -- region 16
    refine WC.region ?_
    -- R16.0 80 := laws.go:196 move
    refine WL.v (by first | exact r_move (v := .pointer _) rfl | exact r_move rfl) rfl rfl rfl ?_
    -- R16.1 81 := laws.go:196 move
    refine WL.v (by first | exact r_move (v := .int _ _) rfl | exact r_move rfl) rfl rfl rfl ?_
    -- R16.2 82 := laws.go:196 call
    refine WL.call (r_call ty_call30 rfl) rfl rfl rfl (before_ok hbk hsl hs2 st) ?_
    rintro v82 w ⟨X2, hsv2, st⟩
    obtain ⟨va2, vc2, rfl⟩ := hsv2.sl
    have st : S0 w0 (bkI bw bm (.slice (some ⟨wb, wo, none⟩) R.pend.length wc) (.slice kp.a kp.bs.length kp.c) tear tb (.slice (some ⟨bb, 0, none⟩) (R.sec * 512) (R.sec * 512)) (R.sec : Nat) :: mpI bm NS :: (X2 ++ (X ++ (XM ++ L)))) w := st.perm (List.perm_append_comm_assoc X2 [_, _] _)
    -- R16.3 9 := laws.go:196 assign
    refine WL.v (by first | exact r_assign (v := .slice _ _ _) rfl | exact r_assign rfl) rfl rfl rfl ?_
    refine WL.fin hK1076 (fun _ _ h => h) ?_
    have hsubK : ∀ x, x ∈ X2 ++ K → x ∈ bkI bw bm (.slice (some ⟨wb, wo, none⟩) R.pend.length wc) (.slice kp.a kp.bs.length kp.c) tear tb (.slice (some ⟨bb, 0, none⟩) (R.sec * 512) (R.sec * 512)) (R.sec : Nat) :: mpI bm NS :: (X2 ++ (X ++ (XM ++ L))) := fun x hx => by
      rcases List.mem_append.1 hx with hx | hx
      · exact List.mem_cons_of_mem _ (List.mem_cons_of_mem _ (List.mem_append_left _ hx))
      · exact List.mem_cons_of_mem _ (List.mem_cons_of_mem _ (List.mem_append_right _ (List.mem_append_right _ (List.mem_append_right _ (hKL hx)))))
    refine WC.cut (ι := SV) (fun z => [(0, .pointer (some ⟨bw, 0, none⟩)), (3, .int .i64 (s : Nat)), (4, .slice (some ⟨mb, 0, none⟩) (r.length + 1) mc), (8, .int .i64 ((r.length + 1 : Nat) : Int)), (9, .slice z.a z.bs.length z.c)])
      (fun z w' => z.bs = bytesOf 512 (underW (R.pc s) R.pend r) ∧ z.ok ∧ (∀ l w', X2 ++ K ⊆ l → S0 w0 l w' → z.rd w') ∧ S0 w0 (bkI bw bm (.slice (some ⟨wb, wo, none⟩) R.pend.length wc) (.slice kp.a kp.bs.length kp.c) tear tb (.slice (some ⟨bb, 0, none⟩) (R.sec * 512) (R.sec * 512)) (R.sec : Nat) :: mpI bm NS :: (X2 ++ (X ++ (XM ++ L)))) w') ?_ ?_
    rotate_left
    · intro KD hKD
      rcases r with _ | ⟨y, r'⟩
      · obtain ⟨s1, h1v, h1b, h1o, h1r⟩ := hsv2
        have e1 : Value.slice s1.a s1.bs.length s1.c = .slice va2 (bytesOf 512 (R.pc s)).length vc2 := h1v
        rw [← e1]
        refine WC.seq fun K1077 hK1077 => ?_
        -- region 17
        refine WC.region ?_
        -- R17.0 83 := laws.go:197 move
        refine WL.v (by first | exact r_move (v := .int _ _) rfl | exact r_move rfl) rfl rfl rfl ?_
        -- R17.1 84 := laws.go:197 binOp
        refine WL.v (by exact r_gtr rfl rfl (decide_eq_false (by simp))) rfl rfl rfl ?_
        refine WL.fin hK1077 (fun _ _ h => h) ?_
        refine WC.condF rfl rfl ?_
        refine WC.skipJ hKD (fun _ _ h => h) s1 ⟨h1b, h1o, h1r, st⟩ (by repeat (first | exact sub_nil _ | refine sub_cons rfl rfl ?_))
      · have hy := hxlt y (List.mem_cons_of_mem _ List.mem_cons_self)
        obtain ⟨p2, hp2⟩ : ∃ p2, R.pend[y]? = some p2 := ⟨_, List.getElem?_eq_getElem hy⟩
        have hpy : pdX R.pend y = p2.2 := by unfold pdX; rw [List.getD_eq_getElem?_getD, hp2]; rfl
        obtain ⟨_, hp21⟩ := hbk.wt y p2 hp2
        obtain ⟨s1, h1v, h1b, h1o, h1r⟩ := hp21
        have hlr2 : (y :: r').length = r'.length + 1 := rfl
        have hgy : g r'.length = .int .i64 (y : Nat) := by rw [hgm r'.length (by omega), rev_last2]
        refine WC.seq fun K1078 hK1078 => ?_
        -- region 17
        refine WC.region ?_
        -- R17.0 83 := laws.go:197 move
        refine WL.v (by first | exact r_move (v := .int _ _) rfl | exact r_move rfl) rfl rfl rfl ?_
        -- R17.1 84 := laws.go:197 binOp
        refine WL.v (by exact r_gtr rfl rfl (decide_eq_true (by omega))) rfl rfl rfl ?_
        refine WL.fin hK1078 (fun _ _ h => h) ?_
        refine WC.condT rfl rfl ?_
        -- region 18 (draws)
        refine WC.quietS st ty_mixed (by kernel_rfl) fun Kq hKq => ?_
        -- R18.0 85 := laws.go:198 move
        refine QL.v (fun w st => by first | exact r_move (v := .pointer _) rfl | exact r_move rfl) rfl rfl rfl ?_
        -- R18.1 86 := laws.go:198 nilCheck
        refine QL.v (fun w st => by exact r_nilCheck rfl) rfl rfl rfl ?_
        -- R18.2 87 := laws.go:198 fieldAddr
        refine QL.v (fun w st => by exact r_field ty_fld60_1 rfl) rfl rfl rfl ?_
        -- R18.3 88 := laws.go:198 load
        refine QL.v (fun w st => by exact r_load1 ty_one46 rfl (by first | assumption | exact st.c0 (by first | decide | omega) | exact st.c1 (by first | decide | omega) | exact st.c2 (by first | decide | omega) | exact st.c3 (by first | decide | omega) | exact st.c4 (by first | decide | omega) | exact st.c5 (by first | decide | omega) | exact st.c6 (by first | decide | omega) | exact st.c7 (by first | decide | omega) | exact st.c8 (by first | decide | omega))) rfl rfl rfl ?_
        -- R18.4 89 := laws.go:198 move
        refine QL.v (fun w st => by first | exact r_move (v := .slice _ _ _) rfl | exact r_move rfl) rfl rfl rfl ?_
        -- R18.5 90 := laws.go:198 move
        refine QL.v (fun w st => by first | exact r_move (v := .int _ _) rfl | exact r_move rfl) rfl rfl rfl ?_
        -- R18.6 91 := laws.go:198 binOp
        refine QL.v (fun w st => by exact r_sub (r := ((r'.length : Nat) : Int)) rfl rfl ((wi64 (by omega) (by omega)).trans (by omega))) rfl rfl rfl ?_
        -- R18.7 92 := laws.go:198 indexAddr
        refine QL.v (fun w st => by exact r_indexS (j := r'.length) ty_sl61 rfl rfl rfl (by omega)) rfl rfl rfl ?_
        -- R18.8 93 := laws.go:198 load
        refine QL.v (fun w st => by exact r_load1 (v := .int .i64 (y : Nat)) ty_one3 rfl (by rw [show 0 + r'.length * 1 = r'.length by omega, hmrd st (fun x hx => List.mem_cons_of_mem _ (List.mem_cons_of_mem _ (List.mem_append_right _ (List.mem_append_right _ (List.mem_append_left _ hx))))) r'.length (by omega), hgy])) rfl rfl rfl ?_
        -- R18.9 94 := laws.go:198 indexAddr
        refine QL.v (fun w st => by exact r_indexS (j := y) ty_sl46 rfl rfl rfl hy) rfl rfl rfl ?_
        -- R18.10 95 := laws.go:198 fieldAddr
        refine QL.v (fun w st => by exact r_field ty_fld63_1 rfl) rfl rfl rfl ?_
        -- R18.11 96 := laws.go:198 load
        refine QL.v (fun w st => by exact r_load1 (v := .slice s1.a s1.bs.length s1.c) ty_one29 rfl (by rw [show wo + y * 2 + 1 = wo + (y * 2 + 1) by omega, hwrd st (fun x hx => List.mem_cons_of_mem _ (List.mem_cons_of_mem _ (List.mem_append_right _ (List.mem_append_right _ (List.mem_append_right _ (hXW hx)))))) (y * 2 + 1) (by omega), ← h1v]; rfl)) rfl rfl rfl ?_
        -- R18.12 9 := laws.go:198 assign
        refine QL.v (fun w st => by first | exact r_assign (v := .slice _ _ _) rfl | exact r_assign rfl) rfl rfl rfl ?_
        refine QL.wl hKq fun w st => ?_
        refine WL.join hKD (fun _ _ h => h) s1 ⟨by rw [h1b]; show _ = bytesOf 512 (pdX R.pend y); rw [hpy], h1o, fun l w' hl st => h1r l w' (fun x hx => hl (List.mem_append_right _ hx)) st, st⟩ (by repeat (first | exact sub_nil _ | refine sub_cons rfl rfl ?_))
    rintro s1 w ⟨h1b, h1o, h1r, st⟩
    have h1l : s1.bs.length = 512 := by rw [h1b, bytesOf_len]
    have h1c := h1o.le
    have ekk : ((kOf tb : Nat) : Int) = if 512 < (if 0 > tb then 0 else tb) then 512 else (if 0 > tb then 0 else tb) := by
      unfold kOf
      by_cases q1 : tb < 0
      · have e : (if 0 > tb then (0 : Int) else tb) = 0 := if_pos q1
        rw [if_pos q1, e, if_neg (by decide)]; rfl
      · have e : (if 0 > tb then (0 : Int) else tb) = tb := if_neg q1
        rw [if_neg q1, e]
        by_cases q2 : 512 < tb
        · rw [if_pos q2, if_pos q2]; rfl
        · rw [if_neg q2, if_neg q2]; omega
    refine WC.seq fun K1079 hK1079 => ?_
    -- region 19
    refine WC.region ?_
    -- R19.0 97 := laws.go:200 move
    refine WL.v (by first | exact r_move (v := .pointer _) rfl | exact r_move rfl) rfl rfl rfl ?_
    -- R19.1 98 := laws.go:200 nilCheck
    refine WL.v (by exact r_nilCheck rfl) rfl rfl rfl ?_
    -- R19.2 99 := laws.go:200 fieldAddr
    refine WL.v (by exact r_field ty_fld60_2 rfl) rfl rfl rfl ?_
    -- R19.3 100 := laws.go:200 fieldAddr
    refine WL.v (by exact r_field ty_fld31_2 rfl) rfl rfl rfl ?_
    -- R19.4 101 := laws.go:200 load
    refine WL.v (by exact r_load1 ty_one2 rfl (by first | assumption | exact st.c0 (by first | decide | omega) | exact st.c1 (by first | decide | omega) | exact st.c2 (by first | decide | omega) | exact st.c3 (by first | decide | omega) | exact st.c4 (by first | decide | omega) | exact st.c5 (by first | decide | omega) | exact st.c6 (by first | decide | omega) | exact st.c7 (by first | decide | omega) | exact st.c8 (by first | decide | omega))) rfl rfl rfl ?_
    -- R19.5 102 := laws.go:200 call
    refine WL.v (by exact r_max (r := if 0 > tb then 0 else tb) rfl rfl rfl) rfl rfl rfl ?_
    -- R19.6 103 := laws.go:200 call
    refine WL.v (by exact r_min (r := ((kOf tb : Nat) : Int)) rfl rfl ekk.symm) rfl rfl rfl ?_
    -- R19.7 10 := laws.go:200 assign
    refine WL.v (by first | exact r_assign (v := .int _ _) rfl | exact r_assign rfl) rfl rfl rfl ?_
    refine WL.fin hK1079 (fun _ _ h => h) ?_
    -- region 20 (draws)
    refine WC.mixLS [19] [(0, true), (1, true), (2, true), (3, true), (4, true), (5, true), (6, true), (7, true), (8, true), (9, true), (10, true), (11, true), (12, true), (13, true), (15, true), (16, true), (17, true), (14, false), (18, false), (19, false)] st (st) ty_mixed (by kernel_rfl) fun w st => ?_
    -- R20.0 104 := laws.go:201 move
    refine MLL.v (fun w st => by first | exact r_move (v := .pointer _) rfl | exact r_move rfl) rfl rfl rfl ?_
    -- R20.1 105 := laws.go:201 nilCheck
    refine MLL.v (fun w st => by exact r_nilCheck rfl) rfl rfl rfl ?_
    -- R20.2 106 := laws.go:201 fieldAddr
    refine MLL.v (fun w st => by exact r_field ty_fld60_1 rfl) rfl rfl rfl ?_
    -- R20.3 107 := laws.go:201 load
    refine MLL.v (fun w st => by exact r_load1 ty_one46 rfl (by first | assumption | exact st.c0 (by first | decide | omega) | exact st.c1 (by first | decide | omega) | exact st.c2 (by first | decide | omega) | exact st.c3 (by first | decide | omega) | exact st.c4 (by first | decide | omega) | exact st.c5 (by first | decide | omega) | exact st.c6 (by first | decide | omega) | exact st.c7 (by first | decide | omega) | exact st.c8 (by first | decide | omega))) rfl rfl rfl ?_
    -- R20.4 108 := laws.go:201 move
    refine MLL.v (fun w st => by first | exact r_move (v := .slice _ _ _) rfl | exact r_move rfl) rfl rfl rfl ?_
    -- R20.5 109 := laws.go:201 move
    refine MLL.v (fun w st => by first | exact r_move (v := .int _ _) rfl | exact r_move rfl) rfl rfl rfl ?_
    -- R20.6 110 := laws.go:201 binOp
    refine MLL.v (fun w st => by exact r_sub (r := ((r.length : Nat) : Int)) rfl rfl ((wi64 (by omega) (by omega)).trans (by omega))) rfl rfl rfl ?_
    -- R20.7 111 := laws.go:201 indexAddr
    refine MLL.v (fun w st => by exact r_indexS (j := r.length) ty_sl61 rfl rfl rfl (by omega)) rfl rfl rfl ?_
    -- R20.8 112 := laws.go:201 load
    refine MLL.v (fun w st => by exact r_load1 (v := .int .i64 (x : Nat)) ty_one3 rfl (by rw [show 0 + r.length * 1 = r.length by omega, hmrd st (fun x hx => List.mem_cons_of_mem _ (List.mem_cons_of_mem _ (List.mem_append_right _ (List.mem_append_right _ (List.mem_append_left _ hx))))) r.length (by omega), hgx])) rfl rfl rfl ?_
    -- R20.9 113 := laws.go:201 indexAddr
    refine MLL.v (fun w st => by exact r_indexS (j := x) ty_sl46 rfl rfl rfl hx) rfl rfl rfl ?_
    -- R20.10 114 := laws.go:201 fieldAddr
    refine MLL.v (fun w st => by exact r_field ty_fld63_1 rfl) rfl rfl rfl ?_
    -- R20.11 115 := laws.go:201 load
    refine MLL.v (fun w st => by exact r_load1 (v := .slice s0.a s0.bs.length s0.c) ty_one29 rfl (by rw [show wo + x * 2 + 1 = wo + (x * 2 + 1) by omega, hwrd st (fun x hx => List.mem_cons_of_mem _ (List.mem_cons_of_mem _ (List.mem_append_right _ (List.mem_append_right _ (List.mem_append_right _ (hXW hx)))))) (x * 2 + 1) (by omega), ← hs0v]; rfl)) rfl rfl rfl ?_
    -- R20.12 116 := laws.go:201 move
    refine MLL.v (fun w st => by first | exact r_move (v := .int _ _) rfl | exact r_move rfl) rfl rfl rfl ?_
    -- R20.13 117 := laws.go:201 slice
    refine MLL.v (fun w st => by exact r_slV s0 (l := 0) (h := kOf tb) (m := s0.c) ty_sl29 rfl rfl ⟨_, rfl⟩ rfl (fun h => by cases h) (Nat.zero_le _) (by omega) (Nat.le_refl _) (by omega)) rfl rfl rfl ?_
    -- R20.15 119 := laws.go:201 move
    refine MLL.v (fun w st => by first | exact r_move (v := .slice _ _ _) rfl | exact r_move rfl) rfl rfl rfl ?_
    -- R20.16 120 := laws.go:201 move
    refine MLL.v (fun w st => by first | exact r_move (v := .int _ _) rfl | exact r_move rfl) rfl rfl rfl ?_
    -- R20.17 121 := laws.go:201 slice
    refine MLL.v (fun w st => by exact r_slV s1 (l := kOf tb) (h := s1.bs.length) (m := s1.c) ty_sl29 rfl ⟨_, rfl⟩ rfl rfl (fun _ => rfl) (by omega) (by omega) (Nat.le_refl _) (Nat.le_refl _)) rfl rfl rfl ?_
    refine MLL.at ?_
    -- R20.14 118 := laws.go:201 call
    refine WL.appW (s := s0.sub 0 (kOf tb) s0.c) (BR.nil 5) (SV.sub_ok hs0o (Nat.zero_le _) (by omega) (by omega) (Nat.le_refl _)) (SV.sub_rd (hs0r _ _ (fun x hx => hsubK x (List.mem_append_right _ hx)) st) (by omega)) (by rw [List.nil_append]; exact st) ty_mk29 ty_sl29 ty_zero5 rfl rfl rfl (by rw [SV.sub_len (by omega)]; simp; omega) (by rw [SV.sub_len (by omega)]; simp; omega) rfl rfl rfl ?_
    intro vq Xq w hbq st
    refine MLL.nxt ((by first | exact st | exact st_dropL st)) ?_
    refine MLL.at ?_
    -- R20.18 122 := laws.go:201 call
    refine WL.appW (s := s1.sub (kOf tb) s1.bs.length s1.c) hbq (SV.sub_ok h1o (by omega) (Nat.le_refl _) (by omega) (Nat.le_refl _)) (SV.sub_rd (h1r _ _ (fun x hx => List.mem_append_right _ (hsubK x hx)) st) (Nat.le_refl _)) st ty_mk29 ty_sl29 ty_zero5 rfl rfl rfl (by rw [SV.sub_len (Nat.le_refl _), List.length_append, SV.sub_len (by omega)]; simp; omega) (by rw [SV.sub_len (Nat.le_refl _), List.length_append, SV.sub_len (by omega)]; simp; omega) rfl rfl rfl ?_
    intro vr Xr w hbr st
    refine MLL.nxt ((by first | exact st | exact st_dropL st)) ?_
    refine MLL.at ?_
    -- R20.19 7 := laws.go:201 assign
    refine WL.v (by first | exact r_assign (v := .slice _ _ _) rfl | exact r_assign rfl) rfl rfl rfl ?_
    refine MLL.nxt' rfl ?_
    refine MLL.wl ?_
    obtain ⟨sr, hrv, hrb, hro, hrr⟩ := hbr.bo.sv
    refine WL.join hKC (fun _ _ h => h) (vr, Xr) ⟨⟨sr, hrv, ?_, hro, fun l w' hl st => hrr st (fun x hx => hl (List.mem_append_left _ hx))⟩, ?_⟩ (by repeat (first | exact sub_nil _ | refine sub_cons rfl rfl ?_))
    · rw [hrb, hAW, tear_bytes hk5]
      show ([] ++ (s0.bs.take (kOf tb)).drop 0) ++ (s1.bs.take s1.bs.length).drop (kOf tb) = _
      rw [hs0b, h1l, h1b]
    · exact (st.perm (List.perm_append_comm_assoc Xr [_, _] _)).sublist (((List.Sublist.append_left ((List.sublist_append_right _ _).trans ((List.sublist_append_right _ _).trans (List.sublist_append_right _ _))) _).cons_cons _).cons_cons _)
  rintro ⟨v7, X7⟩ w ⟨hs7, st⟩
  dsimp only at hs7 st
  obtain ⟨a7, c7, rfl⟩ := hs7.sl
  refine WC.seq fun K1080 hK1080 => ?_
  -- region 21
  refine WC.region ?_
  -- R21.0 123 := laws.go:203 move
  refine WL.v (by first | exact r_move (v := .pointer _) rfl | exact r_move rfl) rfl rfl rfl ?_
  -- R21.1 124 := laws.go:203 nilCheck
  refine WL.v (by exact r_nilCheck rfl) rfl rfl rfl ?_
  -- R21.2 125 := laws.go:203 fieldAddr
  refine WL.v (by exact r_field ty_fld60_3 rfl) rfl rfl rfl ?_
  -- R21.3 126 := laws.go:203 load
  refine WL.v (by exact r_load1 ty_one29 rfl (by first | assumption | exact st.c0 (by first | decide | omega) | exact st.c1 (by first | decide | omega) | exact st.c2 (by first | decide | omega) | exact st.c3 (by first | decide | omega) | exact st.c4 (by first | decide | omega) | exact st.c5 (by first | decide | omega) | exact st.c6 (by first | decide | omega) | exact st.c7 (by first | decide | omega) | exact st.c8 (by first | decide | omega))) rfl rfl rfl ?_
  -- R21.4 127 := laws.go:203 move
  refine WL.v (by first | exact r_move (v := .int _ _) rfl | exact r_move rfl) rfl rfl rfl ?_
  -- R21.5 128 := laws.go:203 call
  refine WL.call (r_call ty_call23 rfl) rfl rfl rfl (cut_ok (s := s) (by omega) (Nat.le_refl _) (by omega) st) ?_
  rintro _ w ⟨rfl, st⟩
  rw [Nat.zero_add]
  -- R21.6 129 := laws.go:203 move
  refine WL.v (by first | exact r_move (v := .slice _ _ _) rfl | exact r_move rfl) rfl rfl rfl ?_
  -- R21.7 130 := laws.go:203 call
  refine WL.call (r_call ty_call22 rfl) rfl rfl rfl (equal_ok hgot hs7 (by intro x hx; simp only [List.mem_singleton] at hx; subst hx; exact List.mem_cons_of_mem _ (List.mem_cons_of_mem _ (List.mem_append_right _ hbb))) (by intro x hx; rcases List.mem_append.1 hx with hx | hx; exact List.mem_cons_of_mem _ (List.mem_cons_of_mem _ (List.mem_append_left _ hx)); exact List.mem_cons_of_mem _ (List.mem_cons_of_mem _ (List.mem_append_right _ (hKL hx)))) st) ?_
  rintro _ w ⟨r, rfl, hr, st⟩
  obtain rfl := hr rfl
  -- R21.8 131 := laws.go:203 unOp
  refine WL.v (by first | exact r_notT rfl | exact r_notF rfl | exact r_not rfl) rfl rfl rfl ?_
  refine WL.fin hK1080 (fun _ _ h => h) ?_
  refine WC.condF rfl rfl ?_
  refine WC.skipF hK1046 (fun _ _ h => h) ?_
  -- region 3
  refine WC.region ?_
  -- R3.0 17 := laws.go:185 move
  refine WL.v (by first | exact r_move (v := .int _ _) rfl | exact r_move rfl) rfl rfl rfl ?_
  -- R3.1 18 := laws.go:185 binOp
  refine WL.v (by exact r_add (r := ((s + 1 : Nat) : Int)) rfl rfl ((wi64 (by omega) (by omega)).trans (by omega))) rfl rfl rfl ?_
  -- R3.2 3 := laws.go:185 assign
  refine WL.v (by first | exact r_assign (v := .int _ _) rfl | exact r_assign rfl) rfl rfl rfl ?_
  refine WL.next hK1 (fun _ _ h => h) (s + 1) ⟨by omega, st.sublist (((List.sublist_append_right _ _).cons_cons _).cons_cons _)⟩ (by omega) (by repeat (first | exact sub_nil _ | refine sub_cons rfl rfl ?_))
set_option maxHeartbeats 64000000 in
theorem leaves_law (a : Option Addr) (sb so n c : Nat) (op : Nat → OP) {w : World} (hg : hG w) (hS : Scr w sb so n op) (hn63 : n ≤ 140737488355328) (ha : 0 < n → a = some ⟨sb, so, none⟩) :
    Calls Tryd.prog 5 #[.slice a n c] w (Ret fun v w' => v = .bool true ∧ S0 w [] w') := by
  have st0 := St.init w (fun _ => False)
  obtain ⟨w0, hw0⟩ : ∃ w0, w0 = w := ⟨w, rfl⟩
  have st : S0 w0 [] w := by rw [hw0]; exact st0
  clear st0
  have hg : hG w0 := by rw [hw0]; exact hg
  have hS : Scr w0 sb so n op := by rw [hw0]; exact hS
  have goal : Calls Tryd.prog 5 #[.slice a n c] w (Ret fun v w' => v = .bool true ∧ S0 w0 [] w') := by
    clear hw0
    refine enter [.slice a n c] Tryd.func5 rfl Tryd.ntmps5 rfl ?_
    show WC _ _ _ 8 [] [(0, .slice a n c)] _
    refine WC.seq fun K1081 hK1081 => ?_
    -- region 0
    refine WC.region ?_
    -- R0.0 2 := laws.go:179 assign
    refine WL.v (by first | exact r_assign (v := .bool _) rfl | exact r_assign rfl) rfl rfl rfl ?_
    refine WL.fin hK1081 (fun _ _ h => h) ?_
    refine WC.seq fun K1082 hK1082 => ?_
    refine WC.seq fun K1083 hK1083 => ?_
    -- region 1
    refine WC.region ?_
    -- R1.0 3 := laws.go:180 move
    refine WL.v (by first | exact r_move (v := .slice _ _ _) rfl | exact r_move rfl) rfl rfl rfl ?_
    -- R1.1 4 := laws.go:180 call
    refine WL.call (r_call ty_call10 rfl) rfl rfl rfl (zzSmall1_ok a sb so n c op hS hn63 ha st) ?_
    rintro _ w ⟨t, rfl, hsm, st⟩
    -- R1.2 5 := laws.go:180 unOp
    refine WL.v (by first | exact r_notT rfl | exact r_notF rfl | exact r_not rfl) rfl rfl rfl ?_
    refine WL.fin hK1083 (fun _ _ h => h) ?_
    rcases t with _ | _
    · skip
      refine WC.condT rfl rfl ?_
      refine WC.seq fun K1084 hK1084 => ?_
      -- region 2
      refine WC.region ?_
      -- R2.0 2 := laws.go:181 assign
      refine WL.v (by first | exact r_assign (v := .bool _) rfl | exact r_assign rfl) rfl rfl rfl ?_
      refine WL.fin hK1084 (fun _ _ h => h) ?_
      refine WC.ret1 Tryd.results5 (fun _ _ h => h) rfl ?_
      exact ⟨_, rfl, rfl, st⟩
    have hsm := hsm rfl
    have hnn := hsm.1
    refine WC.condF rfl rfl ?_
    refine WC.skipF hK1082 (fun _ _ h => h) ?_
    refine WC.seq fun K1085 hK1085 => ?_
    -- region 3
    refine WC.region ?_
    -- R3.0 6 := laws.go:184 move
    refine WL.v (by first | exact r_move (v := .slice _ _ _) rfl | exact r_move rfl) rfl rfl rfl ?_
    -- R3.1 7 := laws.go:184 call
    refine WL.call (r_call ty_call27 rfl) rfl rfl rfl (atEveryCrash_ok a sb so n c 28 op hg hS hsm ha ty_call28 lookL_ok st) ?_
    rintro _ w ⟨rfl, st⟩
    -- R3.2 2 := laws.go:184 assign
    refine WL.v (by first | exact r_assign (v := .bool _) rfl | exact r_assign rfl) rfl rfl rfl ?_
    refine WL.fin hK1085 (fun _ _ h => h) ?_
    refine WC.ret1 Tryd.results5 (fun _ _ h => h) rfl ?_
    exact ⟨_, rfl, rfl, st⟩
  rw [hw0] at goal
  exact goal
end Go.Proofs.Qxb6500837aDoor

