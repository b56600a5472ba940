import Derived.Test.Qxb6500834aGreatDoorK39
set_option linter.unusedVariables false
set_option linter.unusedSimpArgs false
set_option maxRecDepth 20000
namespace Go.Proofs.Qxb6500834aGreatDoor
open Go.RowKit Go.E1 Go.Kern
variable {w0 : World} {l X : List HI} {w : World} {s s' s0 : KS} {t r N n : Nat} {qv : Nat → Value}

/-! Reading a visible state. -/
theorem c_sT {b i j a : Nat} (hm : sI b s qv ∈ l) (hi : i < 16) (hj : j < 6) (ha : a = 3 + i * 6 + j) (st : S0 w0 l w) : w.cell? ⟨b, a, none⟩ = some (tsF (s.tk i) j) := by
  rw [st.cell hm (by omega), ha]
  unfold sF
  rw [if_neg (by omega), if_pos (by omega), show (3 + i * 6 + j - 3) / 6 = i by omega, show (3 + i * 6 + j - 3) % 6 = j by omega]
theorem c_sH {b i r a : Nat} (hm : sI b s qv ∈ l) (hi : i < 16) (hr : r < 20) (ha : a = 99 + i * 20 + r) (st : S0 w0 l w) : w.cell? ⟨b, a, none⟩ = some (.int .i64 (s.held i r : Nat)) := by
  rw [st.cell hm (by omega), ha]
  unfold sF hM
  rw [if_neg (by omega), if_neg (by omega), if_pos (by omega), show (99 + i * 20 + r - 99) / 20 = i by omega, show (99 + i * 20 + r - 99) % 20 = r by omega]
theorem c_sC {b i r a : Nat} (hm : sI b s qv ∈ l) (hi : i < 16) (hr : r < 20) (ha : a = 419 + i * 20 + r) (st : S0 w0 l w) : w.cell? ⟨b, a, none⟩ = some (.int .i64 (s.claim i r : Nat)) := by
  rw [st.cell hm (by omega), ha]
  unfold sF hM
  rw [if_neg (by omega), if_neg (by omega), if_neg (by omega), if_pos (by omega), show (419 + i * 20 + r - 419) / 20 = i by omega, show (419 + i * 20 + r - 419) % 20 = r by omega]
theorem c_sQ {b r a : Nat} (hm : sI b s qv ∈ l) (hr : r < 20) (ha : a = 739 + r) (st : S0 w0 l w) : w.cell? ⟨b, a, none⟩ = some (qv r) := by
  rw [st.cell hm (by omega), ha]
  unfold sF
  rw [if_neg (by omega), if_neg (by omega), if_neg (by omega), if_neg (by omega), if_pos (by omega), show 739 + r - 739 = r by omega]
theorem EpA_at : ∀ {L : List (Nat × Nat × Nat)} {want : Nat → Nat}, EpA want L → ∀ (k : Nat) (a : Nat × Nat × Nat), L[k]? = some a → a.1 < 16 ∧ a.2.1 = (L.take k).foldl wF want a.1
  | [], want, _, k, a, h => by simp at h
  | b :: L, want, hE, 0, a, h => by simp at h; subst h; exact hE.1
  | b :: L, want, hE, k + 1, a, h => EpA_at hE.2 k a (by simpa using h)
theorem exit_code {o : Kern.Op} (h9 : o.kind = 9) : ((stepP s o).2.1 = 0 ↔ callerP s (nameP o.A 16) = 0) := by
  have e : (stepP s o).2.1 = (exitP s (nameP o.A 16)).2 := by unfold stepP; rw [h9]; rfl
  rw [e]
  unfold exitP
  split
  · rename_i h; exact Iff.rfl
  · rename_i h; exact ⟨fun _ => Classical.not_not.1 h, fun _ => rfl⟩
theorem nameP_in {v m : Int} (h0 : 0 ≤ nameP v m) : v = nameP v m := by
  unfold nameP at *
  split at h0
  · omega
  · rename_i h; rw [if_neg h]
set_option maxHeartbeats 4000000 in
theorem epochs1_ok {o : Kern.Op} {bB bA : Nat} {qv' : Nat → Value} {code task : Int} {ov : Value} {XO : List HI} {ans : List (Nat × Nat × Nat)} (ho : OL0 ov ans XO) (hA : EpA (epF s) ans) (hx : ∀ t, t < 16 → epF s' t = if exitX s o = some t then inc64 (ans.foldl wF (epF s) t) else ans.foldl wF (epF s) t) (hcode : o.kind = 9 → (code = 0 ↔ callerP s (nameP o.A 16) = 0))
    (hB : sI bB s qv ∈ l) (hA' : sI bA s' qv' ∈ l) (hXO : XO ⊆ l) (st : S0 w0 l w) :
    Calls Tryz.prog 54 #[.agg (stepL o bB bA code task ov).toArray] w (Ret fun v w' => v = .bool true ∧ S0 w0 l w') := by
  obtain ⟨a, c, b, rfl, hc1, hc2, ha, hcell⟩ := ho.form
  obtain ⟨fs, hfs⟩ : ∃ fs : Nat → Value, fs = nth (stepL o bB bA code task (.slice a ans.length c)) := ⟨_, rfl⟩
  have f0 : fs 0 = .int .u8 (o.kind : Nat) := by rw [hfs]; rfl
  have f1 : fs 1 = .int .i64 o.A := by rw [hfs]; rfl
  have f5 : fs 5 = .pointer (some ⟨bB, 0, none⟩) := by rw [hfs]; rfl
  have f6 : fs 6 = .pointer (some ⟨bA, 0, none⟩) := by rw [hfs]; rfl
  have f7 : fs 7 = .int .i64 code := by rw [hfs]; rfl
  have f9 : fs 9 = .slice a ans.length c := by rw [hfs]; rfl
  refine enter [.agg (stepL o bB bA code task (.slice a ans.length c)).toArray] Tryz.func54 rfl Tryz.ntmps54 rfl ?_
  show WC _ _ _ 81 [] [(0, .agg (stepL o bB bA code task (.slice a ans.length c)).toArray)] _
  refine WC.seq fun K1397 hK1397 => ?_
  -- region 0
  refine WC.region ?_
  -- R0.0 1 := law.go:260 box
  refine WL.box (m := 10) (vs := stepL o bB bA code task (.slice a ans.length c)) st rfl rfl rfl rfl rfl rfl ?_
  intro b1 w st
  have st : S0 w0 ((b1, Row 36 10 fs) :: l) w := by rw [hfs]; exact st
  -- R0.1 2 := law.go:260 assign
  refine WL.v (by first | exact r_assign (v := .bool _) rfl | exact r_assign rfl) rfl rfl rfl ?_
  refine WL.fin hK1397 (fun _ _ h => h) ?_
  refine WC.seq fun K1398 hK1398 => ?_
  -- region 1
  refine WC.region ?_
  -- R1.0 8 := law.go:261 build
  refine WL.v (by exact r_buildN (n := 16) (z := fun _ => .int .u64 0) (v := fun _ => .int .u64 0) (ps := []) ty_pl81 ty_zeroN81 rfl fill_nil) rfl rfl rfl ?_
  -- R1.1 3 := law.go:261 alloc
  refine WL.allocN (m := 16) st ty_zeroN81 rfl rfl ?_
  intro b3 w st
  -- R1.2 None := law.go:261 store
  refine WL.storeN (v := fun _ => .int .u64 0) st ty_agg81 rfl rfl (fun _ _ => rfl) (by decide) rfl rfl ?_
  intro w st
  have st : S0 w0 ((b3, Row 81 16 (uF fun _ => 0)) :: (b1, Row 36 10 fs) :: l) w := stE (fun k hk => by rw [upds_eq]; split <;> rfl) st
  refine WL.fin hK1398 (fun _ _ h => h) ?_
  refine WC.seq fun K1399 hK1399 => ?_
  refine WC.seq fun K1400 hK1400 => ?_
  -- region 2
  refine WC.region ?_
  -- R2.0 9 := law.go:262 move
  refine WL.v (by first | exact r_move (v := .int _ _) rfl | exact r_move rfl) rfl rfl rfl ?_
  refine WL.fin hK1400 (fun _ _ h => h) ?_
  refine WC.block ?_
  refine WC.loop (ι := Nat × (Nat → Nat)) (fun y => [(1, .pointer (some ⟨b1, 0, none⟩)), (3, .pointer (some ⟨b3, 0, none⟩)), (9, .int .i64 (y.1 : Nat))])
    (fun y w' => y.1 ≤ 16 ∧ (∀ i, i < y.1 → y.2 i = epF s i) ∧ S0 w0 ((b3, Row 81 16 (uF y.2)) :: (b1, Row 36 10 fs) :: l) w') (fun y => 16 - y.1) (0, fun _ => 0) ⟨Nat.zero_le _, fun i hi => absurd hi (Nat.not_lt_zero _), st⟩ ?_ ?_
  · skip
    repeat (first | exact sub_nil _ | refine sub_cons rfl rfl ?_)
  clear st
  rintro ⟨i, F⟩ w ⟨hi, hF, st⟩ K1 hK1
  dsimp only at hi hF st ⊢
  by_cases h16 : i = 16
  rotate_left
  · have hi' : i < 16 := by omega
    refine WC.seq fun K1401 hK1401 => ?_
    -- region 3
    refine WC.region ?_
    -- R3.0 10 := law.go:262 binOp
    refine WL.v (by first | exact r_lss rfl rfl (decide_eq_true (by omega)) | exact r_lss rfl rfl (decide_eq_false (by omega)) | exact r_lss rfl rfl rfl) rfl rfl rfl ?_
    refine WL.fin hK1401 (fun _ _ h => h) ?_
    refine WC.seq fun K1402 hK1402 => ?_
    refine WC.condT rfl rfl ?_
    refine WC.skipF hK1402 (fun _ _ h => h) ?_
    refine WC.seq fun K1403 hK1403 => ?_
    refine WC.block ?_
    refine WC.seq fun K1404 hK1404 => ?_
    -- region 4
    refine WC.region ?_
    -- R4.0 11 := law.go:262 move
    refine WL.v (by first | exact r_move (v := .int _ _) rfl | exact r_move rfl) rfl rfl rfl ?_
    -- R4.1 4 := law.go:262 assign
    refine WL.v (by first | exact r_assign (v := .int _ _) rfl | exact r_assign rfl) rfl rfl rfl ?_
    refine WL.fin hK1404 (fun _ _ h => h) ?_
    -- region 5
    refine WC.region ?_
    -- R5.0 12 := law.go:263 move
    refine WL.v (by first | exact r_move (v := .int _ _) rfl | exact r_move rfl) rfl rfl rfl ?_
    -- R5.1 13 := law.go:263 fieldAddr
    refine WL.v (by exact r_field ty_fld36_1 rfl) rfl rfl rfl ?_
    -- R5.2 14 := law.go:263 load
    refine WL.v (by exact r_load1 (v := .pointer (some ⟨bB, 0, none⟩)) ty_one29 rfl (by rw [← f5]; exact st.c1 (by decide))) rfl rfl rfl ?_
    -- R5.3 15 := law.go:263 move
    refine WL.v (by first | exact r_move (v := .int _ _) rfl | exact r_move rfl) rfl rfl rfl ?_
    -- R5.4 16 := law.go:263 nilCheck
    refine WL.v (by exact r_nilCheck rfl) rfl rfl rfl ?_
    -- R5.5 17 := law.go:263 fieldAddr
    refine WL.v (by exact r_field ty_fld50_3 rfl) rfl rfl rfl ?_
    -- R5.6 18 := law.go:263 indexAddr
    refine WL.v (by exact r_indexA (j := i) ty_ar43 rfl rfl rfl hi') rfl rfl rfl ?_
    -- R5.7 19 := law.go:263 fieldAddr
    refine WL.v (by exact r_field ty_fld42_2 rfl) rfl rfl rfl ?_
    -- R5.8 20 := law.go:263 load
    refine WL.v (by exact r_load1 (v := .int .u64 (epF s i : Nat)) ty_one26 rfl (c_sT (List.mem_cons_of_mem _ (List.mem_cons_of_mem _ hB)) hi' (j := 2) (by decide) (by omega) st)) rfl rfl rfl ?_
    -- R5.9 21 := law.go:263 indexAddr
    refine WL.v (by exact r_indexA (j := i) ty_ar81 rfl rfl rfl hi') rfl rfl rfl ?_
    -- R5.10 None := law.go:263 store
    first | refine WL.store (v := .int _ _) st ty_one26 rfl rfl rfl (by first | decide | omega) rfl rfl ?_ | refine WL.store (v := _) st ty_one26 rfl rfl rfl (by first | decide | omega) rfl rfl ?_ | refine WL.store (v := .int _ _) st.front1 ty_one26 rfl rfl rfl (by first | decide | omega) rfl rfl ?_ | refine WL.store (v := _) st.front1 ty_one26 rfl rfl rfl (by first | decide | omega) rfl rfl ?_ | refine WL.store (v := .int _ _) st.front2 ty_one26 rfl rfl rfl (by first | decide | omega) rfl rfl ?_ | refine WL.store (v := _) st.front2 ty_one26 rfl rfl rfl (by first | decide | omega) rfl rfl ?_ | refine WL.store (v := .int _ _) st.front3 ty_one26 rfl rfl rfl (by first | decide | omega) rfl rfl ?_ | refine WL.store (v := _) st.front3 ty_one26 rfl rfl rfl (by first | decide | omega) rfl rfl ?_ | refine WL.store (v := .int _ _) st.front4 ty_one26 rfl rfl rfl (by first | decide | omega) rfl rfl ?_ | refine WL.store (v := _) st.front4 ty_one26 rfl rfl rfl (by first | decide | omega) rfl rfl ?_ | refine WL.store (v := .int _ _) st.front5 ty_one26 rfl rfl rfl (by first | decide | omega) rfl rfl ?_ | refine WL.store (v := _) st.front5 ty_one26 rfl rfl rfl (by first | decide | omega) rfl rfl ?_ | refine WL.store (v := .int _ _) st.front6 ty_one26 rfl rfl rfl (by first | decide | omega) rfl rfl ?_ | refine WL.store (v := _) st.front6 ty_one26 rfl rfl rfl (by first | decide | omega) rfl rfl ?_ | refine WL.store (v := .int _ _) st.front7 ty_one26 rfl rfl rfl (by first | decide | omega) rfl rfl ?_ | refine WL.store (v := _) st.front7 ty_one26 rfl rfl rfl (by first | decide | omega) rfl rfl ?_ | refine WL.store (v := .int _ _) st.front8 ty_one26 rfl rfl rfl (by first | decide | omega) rfl rfl ?_ | refine WL.store (v := _) st.front8 ty_one26 rfl rfl rfl (by first | decide | omega) rfl rfl ?_
    intro w st
    refine WL.fin hK1403 (fun _ _ h => h) ?_
    -- region 6
    refine WC.region ?_
    -- R6.0 22 := law.go:262 binOp
    refine WL.v (by first | exact r_add rfl rfl (wi64 (by omega) (by omega)) | exact r_add rfl rfl rfl) rfl rfl rfl ?_
    -- R6.1 9 := law.go:262 move
    refine WL.v (by first | exact r_move (v := .int _ _) rfl | exact r_move rfl) rfl rfl rfl ?_
    refine WL.next hK1 (fun _ _ h => h) (i + 1, updN F i (epF s i)) ⟨hi', fun j hj => by { have hj : j < i + 1 := hj; by_cases hji : j = i; · { subst hji; exact updN_same }; · { show updN F i _ j = _; rw [updN_ne hji]; exact hF j (by omega) } }, stE (uF_set (n := 16)) st⟩ (by show 16 - (i + 1) < 16 - i; omega) (by repeat (first | exact sub_nil _ | refine sub_cons rfl rfl ?_))
  subst h16
  have st : S0 w0 ((b3, Row 81 16 (uF (epF s))) :: (b1, Row 36 10 fs) :: l) w := stE (fun k hk => by unfold uF; rw [hF k hk]) st
  clear hF
  refine WC.seq fun K1405 hK1405 => ?_
  -- region 3
  refine WC.region ?_
  -- R3.0 10 := law.go:262 binOp
  refine WL.v (by first | exact r_lss rfl rfl (decide_eq_true (by omega)) | exact r_lss rfl rfl (decide_eq_false (by omega)) | exact r_lss rfl rfl rfl) rfl rfl rfl ?_
  refine WL.fin hK1405 (fun _ _ h => h) ?_
  refine WC.seq fun K1406 hK1406 => ?_
  refine WC.condF rfl rfl ?_
  refine WC.exitF hK1399 (fun _ _ h => h) ?_
  refine WC.seq fun K1407 hK1407 => ?_
  refine WC.seq fun K1408 hK1408 => ?_
  -- region 7
  refine WC.region ?_
  -- R7.0 23 := law.go:265 fieldAddr
  refine WL.v (by exact r_field ty_fld36_3 rfl) rfl rfl rfl ?_
  -- R7.1 24 := law.go:265 fieldAddr
  refine WL.v (by exact r_field ty_fld34_2 rfl) rfl rfl rfl ?_
  -- R7.2 25 := law.go:265 load
  refine WL.v (by exact r_load1 (v := .slice a ans.length c) ty_one32 rfl (by rw [← f9]; exact st.c1 (by decide))) rfl rfl rfl ?_
  -- R7.3 26 := law.go:265 call
  refine WL.v (by exact r_len ty_usl32 rfl) rfl rfl rfl ?_
  -- R7.4 27 := law.go:265 move
  refine WL.v (by first | exact r_move (v := .int _ _) rfl | exact r_move rfl) rfl rfl rfl ?_
  refine WL.fin hK1408 (fun _ _ h => h) ?_
  refine WC.block ?_
  refine WC.loop (ι := Nat) (fun k => [(1, .pointer (some ⟨b1, 0, none⟩)), (3, .pointer (some ⟨b3, 0, none⟩)), (25, .slice a ans.length c), (26, .int .i64 (ans.length : Nat)), (27, .int .i64 (k : Nat))])
    (fun k w' => k ≤ ans.length ∧ S0 w0 ((b3, Row 81 16 (uF ((ans.take k).foldl wF (epF s)))) :: (b1, Row 36 10 fs) :: l) w') (fun k => ans.length - k) 0 ⟨Nat.zero_le _, st⟩ ?_ ?_
  · skip
    repeat (first | exact sub_nil _ | refine sub_cons rfl rfl ?_)
  clear st
  rintro k w ⟨hk, st⟩ K2 hK2
  by_cases hkl : k = ans.length
  rotate_left
  · have hkl' : k < ans.length := by omega
    obtain ⟨e, he⟩ : ∃ e, ans[k]? = some e := ⟨ans[k], List.getElem?_eq_getElem hkl'⟩
    have hEa := EpA_at hA k e he
    have hfo := foldl_snoc (f := wF) (b := epF s) he
    obtain ⟨F, hF⟩ : ∃ F, F = (ans.take k).foldl wF (epF s) := ⟨_, rfl⟩
    rw [← hF] at hEa hfo st
    have hae := ha (by omega)
    have hce := fun j hj => hcell st (fun x hx => List.mem_cons_of_mem _ (List.mem_cons_of_mem _ (hXO hx))) k e he j hj
    by_cases h3 : e.2.2 = 3
    · have hw : wF F e = updN F e.1 (inc64 (F e.1)) := if_pos h3
      refine WC.seq fun K1409 hK1409 => ?_
      -- region 8
      refine WC.region ?_
      -- R8.0 28 := law.go:265 binOp
      refine WL.v (by first | exact r_lss rfl rfl (decide_eq_true (by omega)) | exact r_lss rfl rfl (decide_eq_false (by omega)) | exact r_lss rfl rfl rfl) rfl rfl rfl ?_
      refine WL.fin hK1409 (fun _ _ h => h) ?_
      refine WC.seq fun K1410 hK1410 => ?_
      refine WC.condT rfl rfl ?_
      refine WC.skipF hK1410 (fun _ _ h => h) ?_
      refine WC.seq fun K1411 hK1411 => ?_
      refine WC.block ?_
      refine WC.seq fun K1412 hK1412 => ?_
      -- region 9
      refine WC.region ?_
      -- R9.0 29 := law.go:265 indexAddr
      refine WL.v (by exact r_indexS (j := k) ty_sl32 (congrArg (fun q => Value.slice q ans.length c) hae) rfl rfl (by omega)) rfl rfl rfl ?_
      -- R9.1 30 := law.go:265 load
      refine WL.v (by exact r_loadL (vs := [.int .i64 (e.1 : Nat), .int .u64 (e.2.1 : Nat), .int .i64 (e.2.2 : Nat)]) ty_agg83 rfl ⟨by rw [Nat.zero_add]; exact hce 0 (by decide), by rw [Nat.zero_add]; exact hce 1 (by decide), by rw [Nat.zero_add]; exact hce 2 (by decide), trivial⟩) rfl rfl rfl ?_
      -- R9.2 6 := law.go:265 alloc
      refine WL.alloc (m := 3) st ty_zero83 rfl rfl rfl ?_
      intro b6 w st
      -- R9.3 None := law.go:265 store
      first | refine WL.storeW (vs := [_, _, _]) st ty_agg83 rfl rfl rfl rfl rfl rfl ?_ | refine WL.storeL (vs := [_, _, _]) st ty_agg83 rfl rfl rfl rfl (by first | decide | omega) rfl rfl ?_ | refine WL.storeW (vs := [_, _, _]) st.front1 ty_agg83 rfl rfl rfl rfl rfl rfl ?_ | refine WL.storeL (vs := [_, _, _]) st.front1 ty_agg83 rfl rfl rfl rfl (by first | decide | omega) rfl rfl ?_ | refine WL.storeW (vs := [_, _, _]) st.front2 ty_agg83 rfl rfl rfl rfl rfl rfl ?_ | refine WL.storeL (vs := [_, _, _]) st.front2 ty_agg83 rfl rfl rfl rfl (by first | decide | omega) rfl rfl ?_ | refine WL.storeW (vs := [_, _, _]) st.front3 ty_agg83 rfl rfl rfl rfl rfl rfl ?_ | refine WL.storeL (vs := [_, _, _]) st.front3 ty_agg83 rfl rfl rfl rfl (by first | decide | omega) rfl rfl ?_ | refine WL.storeW (vs := [_, _, _]) st.front4 ty_agg83 rfl rfl rfl rfl rfl rfl ?_ | refine WL.storeL (vs := [_, _, _]) st.front4 ty_agg83 rfl rfl rfl rfl (by first | decide | omega) rfl rfl ?_ | refine WL.storeW (vs := [_, _, _]) st.front5 ty_agg83 rfl rfl rfl rfl rfl rfl ?_ | refine WL.storeL (vs := [_, _, _]) st.front5 ty_agg83 rfl rfl rfl rfl (by first | decide | omega) rfl rfl ?_ | refine WL.storeW (vs := [_, _, _]) st.front6 ty_agg83 rfl rfl rfl rfl rfl rfl ?_ | refine WL.storeL (vs := [_, _, _]) st.front6 ty_agg83 rfl rfl rfl rfl (by first | decide | omega) rfl rfl ?_ | refine WL.storeW (vs := [_, _, _]) st.front7 ty_agg83 rfl rfl rfl rfl rfl rfl ?_ | refine WL.storeL (vs := [_, _, _]) st.front7 ty_agg83 rfl rfl rfl rfl (by first | decide | omega) rfl rfl ?_ | refine WL.storeW (vs := [_, _, _]) st.front8 ty_agg83 rfl rfl rfl rfl rfl rfl ?_ | refine WL.storeL (vs := [_, _, _]) st.front8 ty_agg83 rfl rfl rfl rfl (by first | decide | omega) rfl rfl ?_
      intro w st
      refine WL.fin hK1412 (fun _ _ h => h) ?_
      refine WC.seq fun K1413 hK1413 => ?_
      refine WC.seq fun K1414 hK1414 => ?_
      -- region 10 (draws)
      refine WC.quietS st ty_mixed (by kernel_rfl) fun Kq hKq => ?_
      -- R10.0 31 := law.go:266 fieldAddr
      refine QL.v (fun w st => by exact r_field ty_fld83_1 rfl) rfl rfl rfl ?_
      -- R10.1 32 := law.go:266 load
      refine QL.v (fun w st => by exact r_load1 ty_one26 rfl (by first | assumption | exact st.c0 (by first | decide | omega) | exact st.c1 (by first | decide | omega) | exact st.c2 (by first | decide | omega) | exact st.c3 (by first | decide | omega) | exact st.c4 (by first | decide | omega) | exact st.c5 (by first | decide | omega) | exact st.c6 (by first | decide | omega) | exact st.c7 (by first | decide | omega) | exact st.c8 (by first | decide | omega))) rfl rfl rfl ?_
      -- R10.2 33 := law.go:266 fieldAddr
      refine QL.v (fun w st => by exact r_field ty_fld83_0 rfl) rfl rfl rfl ?_
      -- R10.3 34 := law.go:266 load
      refine QL.v (fun w st => by exact r_load1 ty_one31 rfl (by first | assumption | exact st.c0 (by first | decide | omega) | exact st.c1 (by first | decide | omega) | exact st.c2 (by first | decide | omega) | exact st.c3 (by first | decide | omega) | exact st.c4 (by first | decide | omega) | exact st.c5 (by first | decide | omega) | exact st.c6 (by first | decide | omega) | exact st.c7 (by first | decide | omega) | exact st.c8 (by first | decide | omega))) rfl rfl rfl ?_
      -- R10.4 35 := law.go:266 indexAddr
      refine QL.v (fun w st => by exact r_indexA (j := e.1) ty_ar81 rfl rfl rfl hEa.1) rfl rfl rfl ?_
      -- R10.5 36 := law.go:266 load
      refine QL.v (fun w st => by exact r_load1 (v := .int .u64 (F e.1 : Nat)) ty_one26 rfl (c_uF (F := F) (List.mem_cons_of_mem _ List.mem_cons_self) hEa.1 st)) rfl rfl rfl ?_
      -- R10.6 37 := law.go:266 binOp
      refine QL.v (fun w st => by exact r_neq rfl rfl (decide_eq_false (by have := hEa.2; omega))) rfl rfl rfl ?_
      refine QL.wl hKq fun w st => ?_
      refine WL.fin hK1414 (fun _ _ h => h) ?_
      refine WC.condF rfl rfl ?_
      refine WC.skipF hK1413 (fun _ _ h => h) ?_
      refine WC.seq fun K1415 hK1415 => ?_
      -- region 12
      refine WC.region ?_
      -- R12.0 38 := law.go:269 fieldAddr
      refine WL.v (by exact r_field ty_fld83_2 rfl) rfl rfl rfl ?_
      -- R12.1 39 := law.go:269 load
      refine WL.v (by exact r_load1 ty_one30 rfl (by first | assumption | exact st.c0 (by first | decide | omega) | exact st.c1 (by first | decide | omega) | exact st.c2 (by first | decide | omega) | exact st.c3 (by first | decide | omega) | exact st.c4 (by first | decide | omega) | exact st.c5 (by first | decide | omega) | exact st.c6 (by first | decide | omega) | exact st.c7 (by first | decide | omega) | exact st.c8 (by first | decide | omega))) rfl rfl rfl ?_
      -- R12.2 40 := law.go:269 binOp
      refine WL.v (by first | exact r_eql rfl rfl (decide_eq_true (by omega)) | exact r_eql rfl rfl (decide_eq_false (by omega)) | exact r_eql rfl rfl rfl) rfl rfl rfl ?_
      refine WL.fin hK1415 (fun _ _ h => h) ?_
      refine WC.condT rfl rfl ?_
      -- region 13
      refine WC.region ?_
      -- R13.0 41 := law.go:270 fieldAddr
      refine WL.v (by exact r_field ty_fld83_0 rfl) rfl rfl rfl ?_
      -- R13.1 42 := law.go:270 load
      refine WL.v (by exact r_load1 ty_one31 rfl (by first | assumption | exact st.c0 (by first | decide | omega) | exact st.c1 (by first | decide | omega) | exact st.c2 (by first | decide | omega) | exact st.c3 (by first | decide | omega) | exact st.c4 (by first | decide | omega) | exact st.c5 (by first | decide | omega) | exact st.c6 (by first | decide | omega) | exact st.c7 (by first | decide | omega) | exact st.c8 (by first | decide | omega))) rfl rfl rfl ?_
      -- R13.2 43 := law.go:270 indexAddr
      refine WL.v (by exact r_indexA (j := e.1) ty_ar81 rfl rfl rfl hEa.1) rfl rfl rfl ?_
      -- R13.3 44 := law.go:270 load
      refine WL.v (by exact r_load1 (v := .int .u64 (F e.1 : Nat)) ty_one26 rfl (c_uF (F := F) (List.mem_cons_of_mem _ List.mem_cons_self) hEa.1 st)) rfl rfl rfl ?_
      -- R13.4 45 := law.go:270 binOp
      refine WL.v (by exact r_add (r := ((inc64 (F e.1) : Nat) : Int)) rfl rfl (by show (((F e.1) : Nat) + 1 : Int) % 18446744073709551616 = ((F e.1 + 1) % 18446744073709551616 : Nat); omega)) rfl rfl rfl ?_
      -- R13.5 46 := law.go:270 indexAddr
      refine WL.v (by exact r_indexA (j := e.1) ty_ar81 rfl rfl rfl hEa.1) rfl rfl rfl ?_
      -- R13.6 None := law.go:270 store
      first | refine WL.store (v := .int _ _) st ty_one26 rfl rfl rfl (by first | decide | omega) rfl rfl ?_ | refine WL.store (v := _) st ty_one26 rfl rfl rfl (by first | decide | omega) rfl rfl ?_ | refine WL.store (v := .int _ _) st.front1 ty_one26 rfl rfl rfl (by first | decide | omega) rfl rfl ?_ | refine WL.store (v := _) st.front1 ty_one26 rfl rfl rfl (by first | decide | omega) rfl rfl ?_ | refine WL.store (v := .int _ _) st.front2 ty_one26 rfl rfl rfl (by first | decide | omega) rfl rfl ?_ | refine WL.store (v := _) st.front2 ty_one26 rfl rfl rfl (by first | decide | omega) rfl rfl ?_ | refine WL.store (v := .int _ _) st.front3 ty_one26 rfl rfl rfl (by first | decide | omega) rfl rfl ?_ | refine WL.store (v := _) st.front3 ty_one26 rfl rfl rfl (by first | decide | omega) rfl rfl ?_ | refine WL.store (v := .int _ _) st.front4 ty_one26 rfl rfl rfl (by first | decide | omega) rfl rfl ?_ | refine WL.store (v := _) st.front4 ty_one26 rfl rfl rfl (by first | decide | omega) rfl rfl ?_ | refine WL.store (v := .int _ _) st.front5 ty_one26 rfl rfl rfl (by first | decide | omega) rfl rfl ?_ | refine WL.store (v := _) st.front5 ty_one26 rfl rfl rfl (by first | decide | omega) rfl rfl ?_ | refine WL.store (v := .int _ _) st.front6 ty_one26 rfl rfl rfl (by first | decide | omega) rfl rfl ?_ | refine WL.store (v := _) st.front6 ty_one26 rfl rfl rfl (by first | decide | omega) rfl rfl ?_ | refine WL.store (v := .int _ _) st.front7 ty_one26 rfl rfl rfl (by first | decide | omega) rfl rfl ?_ | refine WL.store (v := _) st.front7 ty_one26 rfl rfl rfl (by first | decide | omega) rfl rfl ?_ | refine WL.store (v := .int _ _) st.front8 ty_one26 rfl rfl rfl (by first | decide | omega) rfl rfl ?_ | refine WL.store (v := _) st.front8 ty_one26 rfl rfl rfl (by first | decide | omega) rfl rfl ?_
      intro w st
      refine WL.fin hK1411 (fun _ _ h => h) ?_
      -- region 14
      refine WC.region ?_
      -- R14.0 47 := law.go:265 binOp
      refine WL.v (by first | exact r_add rfl rfl (wi64 (by omega) (by omega)) | exact r_add rfl rfl rfl) rfl rfl rfl ?_
      -- R14.1 27 := law.go:265 move
      refine WL.v (by first | exact r_move (v := .int _ _) rfl | exact r_move rfl) rfl rfl rfl ?_
      refine WL.next hK2 (fun _ _ h => h) (k + 1) ⟨hkl', by rw [hfo, hw]; exact (stE (uF_set (n := 16)) st).drop1⟩ (by omega) (by repeat (first | exact sub_nil _ | refine sub_cons rfl rfl ?_))
    · have hw : wF F e = F := if_neg h3
      refine WC.seq fun K1416 hK1416 => ?_
      -- region 8
      refine WC.region ?_
      -- R8.0 28 := law.go:265 binOp
      refine WL.v (by first | exact r_lss rfl rfl (decide_eq_true (by omega)) | exact r_lss rfl rfl (decide_eq_false (by omega)) | exact r_lss rfl rfl rfl) rfl rfl rfl ?_
      refine WL.fin hK1416 (fun _ _ h => h) ?_
      refine WC.seq fun K1417 hK1417 => ?_
      refine WC.condT rfl rfl ?_
      refine WC.skipF hK1417 (fun _ _ h => h) ?_
      refine WC.seq fun K1418 hK1418 => ?_
      refine WC.block ?_
      refine WC.seq fun K1419 hK1419 => ?_
      -- region 9
      refine WC.region ?_
      -- R9.0 29 := law.go:265 indexAddr
      refine WL.v (by exact r_indexS (j := k) ty_sl32 (congrArg (fun q => Value.slice q ans.length c) hae) rfl rfl (by omega)) rfl rfl rfl ?_
      -- R9.1 30 := law.go:265 load
      refine WL.v (by exact r_loadL (vs := [.int .i64 (e.1 : Nat), .int .u64 (e.2.1 : Nat), .int .i64 (e.2.2 : Nat)]) ty_agg83 rfl ⟨by rw [Nat.zero_add]; exact hce 0 (by decide), by rw [Nat.zero_add]; exact hce 1 (by decide), by rw [Nat.zero_add]; exact hce 2 (by decide), trivial⟩) rfl rfl rfl ?_
      -- R9.2 6 := law.go:265 alloc
      refine WL.alloc (m := 3) st ty_zero83 rfl rfl rfl ?_
      intro b6 w st
      -- R9.3 None := law.go:265 store
      first | refine WL.storeW (vs := [_, _, _]) st ty_agg83 rfl rfl rfl rfl rfl rfl ?_ | refine WL.storeL (vs := [_, _, _]) st ty_agg83 rfl rfl rfl rfl (by first | decide | omega) rfl rfl ?_ | refine WL.storeW (vs := [_, _, _]) st.front1 ty_agg83 rfl rfl rfl rfl rfl rfl ?_ | refine WL.storeL (vs := [_, _, _]) st.front1 ty_agg83 rfl rfl rfl rfl (by first | decide | omega) rfl rfl ?_ | refine WL.storeW (vs := [_, _, _]) st.front2 ty_agg83 rfl rfl rfl rfl rfl rfl ?_ | refine WL.storeL (vs := [_, _, _]) st.front2 ty_agg83 rfl rfl rfl rfl (by first | decide | omega) rfl rfl ?_ | refine WL.storeW (vs := [_, _, _]) st.front3 ty_agg83 rfl rfl rfl rfl rfl rfl ?_ | refine WL.storeL (vs := [_, _, _]) st.front3 ty_agg83 rfl rfl rfl rfl (by first | decide | omega) rfl rfl ?_ | refine WL.storeW (vs := [_, _, _]) st.front4 ty_agg83 rfl rfl rfl rfl rfl rfl ?_ | refine WL.storeL (vs := [_, _, _]) st.front4 ty_agg83 rfl rfl rfl rfl (by first | decide | omega) rfl rfl ?_ | refine WL.storeW (vs := [_, _, _]) st.front5 ty_agg83 rfl rfl rfl rfl rfl rfl ?_ | refine WL.storeL (vs := [_, _, _]) st.front5 ty_agg83 rfl rfl rfl rfl (by first | decide | omega) rfl rfl ?_ | refine WL.storeW (vs := [_, _, _]) st.front6 ty_agg83 rfl rfl rfl rfl rfl rfl ?_ | refine WL.storeL (vs := [_, _, _]) st.front6 ty_agg83 rfl rfl rfl rfl (by first | decide | omega) rfl rfl ?_ | refine WL.storeW (vs := [_, _, _]) st.front7 ty_agg83 rfl rfl rfl rfl rfl rfl ?_ | refine WL.storeL (vs := [_, _, _]) st.front7 ty_agg83 rfl rfl rfl rfl (by first | decide | omega) rfl rfl ?_ | refine WL.storeW (vs := [_, _, _]) st.front8 ty_agg83 rfl rfl rfl rfl rfl rfl ?_ | refine WL.storeL (vs := [_, _, _]) st.front8 ty_agg83 rfl rfl rfl rfl (by first | decide | omega) rfl rfl ?_
      intro w st
      refine WL.fin hK1419 (fun _ _ h => h) ?_
      refine WC.seq fun K1420 hK1420 => ?_
      refine WC.seq fun K1421 hK1421 => ?_
      -- region 10 (draws)
      refine WC.quietS st ty_mixed (by kernel_rfl) fun Kq hKq => ?_
      -- R10.0 31 := law.go:266 fieldAddr
      refine QL.v (fun w st => by exact r_field ty_fld83_1 rfl) rfl rfl rfl ?_
      -- R10.1 32 := law.go:266 load
      refine QL.v (fun w st => by exact r_load1 ty_one26 rfl (by first | assumption | exact st.c0 (by first | decide | omega) | exact st.c1 (by first | decide | omega) | exact st.c2 (by first | decide | omega) | exact st.c3 (by first | decide | omega) | exact st.c4 (by first | decide | omega) | exact st.c5 (by first | decide | omega) | exact st.c6 (by first | decide | omega) | exact st.c7 (by first | decide | omega) | exact st.c8 (by first | decide | omega))) rfl rfl rfl ?_
      -- R10.2 33 := law.go:266 fieldAddr
      refine QL.v (fun w st => by exact r_field ty_fld83_0 rfl) rfl rfl rfl ?_
      -- R10.3 34 := law.go:266 load
      refine QL.v (fun w st => by exact r_load1 ty_one31 rfl (by first | assumption | exact st.c0 (by first | decide | omega) | exact st.c1 (by first | decide | omega) | exact st.c2 (by first | decide | omega) | exact st.c3 (by first | decide | omega) | exact st.c4 (by first | decide | omega) | exact st.c5 (by first | decide | omega) | exact st.c6 (by first | decide | omega) | exact st.c7 (by first | decide | omega) | exact st.c8 (by first | decide | omega))) rfl rfl rfl ?_
      -- R10.4 35 := law.go:266 indexAddr
      refine QL.v (fun w st => by exact r_indexA (j := e.1) ty_ar81 rfl rfl rfl hEa.1) rfl rfl rfl ?_
      -- R10.5 36 := law.go:266 load
      refine QL.v (fun w st => by exact r_load1 (v := .int .u64 (F e.1 : Nat)) ty_one26 rfl (c_uF (F := F) (List.mem_cons_of_mem _ List.mem_cons_self) hEa.1 st)) rfl rfl rfl ?_
      -- R10.6 37 := law.go:266 binOp
      refine QL.v (fun w st => by exact r_neq rfl rfl (decide_eq_false (by have := hEa.2; omega))) rfl rfl rfl ?_
      refine QL.wl hKq fun w st => ?_
      refine WL.fin hK1421 (fun _ _ h => h) ?_
      refine WC.condF rfl rfl ?_
      refine WC.skipF hK1420 (fun _ _ h => h) ?_
      refine WC.seq fun K1422 hK1422 => ?_
      -- region 12
      refine WC.region ?_
      -- R12.0 38 := law.go:269 fieldAddr
      refine WL.v (by exact r_field ty_fld83_2 rfl) rfl rfl rfl ?_
      -- R12.1 39 := law.go:269 load
      refine WL.v (by exact r_load1 ty_one30 rfl (by first | assumption | exact st.c0 (by first | decide | omega) | exact st.c1 (by first | decide | omega) | exact st.c2 (by first | decide | omega) | exact st.c3 (by first | decide | omega) | exact st.c4 (by first | decide | omega) | exact st.c5 (by first | decide | omega) | exact st.c6 (by first | decide | omega) | exact st.c7 (by first | decide | omega) | exact st.c8 (by first | decide | omega))) rfl rfl rfl ?_
      -- R12.2 40 := law.go:269 binOp
      refine WL.v (by first | exact r_eql rfl rfl (decide_eq_true (by omega)) | exact r_eql rfl rfl (decide_eq_false (by omega)) | exact r_eql rfl rfl rfl) rfl rfl rfl ?_
      refine WL.fin hK1422 (fun _ _ h => h) ?_
      refine WC.condF rfl rfl ?_
      refine WC.skipF hK1418 (fun _ _ h => h) ?_
      -- region 14
      refine WC.region ?_
      -- R14.0 47 := law.go:265 binOp
      refine WL.v (by first | exact r_add rfl rfl (wi64 (by omega) (by omega)) | exact r_add rfl rfl rfl) rfl rfl rfl ?_
      -- R14.1 27 := law.go:265 move
      refine WL.v (by first | exact r_move (v := .int _ _) rfl | exact r_move rfl) rfl rfl rfl ?_
      refine WL.next hK2 (fun _ _ h => h) (k + 1) ⟨hkl', by rw [hfo, hw]; exact st.drop⟩ (by omega) (by repeat (first | exact sub_nil _ | refine sub_cons rfl rfl ?_))
  subst hkl
  rw [List.take_length] at st
  obtain ⟨F, hF⟩ : ∃ F, F = ans.foldl wF (epF s) := ⟨_, rfl⟩
  rw [← hF] at hx st
  obtain ⟨W, hW⟩ : ∃ W : Nat → Nat, W = fun t => if exitX s o = some t then inc64 (F t) else F t := ⟨_, rfl⟩
  refine WC.seq fun K1423 hK1423 => ?_
  -- region 8
  refine WC.region ?_
  -- R8.0 28 := law.go:265 binOp
  refine WL.v (by first | exact r_lss rfl rfl (decide_eq_true (by omega)) | exact r_lss rfl rfl (decide_eq_false (by omega)) | exact r_lss rfl rfl rfl) rfl rfl rfl ?_
  refine WL.fin hK1423 (fun _ _ h => h) ?_
  refine WC.seq fun K1424 hK1424 => ?_
  refine WC.condF rfl rfl ?_
  refine WC.exitF hK1407 (fun _ _ h => h) ?_
  refine WC.cut (ι := Unit) (fun _ => [(1, .pointer (some ⟨b1, 0, none⟩)), (3, .pointer (some ⟨b3, 0, none⟩))]) (fun _ w' => S0 w0 ((b3, Row 81 16 (uF W)) :: (b1, Row 36 10 fs) :: l) w') ?_ ?_
  rotate_left
  · intro KC hKC
    by_cases h9 : o.kind = 9
    · by_cases hcd : code = 0
      · have hcal := (hcode h9).1 hcd
        have hcO := callerP_ok hcal
        have hAn := nameP_in hcO.1
        obtain ⟨t, ht⟩ : ∃ n : Nat, o.A = n := ⟨o.A.toNat, by omega⟩
        have ht16 : t < 16 := by omega
        have hX : exitX s o = some t := by unfold exitX; rw [if_pos ⟨h9, hcal⟩, ← hAn, ht, Int.toNat_natCast]
        have hWe : W = updN F t (inc64 (F t)) := by
          rw [hW]; funext a; unfold updN; rw [hX]
          by_cases e : a = t
          · rw [if_pos (by rw [e]), if_pos e, e]
          · rw [if_neg (fun k => e (Option.some.inj k).symm), if_neg e]
        refine WC.seq fun K1425 hK1425 => ?_
        -- region 15
        refine WC.region ?_
        -- R15.0 48 := law.go:273 fieldAddr
        refine WL.v (by exact r_field ty_fld36_0 rfl) rfl rfl rfl ?_
        -- R15.1 49 := law.go:273 fieldAddr
        refine WL.v (by exact r_field ty_fld28_0 rfl) rfl rfl rfl ?_
        -- R15.2 50 := law.go:273 load
        refine WL.v (by exact r_load1 (v := .int .u8 (o.kind : Nat)) ty_one25 rfl (by rw [← f0]; exact st.c1 (by decide))) rfl rfl rfl ?_
        -- R15.3 51 := law.go:273 binOp
        refine WL.v (by first | exact r_eql rfl rfl (decide_eq_true (by omega)) | exact r_eql rfl rfl (decide_eq_false (by omega)) | exact r_eql rfl rfl rfl) rfl rfl rfl ?_
        -- R15.4 52 := law.go:273 move
        refine WL.v (by first | exact r_move (v := .bool _) rfl | exact r_move rfl) rfl rfl rfl ?_
        -- R15.5 53 := law.go:273 fieldAddr
        refine WL.v (by exact r_field ty_fld36_3 rfl) rfl rfl rfl ?_
        -- R15.6 54 := law.go:273 fieldAddr
        refine WL.v (by exact r_field ty_fld34_0 rfl) rfl rfl rfl ?_
        -- R15.7 55 := law.go:273 load
        refine WL.v (by exact r_load1 (v := .int .i64 code) ty_one30 rfl (by rw [← f7]; exact st.c1 (by decide))) rfl rfl rfl ?_
        -- R15.8 56 := law.go:273 binOp
        refine WL.v (by first | exact r_eql rfl rfl (decide_eq_true (by omega)) | exact r_eql rfl rfl (decide_eq_false (by omega)) | exact r_eql rfl rfl rfl) rfl rfl rfl ?_
        -- R15.9 57 := law.go:273 pick
        refine WL.v (by first | exact r_pickT (v := .bool _) rfl rfl | exact r_pickF (v := .bool _) rfl rfl) rfl rfl rfl ?_
        refine WL.fin hK1425 (fun _ _ h => h) ?_
        refine WC.condT rfl rfl ?_
        -- region 16
        refine WC.region ?_
        -- R16.0 58 := law.go:274 fieldAddr
        refine WL.v (by exact r_field ty_fld36_0 rfl) rfl rfl rfl ?_
        -- R16.1 59 := law.go:274 fieldAddr
        refine WL.v (by exact r_field ty_fld28_1 rfl) rfl rfl rfl ?_
        -- R16.2 60 := law.go:274 load
        refine WL.v (by exact r_load1 (v := .int .i64 (t : Nat)) ty_one2 rfl (by rw [← ht, ← f1]; exact st.c1 (by decide))) rfl rfl rfl ?_
        -- R16.3 61 := law.go:274 indexAddr
        refine WL.v (by exact r_indexA (j := t) ty_ar81 rfl rfl rfl ht16) rfl rfl rfl ?_
        -- R16.4 62 := law.go:274 load
        refine WL.v (by exact r_load1 (v := .int .u64 (F t : Nat)) ty_one26 rfl (c_uF (F := F) List.mem_cons_self ht16 st)) rfl rfl rfl ?_
        -- R16.5 63 := law.go:274 binOp
        refine WL.v (by exact r_add (r := ((inc64 (F t) : Nat) : Int)) rfl rfl (by show (((F t) : Nat) + 1 : Int) % 18446744073709551616 = ((F t + 1) % 18446744073709551616 : Nat); omega)) rfl rfl rfl ?_
        -- R16.6 64 := law.go:274 indexAddr
        refine WL.v (by exact r_indexA (j := t) ty_ar81 rfl rfl rfl ht16) rfl rfl rfl ?_
        -- R16.7 None := law.go:274 store
        first | refine WL.store (v := .int _ _) st ty_one26 rfl rfl rfl (by first | decide | omega) rfl rfl ?_ | refine WL.store (v := _) st ty_one26 rfl rfl rfl (by first | decide | omega) rfl rfl ?_ | refine WL.store (v := .int _ _) st.front1 ty_one26 rfl rfl rfl (by first | decide | omega) rfl rfl ?_ | refine WL.store (v := _) st.front1 ty_one26 rfl rfl rfl (by first | decide | omega) rfl rfl ?_ | refine WL.store (v := .int _ _) st.front2 ty_one26 rfl rfl rfl (by first | decide | omega) rfl rfl ?_ | refine WL.store (v := _) st.front2 ty_one26 rfl rfl rfl (by first | decide | omega) rfl rfl ?_ | refine WL.store (v := .int _ _) st.front3 ty_one26 rfl rfl rfl (by first | decide | omega) rfl rfl ?_ | refine WL.store (v := _) st.front3 ty_one26 rfl rfl rfl (by first | decide | omega) rfl rfl ?_ | refine WL.store (v := .int _ _) st.front4 ty_one26 rfl rfl rfl (by first | decide | omega) rfl rfl ?_ | refine WL.store (v := _) st.front4 ty_one26 rfl rfl rfl (by first | decide | omega) rfl rfl ?_ | refine WL.store (v := .int _ _) st.front5 ty_one26 rfl rfl rfl (by first | decide | omega) rfl rfl ?_ | refine WL.store (v := _) st.front5 ty_one26 rfl rfl rfl (by first | decide | omega) rfl rfl ?_ | refine WL.store (v := .int _ _) st.front6 ty_one26 rfl rfl rfl (by first | decide | omega) rfl rfl ?_ | refine WL.store (v := _) st.front6 ty_one26 rfl rfl rfl (by first | decide | omega) rfl rfl ?_ | refine WL.store (v := .int _ _) st.front7 ty_one26 rfl rfl rfl (by first | decide | omega) rfl rfl ?_ | refine WL.store (v := _) st.front7 ty_one26 rfl rfl rfl (by first | decide | omega) rfl rfl ?_ | refine WL.store (v := .int _ _) st.front8 ty_one26 rfl rfl rfl (by first | decide | omega) rfl rfl ?_ | refine WL.store (v := _) st.front8 ty_one26 rfl rfl rfl (by first | decide | omega) rfl rfl ?_
        intro w st
        refine WL.join hKC (fun _ _ h => h) () (by rw [hWe]; exact stE (uF_set (n := 16)) st) (by repeat (first | exact sub_nil _ | refine sub_cons rfl rfl ?_))
      · have hX : exitX s o = none := if_neg (fun k => hcd ((hcode h9).2 k.2))
        have hWe : W = F := by rw [hW]; funext a; rw [hX]; exact if_neg (by simp)
        refine WC.seq fun K1426 hK1426 => ?_
        -- region 15
        refine WC.region ?_
        -- R15.0 48 := law.go:273 fieldAddr
        refine WL.v (by exact r_field ty_fld36_0 rfl) rfl rfl rfl ?_
        -- R15.1 49 := law.go:273 fieldAddr
        refine WL.v (by exact r_field ty_fld28_0 rfl) rfl rfl rfl ?_
        -- R15.2 50 := law.go:273 load
        refine WL.v (by exact r_load1 (v := .int .u8 (o.kind : Nat)) ty_one25 rfl (by rw [← f0]; exact st.c1 (by decide))) rfl rfl rfl ?_
        -- R15.3 51 := law.go:273 binOp
        refine WL.v (by first | exact r_eql rfl rfl (decide_eq_true (by omega)) | exact r_eql rfl rfl (decide_eq_false (by omega)) | exact r_eql rfl rfl rfl) rfl rfl rfl ?_
        -- R15.4 52 := law.go:273 move
        refine WL.v (by first | exact r_move (v := .bool _) rfl | exact r_move rfl) rfl rfl rfl ?_
        -- R15.5 53 := law.go:273 fieldAddr
        refine WL.v (by exact r_field ty_fld36_3 rfl) rfl rfl rfl ?_
        -- R15.6 54 := law.go:273 fieldAddr
        refine WL.v (by exact r_field ty_fld34_0 rfl) rfl rfl rfl ?_
        -- R15.7 55 := law.go:273 load
        refine WL.v (by exact r_load1 (v := .int .i64 code) ty_one30 rfl (by rw [← f7]; exact st.c1 (by decide))) rfl rfl rfl ?_
        -- R15.8 56 := law.go:273 binOp
        refine WL.v (by first | exact r_eql rfl rfl (decide_eq_true (by omega)) | exact r_eql rfl rfl (decide_eq_false (by omega)) | exact r_eql rfl rfl rfl) rfl rfl rfl ?_
        -- R15.9 57 := law.go:273 pick
        refine WL.v (by first | exact r_pickT (v := .bool _) rfl rfl | exact r_pickF (v := .bool _) rfl rfl) rfl rfl rfl ?_
        refine WL.fin hK1426 (fun _ _ h => h) ?_
        refine WC.condF rfl rfl ?_
        refine WC.skipJ hKC (fun _ _ h => h) () (by rw [hWe]; exact st) (by repeat (first | exact sub_nil _ | refine sub_cons rfl rfl ?_))
    · have hX : exitX s o = none := if_neg (fun k => h9 k.1)
      have hWe : W = F := by rw [hW]; funext a; rw [hX]; exact if_neg (by simp)
      refine WC.seq fun K1427 hK1427 => ?_
      -- region 15
      refine WC.region ?_
      -- R15.0 48 := law.go:273 fieldAddr
      refine WL.v (by exact r_field ty_fld36_0 rfl) rfl rfl rfl ?_
      -- R15.1 49 := law.go:273 fieldAddr
      refine WL.v (by exact r_field ty_fld28_0 rfl) rfl rfl rfl ?_
      -- R15.2 50 := law.go:273 load
      refine WL.v (by exact r_load1 (v := .int .u8 (o.kind : Nat)) ty_one25 rfl (by rw [← f0]; exact st.c1 (by decide))) rfl rfl rfl ?_
      -- R15.3 51 := law.go:273 binOp
      refine WL.v (by first | exact r_eql rfl rfl (decide_eq_true (by omega)) | exact r_eql rfl rfl (decide_eq_false (by omega)) | exact r_eql rfl rfl rfl) rfl rfl rfl ?_
      -- R15.4 52 := law.go:273 move
      refine WL.v (by first | exact r_move (v := .bool _) rfl | exact r_move rfl) rfl rfl rfl ?_
      -- R15.5 53 := law.go:273 fieldAddr
      refine WL.no rfl rfl ?_
      -- R15.6 54 := law.go:273 fieldAddr
      refine WL.no rfl rfl ?_
      -- R15.7 55 := law.go:273 load
      refine WL.no rfl rfl ?_
      -- R15.8 56 := law.go:273 binOp
      refine WL.no rfl rfl ?_
      -- R15.9 57 := law.go:273 pick
      refine WL.v (by first | exact r_pickT (v := .bool _) rfl rfl | exact r_pickF (v := .bool _) rfl rfl) rfl rfl rfl ?_
      refine WL.fin hK1427 (fun _ _ h => h) ?_
      refine WC.condF rfl rfl ?_
      refine WC.skipJ hKC (fun _ _ h => h) () (by rw [hWe]; exact st) (by repeat (first | exact sub_nil _ | refine sub_cons rfl rfl ?_))
  clear st
  rintro _ w st
  refine WC.seq fun K1428 hK1428 => ?_
  refine WC.seq fun K1429 hK1429 => ?_
  -- region 17
  refine WC.region ?_
  -- R17.0 65 := law.go:276 move
  refine WL.v (by first | exact r_move (v := .int _ _) rfl | exact r_move rfl) rfl rfl rfl ?_
  refine WL.fin hK1429 (fun _ _ h => h) ?_
  refine WC.block ?_
  refine WC.loop (ι := Nat) (fun i => [(1, .pointer (some ⟨b1, 0, none⟩)), (3, .pointer (some ⟨b3, 0, none⟩)), (65, .int .i64 (i : Nat))])
    (fun i w' => i ≤ 16 ∧ S0 w0 ((b3, Row 81 16 (uF W)) :: (b1, Row 36 10 fs) :: l) w') (fun i => 16 - i) 0 ⟨Nat.zero_le _, st⟩ ?_ ?_
  · skip
    repeat (first | exact sub_nil _ | refine sub_cons rfl rfl ?_)
  clear st
  rintro i w ⟨hi, st⟩ K3 hK3
  by_cases h16 : i = 16
  · skip
    refine WC.seq fun K1430 hK1430 => ?_
    -- region 18
    refine WC.region ?_
    -- R18.0 66 := law.go:276 binOp
    refine WL.v (by first | exact r_lss rfl rfl (decide_eq_true (by omega)) | exact r_lss rfl rfl (decide_eq_false (by omega)) | exact r_lss rfl rfl rfl) rfl rfl rfl ?_
    refine WL.fin hK1430 (fun _ _ h => h) ?_
    refine WC.seq fun K1431 hK1431 => ?_
    refine WC.condF rfl rfl ?_
    refine WC.exitF hK1428 (fun _ _ h => h) ?_
    refine WC.seq fun K1432 hK1432 => ?_
    -- region 23
    refine WC.region ?_
    -- R23.0 2 := law.go:281 assign
    refine WL.v (by first | exact r_assign (v := .bool _) rfl | exact r_assign rfl) rfl rfl rfl ?_
    refine WL.fin hK1432 (fun _ _ h => h) ?_
    refine WC.ret1 Tryz.results54 (fun _ _ h => h) rfl ?_
    exact ⟨_, rfl, rfl, st.drop.drop⟩
  have hi' : i < 16 := by omega
  have hxi : epF s' i = W i := by rw [hx i hi', hW]
  refine WC.seq fun K1433 hK1433 => ?_
  -- region 18
  refine WC.region ?_
  -- R18.0 66 := law.go:276 binOp
  refine WL.v (by first | exact r_lss rfl rfl (decide_eq_true (by omega)) | exact r_lss rfl rfl (decide_eq_false (by omega)) | exact r_lss rfl rfl rfl) rfl rfl rfl ?_
  refine WL.fin hK1433 (fun _ _ h => h) ?_
  refine WC.seq fun K1434 hK1434 => ?_
  refine WC.condT rfl rfl ?_
  refine WC.skipF hK1434 (fun _ _ h => h) ?_
  refine WC.seq fun K1435 hK1435 => ?_
  refine WC.block ?_
  refine WC.seq fun K1436 hK1436 => ?_
  -- region 19
  refine WC.region ?_
  -- R19.0 67 := law.go:276 move
  refine WL.v (by first | exact r_move (v := .int _ _) rfl | exact r_move rfl) rfl rfl rfl ?_
  -- R19.1 7 := law.go:276 assign
  refine WL.v (by first | exact r_assign (v := .int _ _) rfl | exact r_assign rfl) rfl rfl rfl ?_
  refine WL.fin hK1436 (fun _ _ h => h) ?_
  refine WC.seq fun K1437 hK1437 => ?_
  -- region 20 (draws)
  refine WC.quietS st ty_mixed (by kernel_rfl) fun Kq hKq => ?_
  -- R20.0 68 := law.go:277 fieldAddr
  refine QL.v (fun w st => by exact r_field ty_fld36_2 rfl) rfl rfl rfl ?_
  -- R20.1 69 := law.go:277 load
  refine QL.v (fun w st => by exact r_load1 (v := .pointer (some ⟨bA, 0, none⟩)) ty_one29 rfl (by rw [← f6]; exact st.c1 (by decide))) rfl rfl rfl ?_
  -- R20.2 70 := law.go:277 move
  refine QL.v (fun w st => by first | exact r_move (v := .int _ _) rfl | exact r_move rfl) rfl rfl rfl ?_
  -- R20.3 71 := law.go:277 nilCheck
  refine QL.v (fun w st => by exact r_nilCheck rfl) rfl rfl rfl ?_
  -- R20.4 72 := law.go:277 fieldAddr
  refine QL.v (fun w st => by exact r_field ty_fld50_3 rfl) rfl rfl rfl ?_
  -- R20.5 73 := law.go:277 indexAddr
  refine QL.v (fun w st => by exact r_indexA (j := i) ty_ar43 rfl rfl rfl hi') rfl rfl rfl ?_
  -- R20.6 74 := law.go:277 fieldAddr
  refine QL.v (fun w st => by exact r_field ty_fld42_2 rfl) rfl rfl rfl ?_
  -- R20.7 75 := law.go:277 load
  refine QL.v (fun w st => by exact r_load1 (v := .int .u64 (epF s' i : Nat)) ty_one26 rfl (c_sT (List.mem_cons_of_mem _ (List.mem_cons_of_mem _ hA')) hi' (j := 2) (by decide) (by omega) st)) rfl rfl rfl ?_
  -- R20.8 76 := law.go:277 move
  refine QL.v (fun w st => by first | exact r_move (v := .int _ _) rfl | exact r_move rfl) rfl rfl rfl ?_
  -- R20.9 77 := law.go:277 indexAddr
  refine QL.v (fun w st => by exact r_indexA (j := i) ty_ar81 rfl rfl rfl hi') rfl rfl rfl ?_
  -- R20.10 78 := law.go:277 load
  refine QL.v (fun w st => by exact r_load1 (v := .int .u64 (W i : Nat)) ty_one26 rfl (c_uF (F := W) List.mem_cons_self hi' st)) rfl rfl rfl ?_
  -- R20.11 79 := law.go:277 binOp
  refine QL.v (fun w st => by exact r_neq rfl rfl (decide_eq_false (by omega))) rfl rfl rfl ?_
  refine QL.wl hKq fun w st => ?_
  refine WL.fin hK1437 (fun _ _ h => h) ?_
  refine WC.condF rfl rfl ?_
  refine WC.skipF hK1435 (fun _ _ h => h) ?_
  -- region 22
  refine WC.region ?_
  -- R22.0 80 := law.go:276 binOp
  refine WL.v (by first | exact r_add rfl rfl (wi64 (by omega) (by omega)) | exact r_add rfl rfl rfl) rfl rfl rfl ?_
  -- R22.1 65 := law.go:276 move
  refine WL.v (by first | exact r_move (v := .int _ _) rfl | exact r_move rfl) rfl rfl rfl ?_
  refine WL.next hK3 (fun _ _ h => h) (i + 1) ⟨hi', st⟩ (by omega) (by repeat (first | exact sub_nil _ | refine sub_cons rfl rfl ?_))

theorem epochs_ok (a : Option Addr) (sb so n c : Nat) (op : Nat → Kern.Op) (hD : gD w) (hS : Scr w sb so n op) (hn63 : n ≤ 140737488355328) (ha : 0 < n → a = some ⟨sb, so, none⟩) :
    Calls Tryz.prog 12 #[.slice a n c] w (Ret fun v w' => v = .bool true ∧ S0 w [] w') := by
  have st : S0 w [] w := St.init w _
  by_cases hn : n ≤ 65536
  · have hC : CheckOK w 54 #[] op n fun _ LI => LI = [] := by
      rintro i bB bA qv qv' XS XS' ov XO LI Z w' hi rfl hQ st'
      have hK := run_KI op i
      have hE := Ep.step (o := op i) hK.b (run_INV op i) hK.told
      refine (epochs1_ok (s := runP op i) (s' := runP op (i + 1)) hQ.o hE.a (fun t ht => hE.e t ht) exit_code List.mem_cons_self (List.mem_cons_of_mem _ List.mem_cons_self) (fun x hx => ?_) st').mono ?_
      · simp only [List.mem_cons, List.mem_append]; exact .inr (.inr (.inr (.inr (.inl hx))))
      · rintro e w'' ⟨v, rfl, rfl, st''⟩
        exact ⟨_, rfl, rfl, [], rfl, st''⟩
    refine enter [.slice a n c] Tryz.func12 rfl Tryz.ntmps12 rfl ?_
    show WC _ _ _ 8 [] [(0, .slice a n c)] _
    refine WC.seq fun K1438 hK1438 => ?_
    -- region 0
    refine WC.region ?_
    -- R0.0 2 := law.go:255 assign
    refine WL.v (by first | exact r_assign (v := .bool _) rfl | exact r_assign rfl) rfl rfl rfl ?_
    refine WL.fin hK1438 (fun _ _ h => h) ?_
    refine WC.seq fun K1439 hK1439 => ?_
    refine WC.seq fun K1440 hK1440 => ?_
    -- region 1
    refine WC.region ?_
    -- R1.0 3 := law.go:256 move
    refine WL.v (by first | exact r_move (v := .slice _ _ _) rfl | exact r_move rfl) rfl rfl rfl ?_
    -- R1.1 4 := law.go:256 call
    refine WL.call (r_call ty_call23 rfl) rfl rfl rfl (zzSmall1_ok a n c st) ?_
    rintro _ w' ⟨he, st⟩
    rw [decide_eq_true hn] at he
    subst he
    -- R1.2 5 := law.go:256 unOp
    refine WL.v (by first | exact r_notT rfl | exact r_notF rfl | exact r_not rfl) rfl rfl rfl ?_
    refine WL.fin hK1440 (fun _ _ h => h) ?_
    refine WC.condF rfl rfl ?_
    refine WC.skipF hK1439 (fun _ _ h => h) ?_
    refine WC.seq fun K1441 hK1441 => ?_
    -- region 3
    refine WC.region ?_
    -- R3.0 6 := law.go:260 move
    refine WL.v (by first | exact r_move (v := .slice _ _ _) rfl | exact r_move rfl) rfl rfl rfl ?_
    -- R3.1 7 := law.go:260 call
    refine WL.call (r_call ty_call24 rfl) rfl rfl rfl (play_ok (LI := []) (l := []) ty_call54 hD hS hn ha hC rfl st) ?_
    rintro _ w'' ⟨rfl, LI', rfl, st⟩
    -- R3.2 2 := law.go:260 assign
    refine WL.v (by first | exact r_assign (v := .bool _) rfl | exact r_assign rfl) rfl rfl rfl ?_
    refine WL.fin hK1441 (fun _ _ h => h) ?_
    refine WC.ret1 Tryz.results12 (fun _ _ h => h) rfl ?_
    exact ⟨_, rfl, rfl, st⟩
  · skip
    refine enter [.slice a n c] Tryz.func12 rfl Tryz.ntmps12 rfl ?_
    show WC _ _ _ 8 [] [(0, .slice a n c)] _
    refine WC.seq fun K1442 hK1442 => ?_
    -- region 0
    refine WC.region ?_
    -- R0.0 2 := law.go:255 assign
    refine WL.v (by first | exact r_assign (v := .bool _) rfl | exact r_assign rfl) rfl rfl rfl ?_
    refine WL.fin hK1442 (fun _ _ h => h) ?_
    refine WC.seq fun K1443 hK1443 => ?_
    refine WC.seq fun K1444 hK1444 => ?_
    -- region 1
    refine WC.region ?_
    -- R1.0 3 := law.go:256 move
    refine WL.v (by first | exact r_move (v := .slice _ _ _) rfl | exact r_move rfl) rfl rfl rfl ?_
    -- R1.1 4 := law.go:256 call
    refine WL.call (r_call ty_call23 rfl) rfl rfl rfl (zzSmall1_ok a n c st) ?_
    rintro _ w' ⟨he, st⟩
    rw [decide_eq_false hn] at he
    subst he
    -- R1.2 5 := law.go:256 unOp
    refine WL.v (by first | exact r_notT rfl | exact r_notF rfl | exact r_not rfl) rfl rfl rfl ?_
    refine WL.fin hK1444 (fun _ _ h => h) ?_
    refine WC.condT rfl rfl ?_
    refine WC.seq fun K1445 hK1445 => ?_
    -- region 2
    refine WC.region ?_
    -- R2.0 2 := law.go:257 assign
    refine WL.v (by first | exact r_assign (v := .bool _) rfl | exact r_assign rfl) rfl rfl rfl ?_
    refine WL.fin hK1445 (fun _ _ h => h) ?_
    refine WC.ret1 Tryz.results12 (fun _ _ h => h) rfl ?_
    exact ⟨_, rfl, rfl, st⟩
end Go.Proofs.Qxb6500834aGreatDoor

