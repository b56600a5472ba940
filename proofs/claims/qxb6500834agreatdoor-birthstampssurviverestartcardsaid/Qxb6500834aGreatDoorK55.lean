import Derived.Test.Qxb6500834aGreatDoorK51
set_option linter.unusedVariables false
set_option linter.unusedSimpArgs false
set_option maxRecDepth 20000
namespace Go.Proofs.Qxb6500834aGreatDoor
open Go.RowKit Go.E1 Go.Kern
theorem ty_call60 : callT Tryz.prog 60 = true := by kernel_rfl
theorem ty_fld42_1 : fldOff Tryz.prog 42 1 = some 1 := by kernel_rfl
theorem ty_kb26 : Go.E1.KB Tryz.prog 26 (keyGood Tryz.prog 26) := Go.E1.KB.of_keyed (Maps.int_keyed Tryz.underlying26)
theorem ty_mp85 : mpT Tryz.prog 85 = some (26, 4) := by kernel_rfl
theorem ty_z14 : zero1 Tryz.prog 4 = some (.bool false) := by kernel_rfl
variable {w0 : World} {l X : List HI} {w : World} {s s' s0 : KS} {t r N n : Nat} {qv qv' : Nat → Value}

/-! Law: birth stamps survive a restart. -/
theorem goodU {s : Nat} (h2 : s < 18446744073709551616) : keyGood Go.Proofs.Tryz.prog 26 (.int .u64 (s : Nat)) :=
  ⟨.int .u64 (s : Nat), Go.Maps.keyOf_int_mk Go.Proofs.Tryz.underlying26 (by simp only [Lit.wf, Bool.and_eq_true, decide_eq_true_eq]; exact ⟨by show (0 : Int) ≤ _; omega, by show _ ≤ (18446744073709551615 : Int); omega⟩)⟩
def SeenB (s : KS) (G : Value → Option Value) (i : Nat) : Prop := ∀ u, u < 16 → i ≤ u → (s.tk u).live = true → (G (.int .u64 ((s.tk u).birth : Nat))).getD (.bool false) = .bool false
theorem SeenB.set {G G' : Value → Option Value} {i : Nat} (hb : BI s) (hi : i < 16) (h : SeenB s G i) (hS : SetG G (.int .u64 ((s.tk i).birth : Nat)) (.bool (s.tk i).live) G') : SeenB s G' (i + 1) := fun u hu hiu hl => by
  by_cases e : (s.tk u).birth = (s.tk i).birth
  · rw [e, hS.1]
    rcases hx : (s.tk i).live with _ | _
    · rfl
    · have := hb.ne u i hu hi hl hx e
      omega
  · rw [hS.2 _ (fun k => e (by injection k with _ k; omega))]
    exact h u hu (by omega) hl
set_option maxHeartbeats 4000000 in
theorem births1_ok {o : Kern.Op} {bB bA : Nat} {code task : Int} {ov : Value} {ans : List (Nat × Nat × Nat)}  (hb : BI s') (hk : KeepB s s') (hbi : s'.births < 18446744073709551616) (hB64 : ∀ t, t < 16 → (s'.tk t).birth < 18446744073709551616) (hck : CK s s' ans bB bA qv qv' ov l) (st : S0 w0 l w) :
    Calls Tryz.prog 60 #[.agg (stepL o bB bA code task ov).toArray] w (Ret fun v w' => v = .bool true ∧ S0 w0 l w') := by
  obtain ⟨XO, ho, hXO⟩ := hck.a
  obtain ⟨a, c, b, rfl, hc1, hc2, ha, hcell⟩ := ho.form
  obtain ⟨fs, hfs⟩ : ∃ fs : Nat → Value, fs = nth (stepL o bB bA code task (.slice a ans.length c)) := ⟨_, rfl⟩
  have f0 : fs 0 = .int .u8 (o.kind : Nat) := by rw [hfs]; rfl
  have f1 : fs 1 = .int .i64 o.A := by rw [hfs]; rfl
  have f2 : fs 2 = .int .i64 o.B := by rw [hfs]; rfl
  have f3 : fs 3 = .int .i64 o.C := by rw [hfs]; rfl
  have f4 : fs 4 = .int .u64 (o.X : Nat) := by rw [hfs]; rfl
  have f5 : fs 5 = .pointer (some ⟨bB, 0, none⟩) := by rw [hfs]; rfl
  have f6 : fs 6 = .pointer (some ⟨bA, 0, none⟩) := by rw [hfs]; rfl
  have f7 : fs 7 = .int .i64 code := by rw [hfs]; rfl
  have f8 : fs 8 = .int .i64 task := by rw [hfs]; rfl
  have f9 : fs 9 = .slice a ans.length c := by rw [hfs]; rfl
  refine enter [.agg (stepL o bB bA code task (.slice a ans.length c)).toArray] Tryz.func60 rfl Tryz.ntmps60 rfl ?_
  show WC _ _ _ 67 [] [(0, .agg (stepL o bB bA code task (.slice a ans.length c)).toArray)] _
  refine WC.seq fun K1907 hK1907 => ?_
  -- region 0
  refine WC.region ?_
  -- R0.0 1 := law.go:424 box
  refine WL.box (m := 10) (vs := stepL o bB bA code task (.slice a ans.length c)) st rfl rfl rfl rfl rfl rfl ?_
  intro b1 w st
  have st : S0 w0 ((b1, Row 36 10 fs) :: l) w := by rw [hfs]; exact st
  -- R0.1 2 := law.go:424 assign
  refine WL.v (by first | exact r_assign (v := .bool _) rfl | exact r_assign rfl) rfl rfl rfl ?_
  refine WL.fin hK1907 (fun _ _ h => h) ?_
  refine WC.seq fun K1908 hK1908 => ?_
  -- region 1
  refine WC.region ?_
  -- R1.0 7 := law.go:425 makeMap
  refine WL.mkmap (keyGood Go.Proofs.Tryz.prog 26) st rfl rfl ?_
  intro bm w st
  -- R1.1 3 := law.go:425 assign
  refine WL.v (by first | exact r_assign (v := .map _) rfl | exact r_assign rfl) rfl rfl rfl ?_
  refine WL.fin hK1908 (fun _ _ h => h) ?_
  refine WC.seq fun K1909 hK1909 => ?_
  refine WC.seq fun K1910 hK1910 => ?_
  -- region 2
  refine WC.region ?_
  -- R2.0 8 := law.go:426 move
  refine WL.v (by first | exact r_move (v := .int _ _) rfl | exact r_move rfl) rfl rfl rfl ?_
  refine WL.fin hK1910 (fun _ _ h => h) ?_
  refine WC.block ?_
  refine WC.loop (ι := Nat × (Value → Option Value)) (fun y => [(1, .pointer (some ⟨b1, 0, none⟩)), (3, .map (some bm)), (8, .int .i64 (y.1 : Nat))])
    (fun y w' => y.1 ≤ 16 ∧ SeenB s' y.2 y.1 ∧ S0 w0 ((bm, MapV (keyGood Go.Proofs.Tryz.prog 26) y.2) :: (b1, Row 36 10 fs) :: l) w') (fun y => 16 - y.1) (0, fun _ => none) ⟨Nat.zero_le _, fun _ _ _ _ => rfl, st⟩ ?_ ?_
  · skip
    repeat (first | exact sub_nil _ | refine sub_cons rfl rfl ?_)
  clear st
  rintro ⟨i, G⟩ w ⟨hi, hG, st⟩ K2 hK2
  dsimp only at hi hG st ⊢
  by_cases h16 : i = 16
  · skip
    refine WC.seq fun K1911 hK1911 => ?_
    -- region 3
    refine WC.region ?_
    -- R3.0 9 := law.go:426 binOp
    refine WL.v (by first | exact r_lss rfl rfl (decide_eq_true (by omega)) | exact r_lss rfl rfl (decide_eq_false (by omega)) | exact r_lss rfl rfl rfl) rfl rfl rfl ?_
    refine WL.fin hK1911 (fun _ _ h => h) ?_
    refine WC.seq fun K1912 hK1912 => ?_
    refine WC.condF rfl rfl ?_
    refine WC.exitF hK1909 (fun _ _ h => h) ?_
    refine WC.seq fun K1913 hK1913 => ?_
    -- region 12
    refine WC.region ?_
    -- R12.0 2 := law.go:436 assign
    refine WL.v (by first | exact r_assign (v := .bool _) rfl | exact r_assign rfl) rfl rfl rfl ?_
    refine WL.fin hK1913 (fun _ _ h => h) ?_
    refine WC.ret1 Tryz.results60 (fun _ _ h => h) rfl ?_
    exact ⟨_, rfl, rfl, st.drop.drop⟩
  have hi' : i < 16 := by omega
  have hck2 := (hck.c (a := (b1, Row 36 10 fs))).c (a := (bm, MapV (keyGood Go.Proofs.Tryz.prog 26) G))
  have hG' := hG i hi' (Nat.le_refl _)
  have hlo := hb.lo i hi'
  have hki := hk i hi'
  have hb64 := hB64 i hi'
  refine WC.seq fun K1914 hK1914 => ?_
  -- region 3
  refine WC.region ?_
  -- R3.0 9 := law.go:426 binOp
  refine WL.v (by first | exact r_lss rfl rfl (decide_eq_true (by omega)) | exact r_lss rfl rfl (decide_eq_false (by omega)) | exact r_lss rfl rfl rfl) rfl rfl rfl ?_
  refine WL.fin hK1914 (fun _ _ h => h) ?_
  refine WC.seq fun K1915 hK1915 => ?_
  refine WC.condT rfl rfl ?_
  refine WC.skipF hK1915 (fun _ _ h => h) ?_
  refine WC.seq fun K1916 hK1916 => ?_
  refine WC.block ?_
  refine WC.seq fun K1917 hK1917 => ?_
  -- region 4
  refine WC.region ?_
  -- R4.0 10 := law.go:426 move
  refine WL.v (by first | exact r_move (v := .int _ _) rfl | exact r_move rfl) rfl rfl rfl ?_
  -- R4.1 4 := law.go:426 assign
  refine WL.v (by first | exact r_assign (v := .int _ _) rfl | exact r_assign rfl) rfl rfl rfl ?_
  refine WL.fin hK1917 (fun _ _ h => h) ?_
  refine WC.cut (ι := Nat × Nat) (fun y => [(1, .pointer (some ⟨b1, 0, none⟩)), (3, .map (some bm)), (8, .int .i64 (i : Nat)), (5, .pointer (some ⟨y.1, 0, none⟩)), (6, .pointer (some ⟨y.2, 0, none⟩))]) (fun y w' => S0 w0 ((y.2, Row 42 6 (nth [.bool (s'.tk i).live, .int .u64 ((s'.tk i).birth : Nat), .int .u64 ((s'.tk i).epoch : Nat), .bool (s'.tk i).waiting, .int .u64 ((s'.tk i).deadline : Nat), .int .i64 ((s'.tk i).n : Nat)])) :: (y.1, Row 42 6 (nth [.bool (s.tk i).live, .int .u64 ((s.tk i).birth : Nat), .int .u64 ((s.tk i).epoch : Nat), .bool (s.tk i).waiting, .int .u64 ((s.tk i).deadline : Nat), .int .i64 ((s.tk i).n : Nat)])) :: (bm, MapV (keyGood Go.Proofs.Tryz.prog 26) G) :: (b1, Row 36 10 fs) :: l) w') ?_ ?_
  rotate_left
  · intro KC hKC
    refine WC.heldW [17] 14 15 [15, 16, 17] [14, 16, 17] [0, 1, 2, 3, 4, 5, 6, 7, 8, 9, 10, 11, 12, 13] st st ty_mixed (by kernel_rfl) fun w st Kq hKq => ?_
    -- R5.0 11 := law.go:427 fieldAddr
    refine HL.v (fun w st => by exact r_field ty_fld36_1 rfl) rfl rfl rfl ?_
    -- R5.1 12 := law.go:427 load
    refine HL.v (fun w st => by exact r_load1 (v := .pointer (some ⟨bB, 0, none⟩)) ty_one29 rfl (by rw [← f5]; exact st.c1 (by decide))) rfl rfl rfl ?_
    -- R5.2 13 := law.go:427 move
    refine HL.v (fun w st => by first | exact r_move (v := .int _ _) rfl | exact r_move rfl) rfl rfl rfl ?_
    -- R5.3 14 := law.go:427 nilCheck
    refine HL.v (fun w st => by exact r_nilCheck rfl) rfl rfl rfl ?_
    -- R5.4 15 := law.go:427 fieldAddr
    refine HL.v (fun w st => by exact r_field ty_fld50_3 rfl) rfl rfl rfl ?_
    -- R5.5 16 := law.go:427 indexAddr
    refine HL.v (fun w st => by exact r_indexA (j := i) ty_ar43 rfl rfl rfl hi') rfl rfl rfl ?_
    -- R5.6 17 := law.go:427 load
    refine HL.v (fun w st => by exact r_loadL (vs := [.bool (s.tk i).live, .int .u64 ((s.tk i).birth : Nat), .int .u64 ((s.tk i).epoch : Nat), .bool (s.tk i).waiting, .int .u64 ((s.tk i).deadline : Nat), .int .i64 ((s.tk i).n : Nat)]) ty_agg42 rfl ⟨c_sT hck2.B hi' (j := 0) (by decide) (by omega) st, c_sT hck2.B hi' (j := 1) (by decide) (by omega) st, c_sT hck2.B hi' (j := 2) (by decide) (by omega) st, c_sT hck2.B hi' (j := 3) (by decide) (by omega) st, c_sT hck2.B hi' (j := 4) (by decide) (by omega) st, c_sT hck2.B hi' (j := 5) (by decide) (by omega) st, trivial⟩) rfl rfl rfl ?_
    -- R5.7 18 := law.go:427 fieldAddr
    refine HL.v (fun w st => by exact r_field ty_fld36_2 rfl) rfl rfl rfl ?_
    -- R5.8 19 := law.go:427 load
    refine HL.v (fun w st => by exact r_load1 (v := .pointer (some ⟨bA, 0, none⟩)) ty_one29 rfl (by rw [← f6]; exact st.c1 (by decide))) rfl rfl rfl ?_
    -- R5.9 20 := law.go:427 move
    refine HL.v (fun w st => by first | exact r_move (v := .int _ _) rfl | exact r_move rfl) rfl rfl rfl ?_
    -- R5.10 21 := law.go:427 nilCheck
    refine HL.v (fun w st => by exact r_nilCheck rfl) rfl rfl rfl ?_
    -- R5.11 22 := law.go:427 fieldAddr
    refine HL.v (fun w st => by exact r_field ty_fld50_3 rfl) rfl rfl rfl ?_
    -- R5.12 23 := law.go:427 indexAddr
    refine HL.v (fun w st => by exact r_indexA (j := i) ty_ar43 rfl rfl rfl hi') rfl rfl rfl ?_
    -- R5.13 24 := law.go:427 load
    refine HL.v (fun w st => by exact r_loadL (vs := [.bool (s'.tk i).live, .int .u64 ((s'.tk i).birth : Nat), .int .u64 ((s'.tk i).epoch : Nat), .bool (s'.tk i).waiting, .int .u64 ((s'.tk i).deadline : Nat), .int .i64 ((s'.tk i).n : Nat)]) ty_agg42 rfl ⟨c_sT hck2.A hi' (j := 0) (by decide) (by omega) st, c_sT hck2.A hi' (j := 1) (by decide) (by omega) st, c_sT hck2.A hi' (j := 2) (by decide) (by omega) st, c_sT hck2.A hi' (j := 3) (by decide) (by omega) st, c_sT hck2.A hi' (j := 4) (by decide) (by omega) st, c_sT hck2.A hi' (j := 5) (by decide) (by omega) st, trivial⟩) rfl rfl rfl ?_
    refine HL.fin hKq ⟨?_, ?_⟩
    · skip
      refine TL.at ?_
      -- R5.14 5 := law.go:427 alloc
      refine WL.alloc (m := 6) st ty_zero42 rfl rfl rfl ?_
      intro b5 w st
      refine TL.nxt (by first | exact st | exact st.drop | exact st.drop1 | exact st.drop2 | exact st.drop3 | exact st.drop4 | exact st.drop.drop | exact st.drop.drop1 | exact st.drop.drop2 | exact st.drop.drop3 | exact st.drop.drop4 | exact st.drop.drop.drop | exact st.drop.drop.drop.drop | exact st_dropL st | exact st_dropL st.drop | exact st_none st) ?_
      refine TL.at ?_
      -- R5.15 6 := law.go:427 alloc
      refine WL.alloc (m := 6) st ty_zero42 rfl rfl rfl ?_
      intro b6 w st
      refine TL.nxt (by first | exact st | exact st.drop | exact st.drop1 | exact st.drop2 | exact st.drop3 | exact st.drop4 | exact st.drop.drop | exact st.drop.drop1 | exact st.drop.drop2 | exact st.drop.drop3 | exact st.drop.drop4 | exact st.drop.drop.drop | exact st.drop.drop.drop.drop | exact st_dropL st | exact st_dropL st.drop | exact st_none st) ?_
      refine TL.at ?_
      -- R5.16 None := law.go:427 store
      first | refine WL.storeW (vs := [_, _, _, _, _, _]) st ty_agg42 rfl rfl rfl rfl rfl rfl ?_ | refine WL.storeL (vs := [_, _, _, _, _, _]) st ty_agg42 rfl rfl rfl rfl (by first | decide | omega) rfl rfl ?_ | refine WL.storeW (vs := [_, _, _, _, _, _]) st.front1 ty_agg42 rfl rfl rfl rfl rfl rfl ?_ | refine WL.storeL (vs := [_, _, _, _, _, _]) st.front1 ty_agg42 rfl rfl rfl rfl (by first | decide | omega) rfl rfl ?_ | refine WL.storeW (vs := [_, _, _, _, _, _]) st.front2 ty_agg42 rfl rfl rfl rfl rfl rfl ?_ | refine WL.storeL (vs := [_, _, _, _, _, _]) st.front2 ty_agg42 rfl rfl rfl rfl (by first | decide | omega) rfl rfl ?_ | refine WL.storeW (vs := [_, _, _, _, _, _]) st.front3 ty_agg42 rfl rfl rfl rfl rfl rfl ?_ | refine WL.storeL (vs := [_, _, _, _, _, _]) st.front3 ty_agg42 rfl rfl rfl rfl (by first | decide | omega) rfl rfl ?_ | refine WL.storeW (vs := [_, _, _, _, _, _]) st.front4 ty_agg42 rfl rfl rfl rfl rfl rfl ?_ | refine WL.storeL (vs := [_, _, _, _, _, _]) st.front4 ty_agg42 rfl rfl rfl rfl (by first | decide | omega) rfl rfl ?_ | refine WL.storeW (vs := [_, _, _, _, _, _]) st.front5 ty_agg42 rfl rfl rfl rfl rfl rfl ?_ | refine WL.storeL (vs := [_, _, _, _, _, _]) st.front5 ty_agg42 rfl rfl rfl rfl (by first | decide | omega) rfl rfl ?_ | refine WL.storeW (vs := [_, _, _, _, _, _]) st.front6 ty_agg42 rfl rfl rfl rfl rfl rfl ?_ | refine WL.storeL (vs := [_, _, _, _, _, _]) st.front6 ty_agg42 rfl rfl rfl rfl (by first | decide | omega) rfl rfl ?_ | refine WL.storeW (vs := [_, _, _, _, _, _]) st.front7 ty_agg42 rfl rfl rfl rfl rfl rfl ?_ | refine WL.storeL (vs := [_, _, _, _, _, _]) st.front7 ty_agg42 rfl rfl rfl rfl (by first | decide | omega) rfl rfl ?_ | refine WL.storeW (vs := [_, _, _, _, _, _]) st.front8 ty_agg42 rfl rfl rfl rfl rfl rfl ?_ | refine WL.storeL (vs := [_, _, _, _, _, _]) st.front8 ty_agg42 rfl rfl rfl rfl (by first | decide | omega) rfl rfl ?_
      intro w st
      refine TL.nxt (by first | exact st | exact st.drop | exact st.drop1 | exact st.drop2 | exact st.drop3 | exact st.drop4 | exact st.drop.drop | exact st.drop.drop1 | exact st.drop.drop2 | exact st.drop.drop3 | exact st.drop.drop4 | exact st.drop.drop.drop | exact st.drop.drop.drop.drop | exact st_dropL st | exact st_dropL st.drop | exact st_none st) ?_
      refine TL.at ?_
      -- R5.17 None := law.go:427 store
      first | refine WL.storeW (vs := [_, _, _, _, _, _]) st ty_agg42 rfl rfl rfl rfl rfl rfl ?_ | refine WL.storeL (vs := [_, _, _, _, _, _]) st ty_agg42 rfl rfl rfl rfl (by first | decide | omega) rfl rfl ?_ | refine WL.storeW (vs := [_, _, _, _, _, _]) st.front1 ty_agg42 rfl rfl rfl rfl rfl rfl ?_ | refine WL.storeL (vs := [_, _, _, _, _, _]) st.front1 ty_agg42 rfl rfl rfl rfl (by first | decide | omega) rfl rfl ?_ | refine WL.storeW (vs := [_, _, _, _, _, _]) st.front2 ty_agg42 rfl rfl rfl rfl rfl rfl ?_ | refine WL.storeL (vs := [_, _, _, _, _, _]) st.front2 ty_agg42 rfl rfl rfl rfl (by first | decide | omega) rfl rfl ?_ | refine WL.storeW (vs := [_, _, _, _, _, _]) st.front3 ty_agg42 rfl rfl rfl rfl rfl rfl ?_ | refine WL.storeL (vs := [_, _, _, _, _, _]) st.front3 ty_agg42 rfl rfl rfl rfl (by first | decide | omega) rfl rfl ?_ | refine WL.storeW (vs := [_, _, _, _, _, _]) st.front4 ty_agg42 rfl rfl rfl rfl rfl rfl ?_ | refine WL.storeL (vs := [_, _, _, _, _, _]) st.front4 ty_agg42 rfl rfl rfl rfl (by first | decide | omega) rfl rfl ?_ | refine WL.storeW (vs := [_, _, _, _, _, _]) st.front5 ty_agg42 rfl rfl rfl rfl rfl rfl ?_ | refine WL.storeL (vs := [_, _, _, _, _, _]) st.front5 ty_agg42 rfl rfl rfl rfl (by first | decide | omega) rfl rfl ?_ | refine WL.storeW (vs := [_, _, _, _, _, _]) st.front6 ty_agg42 rfl rfl rfl rfl rfl rfl ?_ | refine WL.storeL (vs := [_, _, _, _, _, _]) st.front6 ty_agg42 rfl rfl rfl rfl (by first | decide | omega) rfl rfl ?_ | refine WL.storeW (vs := [_, _, _, _, _, _]) st.front7 ty_agg42 rfl rfl rfl rfl rfl rfl ?_ | refine WL.storeL (vs := [_, _, _, _, _, _]) st.front7 ty_agg42 rfl rfl rfl rfl (by first | decide | omega) rfl rfl ?_ | refine WL.storeW (vs := [_, _, _, _, _, _]) st.front8 ty_agg42 rfl rfl rfl rfl rfl rfl ?_ | refine WL.storeL (vs := [_, _, _, _, _, _]) st.front8 ty_agg42 rfl rfl rfl rfl (by first | decide | omega) rfl rfl ?_
      intro w st
      refine TL.nxt' rfl ?_
      refine TL.wl ?_
      refine WL.join hKC (fun _ _ h => h) (b5, b6) st (by repeat (first | exact sub_nil _ | refine sub_cons rfl rfl ?_))
    · skip
      refine TL.at ?_
      -- R5.15 6 := law.go:427 alloc
      refine WL.alloc (m := 6) st ty_zero42 rfl rfl rfl ?_
      intro b6 w st
      refine TL.nxt (by first | exact st | exact st.drop | exact st.drop1 | exact st.drop2 | exact st.drop3 | exact st.drop4 | exact st.drop.drop | exact st.drop.drop1 | exact st.drop.drop2 | exact st.drop.drop3 | exact st.drop.drop4 | exact st.drop.drop.drop | exact st.drop.drop.drop.drop | exact st_dropL st | exact st_dropL st.drop | exact st_none st) ?_
      refine TL.at ?_
      -- R5.14 5 := law.go:427 alloc
      refine WL.alloc (m := 6) st ty_zero42 rfl rfl rfl ?_
      intro b5 w st
      refine TL.nxt (by first | exact st | exact st.drop | exact st.drop1 | exact st.drop2 | exact st.drop3 | exact st.drop4 | exact st.drop.drop | exact st.drop.drop1 | exact st.drop.drop2 | exact st.drop.drop3 | exact st.drop.drop4 | exact st.drop.drop.drop | exact st.drop.drop.drop.drop | exact st_dropL st | exact st_dropL st.drop | exact st_none st) ?_
      refine TL.at ?_
      -- R5.16 None := law.go:427 store
      first | refine WL.storeW (vs := [_, _, _, _, _, _]) st ty_agg42 rfl rfl rfl rfl rfl rfl ?_ | refine WL.storeL (vs := [_, _, _, _, _, _]) st ty_agg42 rfl rfl rfl rfl (by first | decide | omega) rfl rfl ?_ | refine WL.storeW (vs := [_, _, _, _, _, _]) st.front1 ty_agg42 rfl rfl rfl rfl rfl rfl ?_ | refine WL.storeL (vs := [_, _, _, _, _, _]) st.front1 ty_agg42 rfl rfl rfl rfl (by first | decide | omega) rfl rfl ?_ | refine WL.storeW (vs := [_, _, _, _, _, _]) st.front2 ty_agg42 rfl rfl rfl rfl rfl rfl ?_ | refine WL.storeL (vs := [_, _, _, _, _, _]) st.front2 ty_agg42 rfl rfl rfl rfl (by first | decide | omega) rfl rfl ?_ | refine WL.storeW (vs := [_, _, _, _, _, _]) st.front3 ty_agg42 rfl rfl rfl rfl rfl rfl ?_ | refine WL.storeL (vs := [_, _, _, _, _, _]) st.front3 ty_agg42 rfl rfl rfl rfl (by first | decide | omega) rfl rfl ?_ | refine WL.storeW (vs := [_, _, _, _, _, _]) st.front4 ty_agg42 rfl rfl rfl rfl rfl rfl ?_ | refine WL.storeL (vs := [_, _, _, _, _, _]) st.front4 ty_agg42 rfl rfl rfl rfl (by first | decide | omega) rfl rfl ?_ | refine WL.storeW (vs := [_, _, _, _, _, _]) st.front5 ty_agg42 rfl rfl rfl rfl rfl rfl ?_ | refine WL.storeL (vs := [_, _, _, _, _, _]) st.front5 ty_agg42 rfl rfl rfl rfl (by first | decide | omega) rfl rfl ?_ | refine WL.storeW (vs := [_, _, _, _, _, _]) st.front6 ty_agg42 rfl rfl rfl rfl rfl rfl ?_ | refine WL.storeL (vs := [_, _, _, _, _, _]) st.front6 ty_agg42 rfl rfl rfl rfl (by first | decide | omega) rfl rfl ?_ | refine WL.storeW (vs := [_, _, _, _, _, _]) st.front7 ty_agg42 rfl rfl rfl rfl rfl rfl ?_ | refine WL.storeL (vs := [_, _, _, _, _, _]) st.front7 ty_agg42 rfl rfl rfl rfl (by first | decide | omega) rfl rfl ?_ | refine WL.storeW (vs := [_, _, _, _, _, _]) st.front8 ty_agg42 rfl rfl rfl rfl rfl rfl ?_ | refine WL.storeL (vs := [_, _, _, _, _, _]) st.front8 ty_agg42 rfl rfl rfl rfl (by first | decide | omega) rfl rfl ?_
      intro w st
      refine TL.nxt (by first | exact st | exact st.drop | exact st.drop1 | exact st.drop2 | exact st.drop3 | exact st.drop4 | exact st.drop.drop | exact st.drop.drop1 | exact st.drop.drop2 | exact st.drop.drop3 | exact st.drop.drop4 | exact st.drop.drop.drop | exact st.drop.drop.drop.drop | exact st_dropL st | exact st_dropL st.drop | exact st_none st) ?_
      refine TL.at ?_
      -- R5.17 None := law.go:427 store
      first | refine WL.storeW (vs := [_, _, _, _, _, _]) st ty_agg42 rfl rfl rfl rfl rfl rfl ?_ | refine WL.storeL (vs := [_, _, _, _, _, _]) st ty_agg42 rfl rfl rfl rfl (by first | decide | omega) rfl rfl ?_ | refine WL.storeW (vs := [_, _, _, _, _, _]) st.front1 ty_agg42 rfl rfl rfl rfl rfl rfl ?_ | refine WL.storeL (vs := [_, _, _, _, _, _]) st.front1 ty_agg42 rfl rfl rfl rfl (by first | decide | omega) rfl rfl ?_ | refine WL.storeW (vs := [_, _, _, _, _, _]) st.front2 ty_agg42 rfl rfl rfl rfl rfl rfl ?_ | refine WL.storeL (vs := [_, _, _, _, _, _]) st.front2 ty_agg42 rfl rfl rfl rfl (by first | decide | omega) rfl rfl ?_ | refine WL.storeW (vs := [_, _, _, _, _, _]) st.front3 ty_agg42 rfl rfl rfl rfl rfl rfl ?_ | refine WL.storeL (vs := [_, _, _, _, _, _]) st.front3 ty_agg42 rfl rfl rfl rfl (by first | decide | omega) rfl rfl ?_ | refine WL.storeW (vs := [_, _, _, _, _, _]) st.front4 ty_agg42 rfl rfl rfl rfl rfl rfl ?_ | refine WL.storeL (vs := [_, _, _, _, _, _]) st.front4 ty_agg42 rfl rfl rfl rfl (by first | decide | omega) rfl rfl ?_ | refine WL.storeW (vs := [_, _, _, _, _, _]) st.front5 ty_agg42 rfl rfl rfl rfl rfl rfl ?_ | refine WL.storeL (vs := [_, _, _, _, _, _]) st.front5 ty_agg42 rfl rfl rfl rfl (by first | decide | omega) rfl rfl ?_ | refine WL.storeW (vs := [_, _, _, _, _, _]) st.front6 ty_agg42 rfl rfl rfl rfl rfl rfl ?_ | refine WL.storeL (vs := [_, _, _, _, _, _]) st.front6 ty_agg42 rfl rfl rfl rfl (by first | decide | omega) rfl rfl ?_ | refine WL.storeW (vs := [_, _, _, _, _, _]) st.front7 ty_agg42 rfl rfl rfl rfl rfl rfl ?_ | refine WL.storeL (vs := [_, _, _, _, _, _]) st.front7 ty_agg42 rfl rfl rfl rfl (by first | decide | omega) rfl rfl ?_ | refine WL.storeW (vs := [_, _, _, _, _, _]) st.front8 ty_agg42 rfl rfl rfl rfl rfl rfl ?_ | refine WL.storeL (vs := [_, _, _, _, _, _]) st.front8 ty_agg42 rfl rfl rfl rfl (by first | decide | omega) rfl rfl ?_
      intro w st
      refine TL.nxt' rfl ?_
      refine TL.wl ?_
      refine WL.join hKC (fun _ _ h => h) (b5, b6) st (by repeat (first | exact sub_nil _ | refine sub_cons rfl rfl ?_))
  clear st
  rintro ⟨b5, b6⟩ w st
  dsimp only at st ⊢
  rcases hil : (s'.tk i).live with _ | _ <;> rcases hwl : (s.tk i).live with _ | _
  · skip
    refine WC.seq fun K1918 hK1918 => ?_
    refine WC.seq fun K1919 hK1919 => ?_
    -- region 6
    refine WC.region ?_
    -- R6.0 25 := law.go:428 fieldAddr
    refine WL.v (by exact r_field ty_fld42_0 rfl) rfl rfl rfl ?_
    -- R6.1 26 := law.go:428 load
    refine WL.v (by exact r_load1 (v := .bool false) ty_one4 rfl (by rw [← hwl]; exact st.c1 (by decide))) rfl rfl rfl ?_
    -- R6.2 27 := law.go:428 move
    refine WL.v (by first | exact r_move (v := .bool _) rfl | exact r_move rfl) rfl rfl rfl ?_
    -- R6.3 28 := law.go:428 fieldAddr
    refine WL.no rfl rfl ?_
    -- R6.4 29 := law.go:428 load
    refine WL.no rfl rfl ?_
    -- R6.5 30 := law.go:428 pick
    refine WL.v (by first | exact r_pickT (v := .bool _) rfl rfl | exact r_pickF (v := .bool _) rfl rfl) rfl rfl rfl ?_
    -- R6.6 31 := law.go:428 move
    refine WL.v (by first | exact r_move (v := .bool _) rfl | exact r_move rfl) rfl rfl rfl ?_
    -- R6.7 32 := law.go:428 fieldAddr
    refine WL.no rfl rfl ?_
    -- R6.8 33 := law.go:428 load
    refine WL.no rfl rfl ?_
    -- R6.9 34 := law.go:428 fieldAddr
    refine WL.no rfl rfl ?_
    -- R6.10 35 := law.go:428 load
    refine WL.no rfl rfl ?_
    -- R6.11 36 := law.go:428 binOp
    refine WL.no rfl rfl ?_
    -- R6.12 37 := law.go:428 pick
    refine WL.v (by first | exact r_pickT (v := .bool _) rfl rfl | exact r_pickF (v := .bool _) rfl rfl) rfl rfl rfl ?_
    refine WL.fin hK1919 (fun _ _ h => h) ?_
    refine WC.condF rfl rfl ?_
    refine WC.skipF hK1918 (fun _ _ h => h) ?_
    refine WC.seq fun K1920 hK1920 => ?_
    refine WC.seq fun K1921 hK1921 => ?_
    -- region 8 (draws)
    refine WC.quietS st ty_mixed (by kernel_rfl) fun Kq hKq => ?_
    -- R8.0 38 := law.go:431 fieldAddr
    refine QL.v (fun w st => by exact r_field ty_fld42_0 rfl) rfl rfl rfl ?_
    -- R8.1 39 := law.go:431 load
    refine QL.v (fun w st => by exact r_load1 (v := .bool false) ty_one4 rfl (by rw [← hil]; exact st.c0 (by decide))) rfl rfl rfl ?_
    -- R8.2 40 := law.go:431 move
    refine QL.v (fun w st => by first | exact r_move (v := .bool _) rfl | exact r_move rfl) rfl rfl rfl ?_
    -- R8.3 41 := law.go:431 fieldAddr
    refine QL.no rfl rfl ?_
    -- R8.4 42 := law.go:431 load
    refine QL.no rfl rfl ?_
    -- R8.5 43 := law.go:431 binOp
    refine QL.no rfl rfl ?_
    -- R8.6 44 := law.go:431 move
    refine QL.no rfl rfl ?_
    -- R8.7 45 := law.go:431 fieldAddr
    refine QL.no rfl rfl ?_
    -- R8.8 46 := law.go:431 load
    refine QL.no rfl rfl ?_
    -- R8.9 47 := law.go:431 fieldAddr
    refine QL.no rfl rfl ?_
    -- R8.10 48 := law.go:431 load
    refine QL.no rfl rfl ?_
    -- R8.11 49 := law.go:431 nilCheck
    refine QL.no rfl rfl ?_
    -- R8.12 50 := law.go:431 fieldAddr
    refine QL.no rfl rfl ?_
    -- R8.13 51 := law.go:431 load
    refine QL.no rfl rfl ?_
    -- R8.14 52 := law.go:431 binOp
    refine QL.no rfl rfl ?_
    -- R8.15 53 := law.go:431 pick
    refine QL.no rfl rfl ?_
    -- R8.16 54 := law.go:431 move
    refine QL.no rfl rfl ?_
    -- R8.17 55 := law.go:431 move
    refine QL.no rfl rfl ?_
    -- R8.18 56 := law.go:431 fieldAddr
    refine QL.no rfl rfl ?_
    -- R8.19 57 := law.go:431 load
    refine QL.no rfl rfl ?_
    -- R8.20 58 := law.go:431 lookup
    refine QL.no rfl rfl ?_
    -- R8.21 59 := law.go:431 pick
    refine QL.no rfl rfl ?_
    -- R8.22 60 := law.go:431 pick
    refine QL.v (fun w st => by first | exact r_pickT (v := .bool _) rfl rfl | exact r_pickF (v := .bool _) rfl rfl) rfl rfl rfl ?_
    refine QL.wl hKq fun w st => ?_
    refine WL.fin hK1921 (fun _ _ h => h) ?_
    refine WC.condF rfl rfl ?_
    refine WC.skipF hK1920 (fun _ _ h => h) ?_
    -- region 10
    refine WC.region ?_
    -- R10.0 61 := law.go:434 move
    refine WL.v (by first | exact r_move (v := .map _) rfl | exact r_move rfl) rfl rfl rfl ?_
    -- R10.1 62 := law.go:434 fieldAddr
    refine WL.v (by exact r_field ty_fld42_1 rfl) rfl rfl rfl ?_
    -- R10.2 63 := law.go:434 load
    refine WL.v (by exact r_load1 (v := .int .u64 ((s'.tk i).birth : Nat)) ty_one26 rfl (st.c0 (by decide))) rfl rfl rfl ?_
    -- R10.3 64 := law.go:434 fieldAddr
    refine WL.v (by exact r_field ty_fld42_0 rfl) rfl rfl rfl ?_
    -- R10.4 65 := law.go:434 load
    refine WL.v (by exact r_load1 (v := .bool false) ty_one4 rfl (by rw [← hil]; exact st.c0 (by decide))) rfl rfl rfl ?_
    -- R10.5 None := law.go:434 mapUpdate
    refine WL.mapSet (key := .int .u64 ((s'.tk i).birth : Nat)) (val := .bool false) ty_kb26 st.front2 ty_mp85 rfl rfl rfl (goodU hb64) rfl rfl ?_
    intro G' w hS st
    refine WL.fin hK1916 (fun _ _ h => h) ?_
    -- region 11
    refine WC.region ?_
    -- R11.0 66 := law.go:426 binOp
    refine WL.v (by first | exact r_add rfl rfl (wi64 (by omega) (by omega)) | exact r_add rfl rfl rfl) rfl rfl rfl ?_
    -- R11.1 8 := law.go:426 move
    refine WL.v (by first | exact r_move (v := .int _ _) rfl | exact r_move rfl) rfl rfl rfl ?_
    refine WL.next hK2 (fun _ _ h => h) (i + 1, G') ⟨hi', hG.set hb hi' (by rw [hil]; exact hS), st.drop1.drop1⟩ (by show 16 - (i + 1) < 16 - i; omega) (by repeat (first | exact sub_nil _ | refine sub_cons rfl rfl ?_))
  · skip
    refine WC.seq fun K1922 hK1922 => ?_
    refine WC.seq fun K1923 hK1923 => ?_
    -- region 6
    refine WC.region ?_
    -- R6.0 25 := law.go:428 fieldAddr
    refine WL.v (by exact r_field ty_fld42_0 rfl) rfl rfl rfl ?_
    -- R6.1 26 := law.go:428 load
    refine WL.v (by exact r_load1 (v := .bool true) ty_one4 rfl (by rw [← hwl]; exact st.c1 (by decide))) rfl rfl rfl ?_
    -- R6.2 27 := law.go:428 move
    refine WL.v (by first | exact r_move (v := .bool _) rfl | exact r_move rfl) rfl rfl rfl ?_
    -- R6.3 28 := law.go:428 fieldAddr
    refine WL.v (by exact r_field ty_fld42_0 rfl) rfl rfl rfl ?_
    -- R6.4 29 := law.go:428 load
    refine WL.v (by exact r_load1 (v := .bool false) ty_one4 rfl (by rw [← hil]; exact st.c0 (by decide))) rfl rfl rfl ?_
    -- R6.5 30 := law.go:428 pick
    refine WL.v (by first | exact r_pickT (v := .bool _) rfl rfl | exact r_pickF (v := .bool _) rfl rfl) rfl rfl rfl ?_
    -- R6.6 31 := law.go:428 move
    refine WL.v (by first | exact r_move (v := .bool _) rfl | exact r_move rfl) rfl rfl rfl ?_
    -- R6.7 32 := law.go:428 fieldAddr
    refine WL.no rfl rfl ?_
    -- R6.8 33 := law.go:428 load
    refine WL.no rfl rfl ?_
    -- R6.9 34 := law.go:428 fieldAddr
    refine WL.no rfl rfl ?_
    -- R6.10 35 := law.go:428 load
    refine WL.no rfl rfl ?_
    -- R6.11 36 := law.go:428 binOp
    refine WL.no rfl rfl ?_
    -- R6.12 37 := law.go:428 pick
    refine WL.v (by first | exact r_pickT (v := .bool _) rfl rfl | exact r_pickF (v := .bool _) rfl rfl) rfl rfl rfl ?_
    refine WL.fin hK1923 (fun _ _ h => h) ?_
    refine WC.condF rfl rfl ?_
    refine WC.skipF hK1922 (fun _ _ h => h) ?_
    refine WC.seq fun K1924 hK1924 => ?_
    refine WC.seq fun K1925 hK1925 => ?_
    -- region 8 (draws)
    refine WC.quietS st ty_mixed (by kernel_rfl) fun Kq hKq => ?_
    -- R8.0 38 := law.go:431 fieldAddr
    refine QL.v (fun w st => by exact r_field ty_fld42_0 rfl) rfl rfl rfl ?_
    -- R8.1 39 := law.go:431 load
    refine QL.v (fun w st => by exact r_load1 (v := .bool false) ty_one4 rfl (by rw [← hil]; exact st.c0 (by decide))) rfl rfl rfl ?_
    -- R8.2 40 := law.go:431 move
    refine QL.v (fun w st => by first | exact r_move (v := .bool _) rfl | exact r_move rfl) rfl rfl rfl ?_
    -- R8.3 41 := law.go:431 fieldAddr
    refine QL.no rfl rfl ?_
    -- R8.4 42 := law.go:431 load
    refine QL.no rfl rfl ?_
    -- R8.5 43 := law.go:431 binOp
    refine QL.no rfl rfl ?_
    -- R8.6 44 := law.go:431 move
    refine QL.no rfl rfl ?_
    -- R8.7 45 := law.go:431 fieldAddr
    refine QL.no rfl rfl ?_
    -- R8.8 46 := law.go:431 load
    refine QL.no rfl rfl ?_
    -- R8.9 47 := law.go:431 fieldAddr
    refine QL.no rfl rfl ?_
    -- R8.10 48 := law.go:431 load
    refine QL.no rfl rfl ?_
    -- R8.11 49 := law.go:431 nilCheck
    refine QL.no rfl rfl ?_
    -- R8.12 50 := law.go:431 fieldAddr
    refine QL.no rfl rfl ?_
    -- R8.13 51 := law.go:431 load
    refine QL.no rfl rfl ?_
    -- R8.14 52 := law.go:431 binOp
    refine QL.no rfl rfl ?_
    -- R8.15 53 := law.go:431 pick
    refine QL.no rfl rfl ?_
    -- R8.16 54 := law.go:431 move
    refine QL.no rfl rfl ?_
    -- R8.17 55 := law.go:431 move
    refine QL.no rfl rfl ?_
    -- R8.18 56 := law.go:431 fieldAddr
    refine QL.no rfl rfl ?_
    -- R8.19 57 := law.go:431 load
    refine QL.no rfl rfl ?_
    -- R8.20 58 := law.go:431 lookup
    refine QL.no rfl rfl ?_
    -- R8.21 59 := law.go:431 pick
    refine QL.no rfl rfl ?_
    -- R8.22 60 := law.go:431 pick
    refine QL.v (fun w st => by first | exact r_pickT (v := .bool _) rfl rfl | exact r_pickF (v := .bool _) rfl rfl) rfl rfl rfl ?_
    refine QL.wl hKq fun w st => ?_
    refine WL.fin hK1925 (fun _ _ h => h) ?_
    refine WC.condF rfl rfl ?_
    refine WC.skipF hK1924 (fun _ _ h => h) ?_
    -- region 10
    refine WC.region ?_
    -- R10.0 61 := law.go:434 move
    refine WL.v (by first | exact r_move (v := .map _) rfl | exact r_move rfl) rfl rfl rfl ?_
    -- R10.1 62 := law.go:434 fieldAddr
    refine WL.v (by exact r_field ty_fld42_1 rfl) rfl rfl rfl ?_
    -- R10.2 63 := law.go:434 load
    refine WL.v (by exact r_load1 (v := .int .u64 ((s'.tk i).birth : Nat)) ty_one26 rfl (st.c0 (by decide))) rfl rfl rfl ?_
    -- R10.3 64 := law.go:434 fieldAddr
    refine WL.v (by exact r_field ty_fld42_0 rfl) rfl rfl rfl ?_
    -- R10.4 65 := law.go:434 load
    refine WL.v (by exact r_load1 (v := .bool false) ty_one4 rfl (by rw [← hil]; exact st.c0 (by decide))) rfl rfl rfl ?_
    -- R10.5 None := law.go:434 mapUpdate
    refine WL.mapSet (key := .int .u64 ((s'.tk i).birth : Nat)) (val := .bool false) ty_kb26 st.front2 ty_mp85 rfl rfl rfl (goodU hb64) rfl rfl ?_
    intro G' w hS st
    refine WL.fin hK1916 (fun _ _ h => h) ?_
    -- region 11
    refine WC.region ?_
    -- R11.0 66 := law.go:426 binOp
    refine WL.v (by first | exact r_add rfl rfl (wi64 (by omega) (by omega)) | exact r_add rfl rfl rfl) rfl rfl rfl ?_
    -- R11.1 8 := law.go:426 move
    refine WL.v (by first | exact r_move (v := .int _ _) rfl | exact r_move rfl) rfl rfl rfl ?_
    refine WL.next hK2 (fun _ _ h => h) (i + 1, G') ⟨hi', hG.set hb hi' (by rw [hil]; exact hS), st.drop1.drop1⟩ (by show 16 - (i + 1) < 16 - i; omega) (by repeat (first | exact sub_nil _ | refine sub_cons rfl rfl ?_))
  · skip
    have hlo := hlo hil
    have hG' := hG' hil
    refine WC.seq fun K1926 hK1926 => ?_
    refine WC.seq fun K1927 hK1927 => ?_
    -- region 6
    refine WC.region ?_
    -- R6.0 25 := law.go:428 fieldAddr
    refine WL.v (by exact r_field ty_fld42_0 rfl) rfl rfl rfl ?_
    -- R6.1 26 := law.go:428 load
    refine WL.v (by exact r_load1 (v := .bool false) ty_one4 rfl (by rw [← hwl]; exact st.c1 (by decide))) rfl rfl rfl ?_
    -- R6.2 27 := law.go:428 move
    refine WL.v (by first | exact r_move (v := .bool _) rfl | exact r_move rfl) rfl rfl rfl ?_
    -- R6.3 28 := law.go:428 fieldAddr
    refine WL.no rfl rfl ?_
    -- R6.4 29 := law.go:428 load
    refine WL.no rfl rfl ?_
    -- R6.5 30 := law.go:428 pick
    refine WL.v (by first | exact r_pickT (v := .bool _) rfl rfl | exact r_pickF (v := .bool _) rfl rfl) rfl rfl rfl ?_
    -- R6.6 31 := law.go:428 move
    refine WL.v (by first | exact r_move (v := .bool _) rfl | exact r_move rfl) rfl rfl rfl ?_
    -- R6.7 32 := law.go:428 fieldAddr
    refine WL.no rfl rfl ?_
    -- R6.8 33 := law.go:428 load
    refine WL.no rfl rfl ?_
    -- R6.9 34 := law.go:428 fieldAddr
    refine WL.no rfl rfl ?_
    -- R6.10 35 := law.go:428 load
    refine WL.no rfl rfl ?_
    -- R6.11 36 := law.go:428 binOp
    refine WL.no rfl rfl ?_
    -- R6.12 37 := law.go:428 pick
    refine WL.v (by first | exact r_pickT (v := .bool _) rfl rfl | exact r_pickF (v := .bool _) rfl rfl) rfl rfl rfl ?_
    refine WL.fin hK1927 (fun _ _ h => h) ?_
    refine WC.condF rfl rfl ?_
    refine WC.skipF hK1926 (fun _ _ h => h) ?_
    refine WC.seq fun K1928 hK1928 => ?_
    refine WC.seq fun K1929 hK1929 => ?_
    -- region 8 (draws)
    refine WC.quietS st ty_mixed (by kernel_rfl) fun Kq hKq => ?_
    -- R8.0 38 := law.go:431 fieldAddr
    refine QL.v (fun w st => by exact r_field ty_fld42_0 rfl) rfl rfl rfl ?_
    -- R8.1 39 := law.go:431 load
    refine QL.v (fun w st => by exact r_load1 (v := .bool true) ty_one4 rfl (by rw [← hil]; exact st.c0 (by decide))) rfl rfl rfl ?_
    -- R8.2 40 := law.go:431 move
    refine QL.v (fun w st => by first | exact r_move (v := .bool _) rfl | exact r_move rfl) rfl rfl rfl ?_
    -- R8.3 41 := law.go:431 fieldAddr
    refine QL.v (fun w st => by exact r_field ty_fld42_1 rfl) rfl rfl rfl ?_
    -- R8.4 42 := law.go:431 load
    refine QL.v (fun w st => by exact r_load1 (v := .int .u64 ((s'.tk i).birth : Nat)) ty_one26 rfl (st.c0 (by decide))) rfl rfl rfl ?_
    -- R8.5 43 := law.go:431 binOp
    refine QL.v (fun w st => by first | exact r_eql rfl rfl (decide_eq_true (by omega)) | exact r_eql rfl rfl (decide_eq_false (by omega)) | exact r_eql rfl rfl rfl) rfl rfl rfl ?_
    -- R8.6 44 := law.go:431 move
    refine QL.v (fun w st => by first | exact r_move (v := .bool _) rfl | exact r_move rfl) rfl rfl rfl ?_
    -- R8.7 45 := law.go:431 fieldAddr
    refine QL.v (fun w st => by exact r_field ty_fld42_1 rfl) rfl rfl rfl ?_
    -- R8.8 46 := law.go:431 load
    refine QL.v (fun w st => by exact r_load1 (v := .int .u64 ((s'.tk i).birth : Nat)) ty_one26 rfl (st.c0 (by decide))) rfl rfl rfl ?_
    -- R8.9 47 := law.go:431 fieldAddr
    refine QL.v (fun w st => by exact r_field ty_fld36_2 rfl) rfl rfl rfl ?_
    -- R8.10 48 := law.go:431 load
    refine QL.v (fun w st => by exact r_load1 (v := .pointer (some ⟨bA, 0, none⟩)) ty_one29 rfl (by rw [← f6]; exact st.c3 (by decide))) rfl rfl rfl ?_
    -- R8.11 49 := law.go:431 nilCheck
    refine QL.v (fun w st => by exact r_nilCheck rfl) rfl rfl rfl ?_
    -- R8.12 50 := law.go:431 fieldAddr
    refine QL.v (fun w st => by exact r_field ty_fld50_2 rfl) rfl rfl rfl ?_
    -- R8.13 51 := law.go:431 load
    refine QL.v (fun w st => by exact r_load1 (v := .int .u64 (s'.births : Nat)) ty_one26 rfl (c_s (List.mem_cons_of_mem _ (List.mem_cons_of_mem _ hck2.A)) (by decide) rfl st)) rfl rfl rfl ?_
    -- R8.14 52 := law.go:431 binOp
    refine QL.v (fun w st => by first | exact r_gtr rfl rfl (decide_eq_true (by omega)) | exact r_gtr rfl rfl (decide_eq_false (by omega)) | exact r_gtr rfl rfl rfl) rfl rfl rfl ?_
    -- R8.15 53 := law.go:431 pick
    refine QL.v (fun w st => by first | exact r_pickT (v := .bool _) rfl rfl | exact r_pickF (v := .bool _) rfl rfl) rfl rfl rfl ?_
    -- R8.16 54 := law.go:431 move
    refine QL.v (fun w st => by first | exact r_move (v := .bool _) rfl | exact r_move rfl) rfl rfl rfl ?_
    -- R8.17 55 := law.go:431 move
    refine QL.v (fun w st => by first | exact r_move (v := .map _) rfl | exact r_move rfl) rfl rfl rfl ?_
    -- R8.18 56 := law.go:431 fieldAddr
    refine QL.v (fun w st => by exact r_field ty_fld42_1 rfl) rfl rfl rfl ?_
    -- R8.19 57 := law.go:431 load
    refine QL.v (fun w st => by exact r_load1 (v := .int .u64 ((s'.tk i).birth : Nat)) ty_one26 rfl (st.c0 (by decide))) rfl rfl rfl ?_
    -- R8.20 58 := law.go:431 lookup
    refine QL.v (fun w st => by exact r_look (key := .int .u64 ((s'.tk i).birth : Nat)) ty_kb26 ty_mp85 ty_z14 rfl rfl st (List.mem_cons_of_mem _ (List.mem_cons_of_mem _ List.mem_cons_self)) (goodU hb64) hG') rfl rfl rfl ?_
    -- R8.21 59 := law.go:431 pick
    refine QL.v (fun w st => by first | exact r_pickT (v := .bool _) rfl rfl | exact r_pickF (v := .bool _) rfl rfl) rfl rfl rfl ?_
    -- R8.22 60 := law.go:431 pick
    refine QL.v (fun w st => by first | exact r_pickT (v := .bool _) rfl rfl | exact r_pickF (v := .bool _) rfl rfl) rfl rfl rfl ?_
    refine QL.wl hKq fun w st => ?_
    refine WL.fin hK1929 (fun _ _ h => h) ?_
    refine WC.condF rfl rfl ?_
    refine WC.skipF hK1928 (fun _ _ h => h) ?_
    -- region 10
    refine WC.region ?_
    -- R10.0 61 := law.go:434 move
    refine WL.v (by first | exact r_move (v := .map _) rfl | exact r_move rfl) rfl rfl rfl ?_
    -- R10.1 62 := law.go:434 fieldAddr
    refine WL.v (by exact r_field ty_fld42_1 rfl) rfl rfl rfl ?_
    -- R10.2 63 := law.go:434 load
    refine WL.v (by exact r_load1 (v := .int .u64 ((s'.tk i).birth : Nat)) ty_one26 rfl (st.c0 (by decide))) rfl rfl rfl ?_
    -- R10.3 64 := law.go:434 fieldAddr
    refine WL.v (by exact r_field ty_fld42_0 rfl) rfl rfl rfl ?_
    -- R10.4 65 := law.go:434 load
    refine WL.v (by exact r_load1 (v := .bool true) ty_one4 rfl (by rw [← hil]; exact st.c0 (by decide))) rfl rfl rfl ?_
    -- R10.5 None := law.go:434 mapUpdate
    refine WL.mapSet (key := .int .u64 ((s'.tk i).birth : Nat)) (val := .bool true) ty_kb26 st.front2 ty_mp85 rfl rfl rfl (goodU hb64) rfl rfl ?_
    intro G' w hS st
    refine WL.fin hK1916 (fun _ _ h => h) ?_
    -- region 11
    refine WC.region ?_
    -- R11.0 66 := law.go:426 binOp
    refine WL.v (by first | exact r_add rfl rfl (wi64 (by omega) (by omega)) | exact r_add rfl rfl rfl) rfl rfl rfl ?_
    -- R11.1 8 := law.go:426 move
    refine WL.v (by first | exact r_move (v := .int _ _) rfl | exact r_move rfl) rfl rfl rfl ?_
    refine WL.next hK2 (fun _ _ h => h) (i + 1, G') ⟨hi', hG.set hb hi' (by rw [hil]; exact hS), st.drop1.drop1⟩ (by show 16 - (i + 1) < 16 - i; omega) (by repeat (first | exact sub_nil _ | refine sub_cons rfl rfl ?_))
  · skip
    have hkb := hki hwl hil
    have hlo := hlo hil
    have hG' := hG' hil
    refine WC.seq fun K1930 hK1930 => ?_
    refine WC.seq fun K1931 hK1931 => ?_
    -- region 6
    refine WC.region ?_
    -- R6.0 25 := law.go:428 fieldAddr
    refine WL.v (by exact r_field ty_fld42_0 rfl) rfl rfl rfl ?_
    -- R6.1 26 := law.go:428 load
    refine WL.v (by exact r_load1 (v := .bool true) ty_one4 rfl (by rw [← hwl]; exact st.c1 (by decide))) rfl rfl rfl ?_
    -- R6.2 27 := law.go:428 move
    refine WL.v (by first | exact r_move (v := .bool _) rfl | exact r_move rfl) rfl rfl rfl ?_
    -- R6.3 28 := law.go:428 fieldAddr
    refine WL.v (by exact r_field ty_fld42_0 rfl) rfl rfl rfl ?_
    -- R6.4 29 := law.go:428 load
    refine WL.v (by exact r_load1 (v := .bool true) ty_one4 rfl (by rw [← hil]; exact st.c0 (by decide))) rfl rfl rfl ?_
    -- R6.5 30 := law.go:428 pick
    refine WL.v (by first | exact r_pickT (v := .bool _) rfl rfl | exact r_pickF (v := .bool _) rfl rfl) rfl rfl rfl ?_
    -- R6.6 31 := law.go:428 move
    refine WL.v (by first | exact r_move (v := .bool _) rfl | exact r_move rfl) rfl rfl rfl ?_
    -- R6.7 32 := law.go:428 fieldAddr
    refine WL.v (by exact r_field ty_fld42_1 rfl) rfl rfl rfl ?_
    -- R6.8 33 := law.go:428 load
    refine WL.v (by exact r_load1 (v := .int .u64 ((s.tk i).birth : Nat)) ty_one26 rfl (st.c1 (by decide))) rfl rfl rfl ?_
    -- R6.9 34 := law.go:428 fieldAddr
    refine WL.v (by exact r_field ty_fld42_1 rfl) rfl rfl rfl ?_
    -- R6.10 35 := law.go:428 load
    refine WL.v (by exact r_load1 (v := .int .u64 ((s'.tk i).birth : Nat)) ty_one26 rfl (st.c0 (by decide))) rfl rfl rfl ?_
    -- R6.11 36 := law.go:428 binOp
    refine WL.v (by first | exact r_neq rfl rfl (decide_eq_true (by omega)) | exact r_neq rfl rfl (decide_eq_false (by omega)) | exact r_neq rfl rfl rfl) rfl rfl rfl ?_
    -- R6.12 37 := law.go:428 pick
    refine WL.v (by first | exact r_pickT (v := .bool _) rfl rfl | exact r_pickF (v := .bool _) rfl rfl) rfl rfl rfl ?_
    refine WL.fin hK1931 (fun _ _ h => h) ?_
    refine WC.condF rfl rfl ?_
    refine WC.skipF hK1930 (fun _ _ h => h) ?_
    refine WC.seq fun K1932 hK1932 => ?_
    refine WC.seq fun K1933 hK1933 => ?_
    -- region 8 (draws)
    refine WC.quietS st ty_mixed (by kernel_rfl) fun Kq hKq => ?_
    -- R8.0 38 := law.go:431 fieldAddr
    refine QL.v (fun w st => by exact r_field ty_fld42_0 rfl) rfl rfl rfl ?_
    -- R8.1 39 := law.go:431 load
    refine QL.v (fun w st => by exact r_load1 (v := .bool true) ty_one4 rfl (by rw [← hil]; exact st.c0 (by decide))) rfl rfl rfl ?_
    -- R8.2 40 := law.go:431 move
    refine QL.v (fun w st => by first | exact r_move (v := .bool _) rfl | exact r_move rfl) rfl rfl rfl ?_
    -- R8.3 41 := law.go:431 fieldAddr
    refine QL.v (fun w st => by exact r_field ty_fld42_1 rfl) rfl rfl rfl ?_
    -- R8.4 42 := law.go:431 load
    refine QL.v (fun w st => by exact r_load1 (v := .int .u64 ((s'.tk i).birth : Nat)) ty_one26 rfl (st.c0 (by decide))) rfl rfl rfl ?_
    -- R8.5 43 := law.go:431 binOp
    refine QL.v (fun w st => by first | exact r_eql rfl rfl (decide_eq_true (by omega)) | exact r_eql rfl rfl (decide_eq_false (by omega)) | exact r_eql rfl rfl rfl) rfl rfl rfl ?_
    -- R8.6 44 := law.go:431 move
    refine QL.v (fun w st => by first | exact r_move (v := .bool _) rfl | exact r_move rfl) rfl rfl rfl ?_
    -- R8.7 45 := law.go:431 fieldAddr
    refine QL.v (fun w st => by exact r_field ty_fld42_1 rfl) rfl rfl rfl ?_
    -- R8.8 46 := law.go:431 load
    refine QL.v (fun w st => by exact r_load1 (v := .int .u64 ((s'.tk i).birth : Nat)) ty_one26 rfl (st.c0 (by decide))) rfl rfl rfl ?_
    -- R8.9 47 := law.go:431 fieldAddr
    refine QL.v (fun w st => by exact r_field ty_fld36_2 rfl) rfl rfl rfl ?_
    -- R8.10 48 := law.go:431 load
    refine QL.v (fun w st => by exact r_load1 (v := .pointer (some ⟨bA, 0, none⟩)) ty_one29 rfl (by rw [← f6]; exact st.c3 (by decide))) rfl rfl rfl ?_
    -- R8.11 49 := law.go:431 nilCheck
    refine QL.v (fun w st => by exact r_nilCheck rfl) rfl rfl rfl ?_
    -- R8.12 50 := law.go:431 fieldAddr
    refine QL.v (fun w st => by exact r_field ty_fld50_2 rfl) rfl rfl rfl ?_
    -- R8.13 51 := law.go:431 load
    refine QL.v (fun w st => by exact r_load1 (v := .int .u64 (s'.births : Nat)) ty_one26 rfl (c_s (List.mem_cons_of_mem _ (List.mem_cons_of_mem _ hck2.A)) (by decide) rfl st)) rfl rfl rfl ?_
    -- R8.14 52 := law.go:431 binOp
    refine QL.v (fun w st => by first | exact r_gtr rfl rfl (decide_eq_true (by omega)) | exact r_gtr rfl rfl (decide_eq_false (by omega)) | exact r_gtr rfl rfl rfl) rfl rfl rfl ?_
    -- R8.15 53 := law.go:431 pick
    refine QL.v (fun w st => by first | exact r_pickT (v := .bool _) rfl rfl | exact r_pickF (v := .bool _) rfl rfl) rfl rfl rfl ?_
    -- R8.16 54 := law.go:431 move
    refine QL.v (fun w st => by first | exact r_move (v := .bool _) rfl | exact r_move rfl) rfl rfl rfl ?_
    -- R8.17 55 := law.go:431 move
    refine QL.v (fun w st => by first | exact r_move (v := .map _) rfl | exact r_move rfl) rfl rfl rfl ?_
    -- R8.18 56 := law.go:431 fieldAddr
    refine QL.v (fun w st => by exact r_field ty_fld42_1 rfl) rfl rfl rfl ?_
    -- R8.19 57 := law.go:431 load
    refine QL.v (fun w st => by exact r_load1 (v := .int .u64 ((s'.tk i).birth : Nat)) ty_one26 rfl (st.c0 (by decide))) rfl rfl rfl ?_
    -- R8.20 58 := law.go:431 lookup
    refine QL.v (fun w st => by exact r_look (key := .int .u64 ((s'.tk i).birth : Nat)) ty_kb26 ty_mp85 ty_z14 rfl rfl st (List.mem_cons_of_mem _ (List.mem_cons_of_mem _ List.mem_cons_self)) (goodU hb64) hG') rfl rfl rfl ?_
    -- R8.21 59 := law.go:431 pick
    refine QL.v (fun w st => by first | exact r_pickT (v := .bool _) rfl rfl | exact r_pickF (v := .bool _) rfl rfl) rfl rfl rfl ?_
    -- R8.22 60 := law.go:431 pick
    refine QL.v (fun w st => by first | exact r_pickT (v := .bool _) rfl rfl | exact r_pickF (v := .bool _) rfl rfl) rfl rfl rfl ?_
    refine QL.wl hKq fun w st => ?_
    refine WL.fin hK1933 (fun _ _ h => h) ?_
    refine WC.condF rfl rfl ?_
    refine WC.skipF hK1932 (fun _ _ h => h) ?_
    -- region 10
    refine WC.region ?_
    -- R10.0 61 := law.go:434 move
    refine WL.v (by first | exact r_move (v := .map _) rfl | exact r_move rfl) rfl rfl rfl ?_
    -- R10.1 62 := law.go:434 fieldAddr
    refine WL.v (by exact r_field ty_fld42_1 rfl) rfl rfl rfl ?_
    -- R10.2 63 := law.go:434 load
    refine WL.v (by exact r_load1 (v := .int .u64 ((s'.tk i).birth : Nat)) ty_one26 rfl (st.c0 (by decide))) rfl rfl rfl ?_
    -- R10.3 64 := law.go:434 fieldAddr
    refine WL.v (by exact r_field ty_fld42_0 rfl) rfl rfl rfl ?_
    -- R10.4 65 := law.go:434 load
    refine WL.v (by exact r_load1 (v := .bool true) ty_one4 rfl (by rw [← hil]; exact st.c0 (by decide))) rfl rfl rfl ?_
    -- R10.5 None := law.go:434 mapUpdate
    refine WL.mapSet (key := .int .u64 ((s'.tk i).birth : Nat)) (val := .bool true) ty_kb26 st.front2 ty_mp85 rfl rfl rfl (goodU hb64) rfl rfl ?_
    intro G' w hS st
    refine WL.fin hK1916 (fun _ _ h => h) ?_
    -- region 11
    refine WC.region ?_
    -- R11.0 66 := law.go:426 binOp
    refine WL.v (by first | exact r_add rfl rfl (wi64 (by omega) (by omega)) | exact r_add rfl rfl rfl) rfl rfl rfl ?_
    -- R11.1 8 := law.go:426 move
    refine WL.v (by first | exact r_move (v := .int _ _) rfl | exact r_move rfl) rfl rfl rfl ?_
    refine WL.next hK2 (fun _ _ h => h) (i + 1, G') ⟨hi', hG.set hb hi' (by rw [hil]; exact hS), st.drop1.drop1⟩ (by show 16 - (i + 1) < 16 - i; omega) (by repeat (first | exact sub_nil _ | refine sub_cons rfl rfl ?_))
theorem births_ok (a : Option Addr) (sb so n c : Nat) (op : Nat → Kern.Op) (hD : gD w) (hS : Scr w sb so n op) (hn63 : n ≤ 140737488355328) (ha : 0 < n → a = some ⟨sb, so, none⟩) :
    Calls Tryz.prog 17 #[.slice a n c] w (Ret fun v w' => v = .bool true ∧ S0 w [] w') := by
  have st : S0 w [] w := St.init w _
  by_cases hn : n ≤ 65536
  · have hC : CheckOK w 60 #[] op n fun _ LI => LI = [] := by
      refine check_pure fun i hi bB bA qv qv' ov l w' hck st' => ?_
      have hK := run_KI op i
      have hI := run_INV op i
      have hb := run_BI op i
      have hb' := run_BI op (i + 1)
      have hK' := run_KI op (i + 1)
      have h1 := hK'.births
      have h2 := birth_step (o := op i) hK.b hI hb
      refine births1_ok (s := runP op i) (s' := runP op (i + 1)) hb' (fun t ht hl hl2 => h2.2 t ht hl hl2) (by omega) (fun t ht => ?_) hck st'
      rcases hl : ((runP op (i + 1)).tk t).live with _ | _
      · have := hb'.vz t ht hl; omega
      · have := hb'.lo t ht hl; omega
    refine enter [.slice a n c] Tryz.func17 rfl Tryz.ntmps17 rfl ?_
    show WC _ _ _ 8 [] [(0, .slice a n c)] _
    refine WC.seq fun K1934 hK1934 => ?_
    -- region 0
    refine WC.region ?_
    -- R0.0 2 := law.go:419 assign
    refine WL.v (by first | exact r_assign (v := .bool _) rfl | exact r_assign rfl) rfl rfl rfl ?_
    refine WL.fin hK1934 (fun _ _ h => h) ?_
    refine WC.seq fun K1935 hK1935 => ?_
    refine WC.seq fun K1936 hK1936 => ?_
    -- region 1
    refine WC.region ?_
    -- R1.0 3 := law.go:420 move
    refine WL.v (by first | exact r_move (v := .slice _ _ _) rfl | exact r_move rfl) rfl rfl rfl ?_
    -- R1.1 4 := law.go:420 call
    refine WL.call (r_call ty_call23 rfl) rfl rfl rfl (zzSmall1_ok a n c st) ?_
    rintro _ w' ⟨he, st⟩
    rw [decide_eq_true hn] at he
    subst he
    -- R1.2 5 := law.go:420 unOp
    refine WL.v (by first | exact r_notT rfl | exact r_notF rfl | exact r_not rfl) rfl rfl rfl ?_
    refine WL.fin hK1936 (fun _ _ h => h) ?_
    refine WC.condF rfl rfl ?_
    refine WC.skipF hK1935 (fun _ _ h => h) ?_
    refine WC.seq fun K1937 hK1937 => ?_
    -- region 3
    refine WC.region ?_
    -- R3.0 6 := law.go:424 move
    refine WL.v (by first | exact r_move (v := .slice _ _ _) rfl | exact r_move rfl) rfl rfl rfl ?_
    -- R3.1 7 := law.go:424 call
    refine WL.call (r_call ty_call24 rfl) rfl rfl rfl (play_ok (LI := []) (l := []) ty_call60 hD hS hn ha hC rfl st) ?_
    rintro _ w'' ⟨rfl, LI', rfl, st⟩
    -- R3.2 2 := law.go:424 assign
    refine WL.v (by first | exact r_assign (v := .bool _) rfl | exact r_assign rfl) rfl rfl rfl ?_
    refine WL.fin hK1937 (fun _ _ h => h) ?_
    refine WC.ret1 Tryz.results17 (fun _ _ h => h) rfl ?_
    exact ⟨_, rfl, rfl, st⟩
  · skip
    refine enter [.slice a n c] Tryz.func17 rfl Tryz.ntmps17 rfl ?_
    show WC _ _ _ 8 [] [(0, .slice a n c)] _
    refine WC.seq fun K1938 hK1938 => ?_
    -- region 0
    refine WC.region ?_
    -- R0.0 2 := law.go:419 assign
    refine WL.v (by first | exact r_assign (v := .bool _) rfl | exact r_assign rfl) rfl rfl rfl ?_
    refine WL.fin hK1938 (fun _ _ h => h) ?_
    refine WC.seq fun K1939 hK1939 => ?_
    refine WC.seq fun K1940 hK1940 => ?_
    -- region 1
    refine WC.region ?_
    -- R1.0 3 := law.go:420 move
    refine WL.v (by first | exact r_move (v := .slice _ _ _) rfl | exact r_move rfl) rfl rfl rfl ?_
    -- R1.1 4 := law.go:420 call
    refine WL.call (r_call ty_call23 rfl) rfl rfl rfl (zzSmall1_ok a n c st) ?_
    rintro _ w' ⟨he, st⟩
    rw [decide_eq_false hn] at he
    subst he
    -- R1.2 5 := law.go:420 unOp
    refine WL.v (by first | exact r_notT rfl | exact r_notF rfl | exact r_not rfl) rfl rfl rfl ?_
    refine WL.fin hK1940 (fun _ _ h => h) ?_
    refine WC.condT rfl rfl ?_
    refine WC.seq fun K1941 hK1941 => ?_
    -- region 2
    refine WC.region ?_
    -- R2.0 2 := law.go:421 assign
    refine WL.v (by first | exact r_assign (v := .bool _) rfl | exact r_assign rfl) rfl rfl rfl ?_
    refine WL.fin hK1941 (fun _ _ h => h) ?_
    refine WC.ret1 Tryz.results17 (fun _ _ h => h) rfl ?_
    exact ⟨_, rfl, rfl, st⟩
end Go.Proofs.Qxb6500834aGreatDoor

