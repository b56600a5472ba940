import Derived.Test.Qxb6500834aGreatDoorK34
set_option linter.unusedVariables false
set_option linter.unusedSimpArgs false
set_option maxRecDepth 20000
namespace Go.Proofs.Qxb6500834aGreatDoor
open Go.RowKit Go.E1 Go.Kern
variable {w0 : World} {L L' l I J K K' X Y : List HI} {w : World} {s : KS} {B : KA} {t r N n : Nat}

/-- A script in memory. -/
structure Scr (w0 : World) (sb so n : Nat) (op : Nat → Kern.Op) : Prop where
  cell : ∀ i, i < n → ∀ k, k < 5 → w0.cell? ⟨sb, so + i * 5 + k, none⟩ = some (nth (opL (op i)) k)
  kind : ∀ i, i < n → (op i).kind < 256
  x : ∀ i, i < n → (op i).X < 18446744073709551616
  b : ∀ i, i < n → -9223372036854775808 ≤ (op i).B ∧ (op i).B ≤ 9223372036854775807
theorem Scr.ld {sb so n i : Nat} {op : Nat → Kern.Op} (h : Scr w0 sb so n op) (hi : i < n) (st : S0 w0 l w) (k : Nat) (hk : k < 5) : w.cell? ⟨sb, so + i * 5 + k, none⟩ = some (nth (opL (op i)) k) := st.old (fun h => h) (h.cell i hi k hk)
theorem zzSmall1_ok (a : Option Addr) (n c : Nat) (st : S0 w0 L w) :
    Calls Tryz.prog 23 #[.slice a n c] w (Ret fun v w' => v = .bool (decide (n ≤ 65536)) ∧ S0 w0 L w') := by
  by_cases hn : 65536 < n
  · skip
    refine enter [.slice a n c] Tryz.func23 rfl Tryz.ntmps23 rfl ?_
    show WC _ _ _ 8 [] [(0, .slice a n c)] _
    refine WC.seq fun K1371 hK1371 => ?_
    -- region 0
    refine WC.region ?_
    -- R0.0 2 := zzsize.go:10 assign
    refine WL.v (by first | exact r_assign (v := .bool _) rfl | exact r_assign rfl) rfl rfl rfl ?_
    refine WL.fin hK1371 (fun _ _ h => h) ?_
    refine WC.seq fun K1372 hK1372 => ?_
    -- region 1
    refine WC.region ?_
    -- R1.0 4 := zzsize.go:11 move
    refine WL.v (by first | exact r_move (v := .slice _ _ _) rfl | exact r_move rfl) rfl rfl rfl ?_
    -- R1.1 5 := zzsize.go:11 call
    refine WL.v (by exact r_len ty_usl22 rfl) rfl rfl rfl ?_
    -- R1.2 3 := zzsize.go:11 assign
    refine WL.v (by first | exact r_assign (v := .int _ _) rfl | exact r_assign rfl) rfl rfl rfl ?_
    refine WL.fin hK1372 (fun _ _ h => h) ?_
    refine WC.seq fun K1373 hK1373 => ?_
    refine WC.seq fun K1374 hK1374 => ?_
    -- region 2
    refine WC.region ?_
    -- R2.0 6 := zzsize.go:12 move
    refine WL.v (by first | exact r_move (v := .int _ _) rfl | exact r_move rfl) rfl rfl rfl ?_
    -- R2.1 7 := zzsize.go:12 binOp
    refine WL.v (by first | exact r_gtr rfl rfl (decide_eq_true (by omega)) | exact r_gtr rfl rfl (decide_eq_false (by omega)) | exact r_gtr rfl rfl rfl) rfl rfl rfl ?_
    refine WL.fin hK1374 (fun _ _ h => h) ?_
    refine WC.condT rfl rfl ?_
    refine WC.seq fun K1375 hK1375 => ?_
    -- region 3
    refine WC.region ?_
    -- R3.0 2 := zzsize.go:13 assign
    refine WL.v (by first | exact r_assign (v := .bool _) rfl | exact r_assign rfl) rfl rfl rfl ?_
    refine WL.fin hK1375 (fun _ _ h => h) ?_
    refine WC.ret1 Tryz.results23 (fun _ _ h => h) rfl ?_
    exact ⟨_, rfl, by rw [decide_eq_false (by omega)]; rfl, st⟩
  · skip
    refine enter [.slice a n c] Tryz.func23 rfl Tryz.ntmps23 rfl ?_
    show WC _ _ _ 8 [] [(0, .slice a n c)] _
    refine WC.seq fun K1376 hK1376 => ?_
    -- region 0
    refine WC.region ?_
    -- R0.0 2 := zzsize.go:10 assign
    refine WL.v (by first | exact r_assign (v := .bool _) rfl | exact r_assign rfl) rfl rfl rfl ?_
    refine WL.fin hK1376 (fun _ _ h => h) ?_
    refine WC.seq fun K1377 hK1377 => ?_
    -- region 1
    refine WC.region ?_
    -- R1.0 4 := zzsize.go:11 move
    refine WL.v (by first | exact r_move (v := .slice _ _ _) rfl | exact r_move rfl) rfl rfl rfl ?_
    -- R1.1 5 := zzsize.go:11 call
    refine WL.v (by exact r_len ty_usl22 rfl) rfl rfl rfl ?_
    -- R1.2 3 := zzsize.go:11 assign
    refine WL.v (by first | exact r_assign (v := .int _ _) rfl | exact r_assign rfl) rfl rfl rfl ?_
    refine WL.fin hK1377 (fun _ _ h => h) ?_
    refine WC.seq fun K1378 hK1378 => ?_
    refine WC.seq fun K1379 hK1379 => ?_
    -- region 2
    refine WC.region ?_
    -- R2.0 6 := zzsize.go:12 move
    refine WL.v (by first | exact r_move (v := .int _ _) rfl | exact r_move rfl) rfl rfl rfl ?_
    -- R2.1 7 := zzsize.go:12 binOp
    refine WL.v (by first | exact r_gtr rfl rfl (decide_eq_true (by omega)) | exact r_gtr rfl rfl (decide_eq_false (by omega)) | exact r_gtr rfl rfl rfl) rfl rfl rfl ?_
    refine WL.fin hK1379 (fun _ _ h => h) ?_
    refine WC.condF rfl rfl ?_
    refine WC.skipF hK1378 (fun _ _ h => h) ?_
    refine WC.seq fun K1380 hK1380 => ?_
    -- region 4
    refine WC.region ?_
    -- R4.0 2 := zzsize.go:15 assign
    refine WL.v (by first | exact r_assign (v := .bool _) rfl | exact r_assign rfl) rfl rfl rfl ?_
    refine WL.fin hK1380 (fun _ _ h => h) ?_
    refine WC.ret1 Tryz.results23 (fun _ _ h => h) rfl ?_
    exact ⟨_, rfl, by rw [decide_eq_true (by omega)]; rfl, st⟩

/-- The kernel behind i steps. -/
def runP (op : Nat → Kern.Op) : Nat → KS
  | 0 => ks0
  | i + 1 => afterP (runP op i) (op i)
theorem run_KI (op : Nat → Kern.Op) : ∀ i, KI i (runP op i)
  | 0 => KI.init
  | i + 1 => (run_KI op i).step
theorem KH.items (h : KH w0 B s L w) : ∃ Z, S0 w0 (L ++ Z) w ∧ ∀ {L' : List HI} {w' : World}, S0 w0 (L' ++ Z) w' → KH w0 B s L' w' := by
  obtain ⟨qv, XQ, tv, XT, ov, XO, hq, ht, ho, st⟩ := h
  exact ⟨kR B.bk B.bm B.br B.bp s.tk s.cells s.births ov :: mI B.bm s.now s.armed tv :: rI B.br s.held qv :: pI B.bp s.mode s.claim :: (XT ++ (XO ++ gather 20 XQ)), st.perm (by classical exact List.perm_iff_count.2 fun x => by simp only [List.count_append, List.count_cons, List.count_nil, List.append_eq, List.cons_append, List.nil_append, List.append_assoc, Nat.add_zero, Nat.zero_add] <;> ac_rfl), fun {L' w'} st' => ⟨qv, XQ, tv, XT, ov, XO, hq, ht, ho, st'.perm (by classical exact List.perm_iff_count.2 fun x => by simp only [List.count_append, List.count_cons, List.count_nil, List.append_eq, List.cons_append, List.nil_append, List.append_assoc, Nat.add_zero, Nat.zero_add] <;> ac_rfl)⟩⟩
def stepL (o : Kern.Op) (bB bA : Nat) (code task : Int) (ov : Value) : List Value := [.int .u8 (o.kind : Nat), .int .i64 o.A, .int .i64 o.B, .int .i64 o.C, .int .u64 (o.X : Nat), .pointer (some ⟨bB, 0, none⟩), .pointer (some ⟨bA, 0, none⟩), .int .i64 code, .int .i64 task, ov]
/-- What a law's question asks of a step: before, after, what was answered; J: the law's own memory. -/
structure Qs (w0 : World) (s s' : KS) (ans : List (Nat × Nat × Nat)) (bB bA : Nat) (qv qv' : Nat → Value) (XS XS' : Nat → List HI) (ov : Value) (XO : List HI) : Prop where
  q : ∀ r, r < 20 → QL0 (qv r) (s.queue r) (XS r)
  q' : ∀ r, r < 20 → QL0 (qv' r) (s'.queue r) (XS' r)
  o : OL0 ov ans XO
abbrev QIs (s s' : KS) (bB bA : Nat) (qv qv' : Nat → Value) (XS XS' : Nat → List HI) (XO l : List HI) : List HI := sI bB s qv :: sI bA s' qv' :: (gather 20 XS ++ (gather 20 XS' ++ (XO ++ l)))
def CheckOK (w0 : World) (F : Nat) (cap : Array Value) (op : Nat → Kern.Op) (n : Nat) (J : Nat → List HI → Prop) : Prop :=
  ∀ (i : Nat) (bB bA : Nat) (qv qv' : Nat → Value) (XS XS' : Nat → List HI) (ov : Value) (XO LI Z : List HI) (w : World), i < n → J i LI →
    Qs w0 (runP op i) (runP op (i + 1)) (stepP (runP op i) (op i)).1.told bB bA qv qv' XS XS' ov XO →
    S0 w0 (QIs (runP op i) (runP op (i + 1)) bB bA qv qv' XS XS' XO (LI ++ Z)) w →
    Calls Tryz.prog F (([.agg (stepL (op i) bB bA (stepP (runP op i) (op i)).2.1 (stepP (runP op i) (op i)).2.2 ov).toArray] : List Value) ++ cap.toList).toArray w
      (Ret fun v w' => v = .bool true ∧ ∃ LI', J (i + 1) LI' ∧ S0 w0 (QIs (runP op i) (runP op (i + 1)) bB bA qv qv' XS XS' XO (LI' ++ Z)) w')
set_option maxHeartbeats 4000000 in
theorem play_ok {F : Nat} {cap : Array Value} {op : Nat → Kern.Op} {J : Nat → List HI → Prop} {a : Option Addr} {sb so n c : Nat} {LI : List HI} (hF : callT Tryz.prog F = true) (hD : gD w0) (hS : Scr w0 sb so n op) (hn : n ≤ 65536) (ha : 0 < n → a = some ⟨sb, so, none⟩) (hC : CheckOK w0 F cap op n J) (hJ : J 0 LI) (st : S0 w0 (LI ++ l) w) :
    Calls Tryz.prog 24 #[.slice a n c, .func (.func F) #[] cap] w (Ret fun v w' => v = .bool true ∧ ∃ LI', J n LI' ∧ S0 w0 (LI' ++ l) w') := by
  refine enter [.slice a n c, .func (.func F) #[] cap] Tryz.func24 rfl Tryz.ntmps24 rfl ?_
  show WC _ _ _ 33 [] [(0, .slice a n c), (1, .func (.func F) #[] cap)] _
  refine WC.seq fun K1381 hK1381 => ?_
  -- region 0
  refine WC.region ?_
  -- R0.0 4 := law.go:50 assign
  refine WL.v (by first | exact r_assign (v := .bool _) rfl | exact r_assign rfl) rfl rfl rfl ?_
  refine WL.fin hK1381 (fun _ _ h => h) ?_
  refine WC.seq fun K1382 hK1382 => ?_
  -- region 1
  refine WC.region ?_
  -- R1.0 11 := law.go:51 call
  refine WL.call (r_call ty_call51 rfl) rfl rfl rfl (newK_ok st) ?_
  rintro _ w ⟨B, rfl, st⟩
  -- R1.1 5 := law.go:51 assign
  refine WL.v (by first | exact r_assign (v := .pointer _) rfl | exact r_assign rfl) rfl rfl rfl ?_
  refine WL.fin hK1382 (fun _ _ h => h) ?_
  refine WC.seq fun K1383 hK1383 => ?_
  -- region 2
  refine WC.region ?_
  -- R2.0 12 := law.go:52 move
  refine WL.v (by first | exact r_move (v := .pointer _) rfl | exact r_move rfl) rfl rfl rfl ?_
  -- R2.1 13 := law.go:52 call
  refine WL.call (r_call ty_call53 rfl) rfl rfl rfl (snapshot_ok KB0' (by decide) st) ?_
  rintro _ w ⟨qv, XS, hq, rfl, st⟩
  obtain ⟨Z0, st, back0⟩ := st.items
  -- R2.2 6 := law.go:52 alloc
  refine WL.allocN (m := 771) st zero50 rfl rfl ?_
  intro b6 w st
  -- R2.3 None := law.go:52 store
  refine WL.storeN (v := sF ks0 qv) st ty_agg50 rfl rfl (sF_one (fun r hr => ql_one (hq r hr))) (by decide) rfl rfl ?_
  intro w st
  have st : S0 w0 ((sI b6 ks0 qv :: (gather 20 XS ++ (LI ++ l))) ++ Z0) w := stE (fun k hk => by rw [upds_eq, if_pos (by omega), Nat.sub_zero]) st
  have st := back0 st
  refine WL.fin hK1383 (fun _ _ h => h) ?_
  refine WC.seq fun K1384 hK1384 => ?_
  refine WC.seq fun K1385 hK1385 => ?_
  -- region 3
  refine WC.region ?_
  -- R3.0 14 := law.go:53 move
  refine WL.v (by first | exact r_move (v := .slice _ _ _) rfl | exact r_move rfl) rfl rfl rfl ?_
  -- R3.1 15 := law.go:53 call
  refine WL.v (by exact r_len ty_usl22 rfl) rfl rfl rfl ?_
  -- R3.2 16 := law.go:53 move
  refine WL.v (by first | exact r_move (v := .int _ _) rfl | exact r_move rfl) rfl rfl rfl ?_
  refine WL.fin hK1385 (fun _ _ h => h) ?_
  refine WC.block ?_
  refine WC.loop (ι := Nat × (Nat → Value) × (Nat → List HI) × List HI) (fun y => [(0, .slice a n c), (1, .func (.func F) #[] cap), (5, .pointer (some ⟨B.bk, 0, none⟩)), (6, .pointer (some ⟨b6, 0, none⟩)), (14, .slice a n c), (15, .int .i64 (n : Nat)), (16, .int .i64 (y.1 : Nat))])
    (fun y w' => y.1 ≤ n ∧ J y.1 y.2.2.2 ∧ (∀ r, r < 20 → QL0 (y.2.1 r) ((runP op y.1).queue r) (y.2.2.1 r)) ∧ KH w0 B (runP op y.1) (sI b6 (runP op y.1) y.2.1 :: (gather 20 y.2.2.1 ++ (y.2.2.2 ++ l))) w') (fun y => n - y.1) (0, qv, XS, LI) ⟨Nat.zero_le _, hJ, hq, st⟩ ?_ ?_
  · skip
    repeat (first | exact sub_nil _ | refine sub_cons rfl rfl ?_)
  clear st hJ hq back0
  rintro ⟨i, qv, XS, LI⟩ w ⟨hi, hJ, hq, st⟩ K1 hK1
  dsimp only at hi hJ hq st ⊢
  by_cases hin : i = n
  · subst hin
    refine WC.seq fun K1386 hK1386 => ?_
    -- region 4
    refine WC.region ?_
    -- R4.0 17 := law.go:53 binOp
    refine WL.v (by first | exact r_lss rfl rfl (decide_eq_true (by omega)) | exact r_lss rfl rfl (decide_eq_false (by omega)) | exact r_lss rfl rfl rfl) rfl rfl rfl ?_
    refine WL.fin hK1386 (fun _ _ h => h) ?_
    refine WC.seq fun K1387 hK1387 => ?_
    refine WC.condF rfl rfl ?_
    refine WC.exitF hK1384 (fun _ _ h => h) ?_
    refine WC.seq fun K1388 hK1388 => ?_
    -- region 12
    refine WC.region ?_
    -- R12.0 4 := law.go:61 assign
    refine WL.v (by first | exact r_assign (v := .bool _) rfl | exact r_assign rfl) rfl rfl rfl ?_
    refine WL.fin hK1388 (fun _ _ h => h) ?_
    refine WC.ret1 Tryz.results24 (fun _ _ h => h) rfl ?_
    obtain ⟨Z, st, back⟩ := st.items
    refine ⟨_, rfl, rfl, LI, hJ, ?_⟩
    exact st.drop.sublist ((List.sublist_append_right (gather 20 XS) (LI ++ l)).trans (List.sublist_append_left _ _))
  have hin' : i < n := by omega
  obtain ⟨σ, hσ⟩ : ∃ σ, σ = runP op i := ⟨_, rfl⟩
  obtain ⟨σ', hσ'⟩ : ∃ σ', σ' = runP op (i + 1) := ⟨_, rfl⟩
  have hKI : KI i σ := by rw [hσ]; exact run_KI op i
  have hKI' : KI (i + 1) σ' := by rw [hσ']; exact run_KI op (i + 1)
  have hafter : σ' = { (stepP σ (op i)).1 with told := [] } := by rw [hσ', hσ]; rfl
  have hCi := hC i b6
  rw [← hσ, ← hσ'] at hCi
  rw [← hσ] at hq st
  have hk256 := hS.kind i hin'
  have hx64 := hS.x i hin'
  obtain rfl := ha (by omega)
  have hKn := hKI.now
  have hKa := hKI.armed
  have hKb := hKI.births
  obtain ⟨Z, st, back⟩ := st.items
  refine WC.seq fun K1389 hK1389 => ?_
  -- region 4
  refine WC.region ?_
  -- R4.0 17 := law.go:53 binOp
  refine WL.v (by first | exact r_lss rfl rfl (decide_eq_true (by omega)) | exact r_lss rfl rfl (decide_eq_false (by omega)) | exact r_lss rfl rfl rfl) rfl rfl rfl ?_
  refine WL.fin hK1389 (fun _ _ h => h) ?_
  refine WC.seq fun K1390 hK1390 => ?_
  refine WC.condT rfl rfl ?_
  refine WC.skipF hK1390 (fun _ _ h => h) ?_
  refine WC.seq fun K1391 hK1391 => ?_
  refine WC.block ?_
  refine WC.seq fun K1392 hK1392 => ?_
  -- region 5
  refine WC.region ?_
  -- R5.0 18 := law.go:53 indexAddr
  refine WL.v (by exact r_indexS (j := i) ty_sl22 rfl rfl rfl (by omega)) rfl rfl rfl ?_
  -- R5.1 19 := law.go:53 load
  refine WL.v (by exact r_loadL (vs := opL (op i)) ty_agg28 rfl ⟨hS.ld hin' st 0 (by decide), hS.ld hin' st 1 (by decide), hS.ld hin' st 2 (by decide), hS.ld hin' st 3 (by decide), hS.ld hin' st 4 (by decide), trivial⟩) rfl rfl rfl ?_
  -- R5.2 8 := law.go:53 alloc
  refine WL.alloc (m := 5) st ty_zero28 rfl rfl rfl ?_
  intro b8 w st
  -- R5.3 None := law.go:53 store
  refine WL.storeW (vs := opL (op i)) st ty_agg28 rfl rfl rfl rfl rfl rfl ?_
  intro w st
  have st := back (L' := oI b8 (op i) :: sI b6 σ qv :: (gather 20 XS ++ (LI ++ l))) st
  obtain ⟨Z1, st, back1⟩ := st.items
  refine WL.fin hK1392 (fun _ _ h => h) ?_
  refine WC.seq fun K1393 hK1393 => ?_
  -- region 6
  refine WC.region ?_
  -- R6.0 20 := law.go:54 move
  refine WL.v (by first | exact r_move (v := .pointer _) rfl | exact r_move rfl) rfl rfl rfl ?_
  -- R6.1 21 := law.go:54 load
  refine WL.v (by exact r_loadL (vs := opL (op i)) ty_agg28 rfl ⟨st.c0 (by decide), st.c0 (by decide), st.c0 (by decide), st.c0 (by decide), st.c0 (by decide), trivial⟩) rfl rfl rfl ?_
  -- R6.2 22 := law.go:54 call
  refine WL.call (r_call ty_call52 rfl) rfl rfl rfl (step_ok (o := op i) hD hKI.b (by omega) (by omega) (by omega) (by omega) hk256 hx64 (back1 st)) ?_
  rintro _ w ⟨ov, XO, hor, rfl, st⟩
  rw [← hafter] at st
  have hor' := hor
  obtain ⟨ar, cr, br, rfl, -, -, -, -⟩ := hor.form
  obtain ⟨Z2, st, back2⟩ := st.items
  -- R6.3 9 := law.go:54 alloc
  refine WL.alloc (m := 3) st ty_zero34 rfl rfl rfl ?_
  intro b9 w st
  -- R6.4 None := law.go:54 store
  refine WL.storeW (vs := [.int .i64 (stepP σ (op i)).2.1, .int .i64 (stepP σ (op i)).2.2, .slice ar (stepP σ (op i)).1.told.length cr]) st ty_agg34 rfl rfl rfl rfl rfl rfl ?_
  intro w st
  have st := back2 (L' := (b9, Row 34 3 (nth [.int .i64 (stepP σ (op i)).2.1, .int .i64 (stepP σ (op i)).2.2, .slice ar (stepP σ (op i)).1.told.length cr])) :: (XO ++ (oI b8 (op i) :: sI b6 σ qv :: (gather 20 XS ++ (LI ++ l))))) st
  refine WL.fin hK1393 (fun _ _ h => h) ?_
  refine WC.seq fun K1394 hK1394 => ?_
  -- region 7
  refine WC.region ?_
  -- R7.0 23 := law.go:55 move
  refine WL.v (by first | exact r_move (v := .pointer _) rfl | exact r_move rfl) rfl rfl rfl ?_
  -- R7.1 24 := law.go:55 call
  refine WL.call (r_call ty_call53 rfl) rfl rfl rfl (snapshot_ok hKI'.b (by omega) st) ?_
  rintro _ w ⟨qv', XS', hq', rfl, st⟩
  obtain ⟨Z3, st, back3⟩ := st.items
  -- R7.2 10 := law.go:55 alloc
  refine WL.allocN (m := 771) st zero50 rfl rfl ?_
  intro b10 w st
  -- R7.3 None := law.go:55 store
  refine WL.storeN (v := sF σ' qv') st ty_agg50 rfl rfl (sF_one (fun r hr => ql_one (hq' r hr))) (by decide) rfl rfl ?_
  intro w st
  have st : S0 w0 (sI b10 σ' qv' :: ((gather 20 XS' ++ ((b9, Row 34 3 (nth [.int .i64 (stepP σ (op i)).2.1, .int .i64 (stepP σ (op i)).2.2, .slice ar (stepP σ (op i)).1.told.length cr])) :: (XO ++ (oI b8 (op i) :: sI b6 σ qv :: (gather 20 XS ++ (LI ++ l)))))) ++ Z3)) w := stE (fun k hk => by rw [upds_eq, if_pos (by omega), Nat.sub_zero]) st
  have st : S0 w0 (oI b8 (op i) :: (b9, Row 34 3 (nth [.int .i64 (stepP σ (op i)).2.1, .int .i64 (stepP σ (op i)).2.2, .slice ar (stepP σ (op i)).1.told.length cr])) :: (QIs σ σ' b6 b10 qv qv' XS XS' XO (LI ++ (l ++ Z3)))) w := st.perm (by classical exact List.perm_iff_count.2 fun x => by simp only [List.count_append, List.count_cons, List.count_nil, List.append_eq, List.cons_append, List.nil_append, List.append_assoc, Nat.add_zero, Nat.zero_add] <;> ac_rfl)
  refine WL.fin hK1394 (fun _ _ h => h) ?_
  refine WC.seq fun K1395 hK1395 => ?_
  refine WC.seq fun K1396 hK1396 => ?_
  -- region 8
  refine WC.region ?_
  -- R8.0 25 := law.go:56 move
  refine WL.v (by first | exact r_move (v := .func _ _ _) rfl | exact r_move (v := .nilFunc) rfl | exact r_move rfl) rfl rfl rfl ?_
  -- R8.1 26 := law.go:56 load
  refine WL.v (by exact r_loadL (vs := opL (op i)) ty_agg28 rfl ⟨st.c0 (by decide), st.c0 (by decide), st.c0 (by decide), st.c0 (by decide), st.c0 (by decide), trivial⟩) rfl rfl rfl ?_
  -- R8.2 27 := law.go:56 load
  refine WL.v (by exact r_loadL (vs := [.int .i64 (stepP σ (op i)).2.1, .int .i64 (stepP σ (op i)).2.2, .slice ar (stepP σ (op i)).1.told.length cr]) ty_agg34 rfl ⟨st.c1 (by decide), st.c1 (by decide), st.c1 (by decide), trivial⟩) rfl rfl rfl ?_
  -- R8.3 28 := law.go:56 build
  refine WL.v (by exact r_build (ps := [(0, .agg (opL (op i)).toArray), (1, .pointer (some ⟨b6, 0, none⟩)), (2, .pointer (some ⟨b10, 0, none⟩)), (3, .agg #[.int .i64 (stepP σ (op i)).2.1, .int .i64 (stepP σ (op i)).2.2, .slice ar (stepP σ (op i)).1.told.length cr])]) (vs := stepL (op i) b6 b10 (stepP σ (op i)).2.1 (stepP σ (op i)).2.2 (.slice ar (stepP σ (op i)).1.told.length cr)) ty_pl36 ty_zero36 rfl rfl) rfl rfl rfl ?_
  -- R8.4 29 := law.go:56 call
  have st := st.drop.drop
  refine WL.call (r_callv hF rfl rfl) rfl rfl rfl (hCi b10 qv qv' XS XS' _ XO LI (l ++ Z3) w hin' hJ ⟨hq, hq', hor'⟩ st) ?_
  rintro _ w ⟨rfl, LI', hJ', st⟩
  -- R8.5 30 := law.go:56 unOp
  refine WL.v (by first | exact r_notT rfl | exact r_notF rfl | exact r_not rfl) rfl rfl rfl ?_
  refine WL.fin hK1396 (fun _ _ h => h) ?_
  refine WC.condF rfl rfl ?_
  refine WC.skipF hK1395 (fun _ _ h => h) ?_
  -- region 10
  refine WC.region ?_
  -- R10.0 31 := law.go:59 load
  refine WL.v (by exact r_loadN (f := sF σ' qv') ty_agg50 rfl (fun k hk => by rw [Nat.zero_add]; exact st.c1 hk)) rfl rfl rfl ?_
  -- R10.1 None := law.go:59 store
  refine WL.storeN (v := sF σ' qv') st ty_agg50 rfl rfl (sF_one (fun r hr => ql_one (hq' r hr))) (by decide) rfl rfl ?_
  intro w st
  have st : S0 w0 (QIs σ' σ' b6 b10 qv' qv' XS XS' XO (LI' ++ (l ++ Z3))) w := stE (fun k hk => by rw [upds_eq, if_pos (by omega), Nat.sub_zero]) st
  have st : S0 w0 (sI b10 σ' qv' :: (gather 20 XS ++ (XO ++ ((sI b6 σ' qv' :: (gather 20 XS' ++ (LI' ++ l))) ++ Z3)))) w := st.perm (by classical exact List.perm_iff_count.2 fun x => by simp only [List.count_append, List.count_cons, List.count_nil, List.append_eq, List.cons_append, List.nil_append, List.append_assoc, Nat.add_zero, Nat.zero_add] <;> ac_rfl)
  have st := back3 (st_dropL (st_dropL st.drop))
  refine WL.fin hK1391 (fun _ _ h => h) ?_
  -- region 11
  refine WC.region ?_
  -- R11.0 32 := law.go:53 binOp
  refine WL.v (by first | exact r_add rfl rfl (wi64 (by omega) (by omega)) | exact r_add rfl rfl rfl) rfl rfl rfl ?_
  -- R11.1 16 := law.go:53 move
  refine WL.v (by first | exact r_move (v := .int _ _) rfl | exact r_move rfl) rfl rfl rfl ?_
  refine WL.next hK1 (fun _ _ h => h) (i + 1, qv', XS', LI') ⟨hin', hJ', by rw [← hσ']; exact hq', by rw [← hσ']; exact st⟩ (by show n - (i + 1) < n - i; omega) (by repeat (first | exact sub_nil _ | refine sub_cons rfl rfl ?_))
end Go.Proofs.Qxb6500834aGreatDoor

