import Derived.Test.Qxb6500834aGreatDoorK50
set_option linter.unusedVariables false
set_option linter.unusedSimpArgs false
set_option maxRecDepth 20000
namespace Go.Proofs.Qxb6500834aGreatDoor
open Go.RowKit Go.E1 Go.Kern
theorem ty_agg36 : aggT Tryz.prog 36 = some 10 := by kernel_rfl
theorem ty_bool4 : Program.underlying Tryz.prog 4 = some .bool := by kernel_rfl
theorem ty_call33 : callT Tryz.prog 33 = true := by kernel_rfl
theorem ty_call61 : callT Tryz.prog 61 = true := by kernel_rfl
variable {w0 : World} {l X : List HI} {w : World} {s s' s0 : KS} {t r N n : Nat} {qv qv' : Nat → Value}

/-! Laws whose question keeps one block of its own. -/
theorem check_one {F b T m : Nat} {f : KS → Nat → Value} {op : Nat → Kern.Op} {n : Nat} (h : ∀ i, i < n → ∀ (bB bA : Nat) (qv qv' : Nat → Value) (ov : Value) (l : List HI) (w : World), CK (runP op i) (runP op (i + 1)) (stepP (runP op i) (op i)).1.told bB bA qv qv' ov l → S0 w0 ((b, Row T m (f (runP op i))) :: l) w →
    Calls Tryz.prog F #[.agg (stepL (op i) bB bA (stepP (runP op i) (op i)).2.1 (stepP (runP op i) (op i)).2.2 ov).toArray, .pointer (some ⟨b, 0, none⟩)] w (Ret fun v w' => v = .bool true ∧ S0 w0 ((b, Row T m (f (runP op (i + 1)))) :: l) w')) : CheckOK w0 F #[.pointer (some ⟨b, 0, none⟩)] op n fun i LI => LI = [(b, Row T m (f (runP op i)))] := by
  rintro i bB bA qv qv' XS XS' ov XO LI Z w' hi rfl hQ st'
  refine (h i hi bB bA qv qv' ov (QIs (runP op i) (runP op (i + 1)) bB bA qv qv' XS XS' XO Z) w' (CK.of hQ) (st'.perm (by classical exact List.perm_iff_count.2 fun x => by simp only [List.count_append, List.count_cons, List.count_nil, List.append_eq, List.cons_append, List.nil_append, List.append_assoc, Nat.add_zero, Nat.zero_add] <;> ac_rfl))).mono ?_
  rintro e w'' ⟨v, rfl, rfl, st''⟩
  exact ⟨_, rfl, rfl, _, rfl, st''.perm (by classical exact List.perm_iff_count.2 fun x => by simp only [List.count_append, List.count_cons, List.count_nil, List.append_eq, List.cons_append, List.nil_append, List.append_assoc, Nat.add_zero, Nat.zero_add] <;> ac_rfl)⟩
set_option maxHeartbeats 4000000 in
theorem pending1_ok {o : Kern.Op} {bB bA : Nat} {code task : Int} {ov : Value} {ans : List (Nat × Nat × Nat)} {b0 : Nat}  (hA : PA (wtF s) ans) (h1 : code ≠ 1 → ∀ t, t < 16 → wtF s' t = ans.foldl opF (wtF s) t) (h2 : code = 1 → ∃ t : Nat, o.A = t ∧ t < 16 ∧ cfT o = t ∧ cfB s o = true ∧ ans.foldl opF (wtF s) t = false ∧ ∀ a, a < 16 → wtF s' a = updN (ans.foldl opF (wtF s)) t true a) (hck : CK s s' ans bB bA qv qv' ov l) (st : S0 w0 ((b0, Row 86 16 (bF (wtF s))) :: l) w) :
    Calls Tryz.prog 61 #[.agg (stepL o bB bA code task ov).toArray, .pointer (some ⟨b0, 0, none⟩)] w (Ret fun v w' => v = .bool true ∧ S0 w0 ((b0, Row 86 16 (bF (wtF s'))) :: l) w') := by
  obtain ⟨XO, ho, hXO⟩ := hck.a
  obtain ⟨a, c, b, rfl, hc1, hc2, ha, hcell⟩ := ho.form
  obtain ⟨fs, hfs⟩ : ∃ fs : Nat → Value, fs = nth (stepL o bB bA code task (.slice a ans.length c)) := ⟨_, rfl⟩
  have f0 : fs 0 = .int .u8 (o.kind : Nat) := by rw [hfs]; rfl
  have f1 : fs 1 = .int .i64 o.A := by rw [hfs]; rfl
  have f2 : fs 2 = .int .i64 o.B := by rw [hfs]; rfl
  have f3 : fs 3 = .int .i64 o.C := by rw [hfs]; rfl
  have f4 : fs 4 = .int .u64 (o.X : Nat) := by rw [hfs]; rfl
  have f5 : fs 5 = .pointer (some ⟨bB, 0, none⟩) := by rw [hfs]; rfl
  have f6 : fs 6 = .pointer (some ⟨bA, 0, none⟩) := by rw [hfs]; rfl
  have f7 : fs 7 = .int .i64 code := by rw [hfs]; rfl
  have f8 : fs 8 = .int .i64 task := by rw [hfs]; rfl
  have f9 : fs 9 = .slice a ans.length c := by rw [hfs]; rfl
  refine enter [.agg (stepL o bB bA code task (.slice a ans.length c)).toArray, .pointer (some ⟨b0, 0, none⟩)] Tryz.func61 rfl Tryz.ntmps61 rfl ?_
  show WC _ _ _ 78 [] [(0, .agg (stepL o bB bA code task (.slice a ans.length c)).toArray), (1, .pointer (some ⟨b0, 0, none⟩))] _
  refine WC.seq fun K1810 hK1810 => ?_
  -- region 0
  refine WC.region ?_
  -- R0.0 2 := law.go:449 box
  refine WL.box (m := 10) (vs := stepL o bB bA code task (.slice a ans.length c)) st rfl rfl rfl rfl rfl rfl ?_
  intro b2 w st
  have st : S0 w0 ((b0, Row 86 16 (bF (wtF s))) :: (b2, Row 36 10 fs) :: l) w := by rw [hfs]; exact st.front1
  -- R0.1 3 := law.go:449 assign
  refine WL.v (by first | exact r_assign (v := .bool _) rfl | exact r_assign rfl) rfl rfl rfl ?_
  refine WL.fin hK1810 (fun _ _ h => h) ?_
  refine WC.seq fun K1811 hK1811 => ?_
  refine WC.seq fun K1812 hK1812 => ?_
  -- region 1
  refine WC.region ?_
  -- R1.0 9 := law.go:450 fieldAddr
  refine WL.v (by exact r_field ty_fld36_3 rfl) rfl rfl rfl ?_
  -- R1.1 10 := law.go:450 fieldAddr
  refine WL.v (by exact r_field ty_fld34_2 rfl) rfl rfl rfl ?_
  -- R1.2 11 := law.go:450 load
  refine WL.v (by exact r_load1 (v := .slice a ans.length c) ty_one32 rfl (by rw [← f9]; exact st.c1 (by decide))) rfl rfl rfl ?_
  -- R1.3 12 := law.go:450 call
  refine WL.v (by exact r_len ty_usl32 rfl) rfl rfl rfl ?_
  -- R1.4 13 := law.go:450 move
  refine WL.v (by first | exact r_move (v := .int _ _) rfl | exact r_move rfl) rfl rfl rfl ?_
  refine WL.fin hK1812 (fun _ _ h => h) ?_
  refine WC.block ?_
  refine WC.loop (ι := Nat) (fun k => [(1, .pointer (some ⟨b0, 0, none⟩)), (2, .pointer (some ⟨b2, 0, none⟩)), (11, .slice a ans.length c), (12, .int .i64 (ans.length : Nat)), (13, .int .i64 (k : Nat))])
    (fun k w' => k ≤ ans.length ∧ S0 w0 ((b0, Row 86 16 (bF ((ans.take k).foldl opF (wtF s)))) :: (b2, Row 36 10 fs) :: l) w') (fun k => ans.length - k) 0 ⟨Nat.zero_le _, st⟩ ?_ ?_
  · skip
    repeat (first | exact sub_nil _ | refine sub_cons rfl rfl ?_)
  clear st
  rintro k w ⟨hk, st⟩ K2 hK2
  by_cases hkl : k = ans.length
  rotate_left
  · have hkl' : k < ans.length := by omega
    obtain ⟨e, he⟩ : ∃ e, ans[k]? = some e := ⟨ans[k], List.getElem?_eq_getElem hkl'⟩
    have hEa := PA_at hA k e he
    have hfo := foldl_snoc (f := opF) (b := wtF s) he
    obtain ⟨F, hF⟩ : ∃ F, F = (ans.take k).foldl opF (wtF s) := ⟨_, rfl⟩
    rw [← hF] at hEa hfo st
    have hfo : (ans.take (k + 1)).foldl opF (wtF s) = updN F e.1 false := hfo
    have hE16 : e.1 < 16 := hEa.1
    have hae := ha (by omega)
    have hce := fun j hj => hcell st (fun x hx => List.mem_cons_of_mem _ (List.mem_cons_of_mem _ (hXO hx))) k e he j hj
    rcases hEa.2 with h3 | ⟨hop, h0 | h4⟩
    · skip
      refine WC.seq fun K1813 hK1813 => ?_
      -- region 2
      refine WC.region ?_
      -- R2.0 14 := law.go:450 binOp
      refine WL.v (by first | exact r_lss rfl rfl (decide_eq_true (by omega)) | exact r_lss rfl rfl (decide_eq_false (by omega)) | exact r_lss rfl rfl rfl) rfl rfl rfl ?_
      refine WL.fin hK1813 (fun _ _ h => h) ?_
      refine WC.seq fun K1814 hK1814 => ?_
      refine WC.condT rfl rfl ?_
      refine WC.skipF hK1814 (fun _ _ h => h) ?_
      refine WC.seq fun K1815 hK1815 => ?_
      refine WC.block ?_
      refine WC.seq fun K1816 hK1816 => ?_
      -- region 3
      refine WC.region ?_
      -- R3.0 15 := law.go:450 indexAddr
      refine WL.v (by exact r_indexS (j := k) ty_sl32 (congrArg (fun q => Value.slice q ans.length c) hae) rfl rfl (by omega)) rfl rfl rfl ?_
      -- R3.1 16 := law.go:450 load
      refine WL.v (by exact r_loadL (vs := [.int .i64 (e.1 : Nat), .int .u64 (e.2.1 : Nat), .int .i64 (e.2.2 : Nat)]) ty_agg83 rfl ⟨by rw [Nat.zero_add]; exact hce 0 (by decide), by rw [Nat.zero_add]; exact hce 1 (by decide), by rw [Nat.zero_add]; exact hce 2 (by decide), trivial⟩) rfl rfl rfl ?_
      -- R3.2 5 := law.go:450 alloc
      refine WL.alloc (m := 3) st ty_zero83 rfl rfl rfl ?_
      intro b5 w st
      -- R3.3 None := law.go:450 store
      first | refine WL.storeW (vs := [_, _, _]) st ty_agg83 rfl rfl rfl rfl rfl rfl ?_ | refine WL.storeL (vs := [_, _, _]) st ty_agg83 rfl rfl rfl rfl (by first | decide | omega) rfl rfl ?_ | refine WL.storeW (vs := [_, _, _]) st.front1 ty_agg83 rfl rfl rfl rfl rfl rfl ?_ | refine WL.storeL (vs := [_, _, _]) st.front1 ty_agg83 rfl rfl rfl rfl (by first | decide | omega) rfl rfl ?_ | refine WL.storeW (vs := [_, _, _]) st.front2 ty_agg83 rfl rfl rfl rfl rfl rfl ?_ | refine WL.storeL (vs := [_, _, _]) st.front2 ty_agg83 rfl rfl rfl rfl (by first | decide | omega) rfl rfl ?_ | refine WL.storeW (vs := [_, _, _]) st.front3 ty_agg83 rfl rfl rfl rfl rfl rfl ?_ | refine WL.storeL (vs := [_, _, _]) st.front3 ty_agg83 rfl rfl rfl rfl (by first | decide | omega) rfl rfl ?_ | refine WL.storeW (vs := [_, _, _]) st.front4 ty_agg83 rfl rfl rfl rfl rfl rfl ?_ | refine WL.storeL (vs := [_, _, _]) st.front4 ty_agg83 rfl rfl rfl rfl (by first | decide | omega) rfl rfl ?_ | refine WL.storeW (vs := [_, _, _]) st.front5 ty_agg83 rfl rfl rfl rfl rfl rfl ?_ | refine WL.storeL (vs := [_, _, _]) st.front5 ty_agg83 rfl rfl rfl rfl (by first | decide | omega) rfl rfl ?_ | refine WL.storeW (vs := [_, _, _]) st.front6 ty_agg83 rfl rfl rfl rfl rfl rfl ?_ | refine WL.storeL (vs := [_, _, _]) st.front6 ty_agg83 rfl rfl rfl rfl (by first | decide | omega) rfl rfl ?_ | refine WL.storeW (vs := [_, _, _]) st.front7 ty_agg83 rfl rfl rfl rfl rfl rfl ?_ | refine WL.storeL (vs := [_, _, _]) st.front7 ty_agg83 rfl rfl rfl rfl (by first | decide | omega) rfl rfl ?_ | refine WL.storeW (vs := [_, _, _]) st.front8 ty_agg83 rfl rfl rfl rfl rfl rfl ?_ | refine WL.storeL (vs := [_, _, _]) st.front8 ty_agg83 rfl rfl rfl rfl (by first | decide | omega) rfl rfl ?_
      intro w st
      refine WL.fin hK1816 (fun _ _ h => h) ?_
      refine WC.seq fun K1817 hK1817 => ?_
      refine WC.seq fun K1818 hK1818 => ?_
      -- region 4
      refine WC.region ?_
      -- R4.0 17 := law.go:451 fieldAddr
      refine WL.v (by exact r_field ty_fld83_2 rfl) rfl rfl rfl ?_
      -- R4.1 18 := law.go:451 load
      refine WL.v (by exact r_load1 ty_one30 rfl (by first | assumption | exact st.c0 (by first | decide | omega) | exact st.c1 (by first | decide | omega) | exact st.c2 (by first | decide | omega) | exact st.c3 (by first | decide | omega) | exact st.c4 (by first | decide | omega) | exact st.c5 (by first | decide | omega) | exact st.c6 (by first | decide | omega) | exact st.c7 (by first | decide | omega) | exact st.c8 (by first | decide | omega))) rfl rfl rfl ?_
      -- R4.2 19 := law.go:451 binOp
      refine WL.v (by first | exact r_neq rfl rfl (decide_eq_true (by omega)) | exact r_neq rfl rfl (decide_eq_false (by omega)) | exact r_neq rfl rfl rfl) rfl rfl rfl ?_
      -- R4.3 20 := law.go:451 move
      refine WL.v (by first | exact r_move (v := .bool _) rfl | exact r_move rfl) rfl rfl rfl ?_
      -- R4.4 21 := law.go:451 fieldAddr
      refine WL.no rfl rfl ?_
      -- R4.5 22 := law.go:451 load
      refine WL.no rfl rfl ?_
      -- R4.6 23 := law.go:451 indexAddr
      refine WL.no rfl rfl ?_
      -- R4.7 24 := law.go:451 load
      refine WL.no rfl rfl ?_
      -- R4.8 25 := law.go:451 unOp
      refine WL.no rfl rfl ?_
      -- R4.9 26 := law.go:451 pick
      refine WL.v (by first | exact r_pickT (v := .bool _) rfl rfl | exact r_pickF (v := .bool _) rfl rfl) rfl rfl rfl ?_
      refine WL.fin hK1818 (fun _ _ h => h) ?_
      refine WC.condF rfl rfl ?_
      refine WC.skipF hK1817 (fun _ _ h => h) ?_
      refine WC.seq fun K1819 hK1819 => ?_
      refine WC.seq fun K1820 hK1820 => ?_
      -- region 6
      refine WC.region ?_
      -- R6.0 27 := law.go:454 fieldAddr
      refine WL.v (by exact r_field ty_fld83_2 rfl) rfl rfl rfl ?_
      -- R6.1 28 := law.go:454 load
      refine WL.v (by exact r_load1 ty_one30 rfl (by first | assumption | exact st.c0 (by first | decide | omega) | exact st.c1 (by first | decide | omega) | exact st.c2 (by first | decide | omega) | exact st.c3 (by first | decide | omega) | exact st.c4 (by first | decide | omega) | exact st.c5 (by first | decide | omega) | exact st.c6 (by first | decide | omega) | exact st.c7 (by first | decide | omega) | exact st.c8 (by first | decide | omega))) rfl rfl rfl ?_
      -- R6.2 29 := law.go:454 binOp
      refine WL.v (by first | exact r_neq rfl rfl (decide_eq_true (by omega)) | exact r_neq rfl rfl (decide_eq_false (by omega)) | exact r_neq rfl rfl rfl) rfl rfl rfl ?_
      -- R6.3 30 := law.go:454 move
      refine WL.v (by first | exact r_move (v := .bool _) rfl | exact r_move rfl) rfl rfl rfl ?_
      -- R6.4 31 := law.go:454 fieldAddr
      refine WL.v (by exact r_field ty_fld83_2 rfl) rfl rfl rfl ?_
      -- R6.5 32 := law.go:454 load
      refine WL.v (by exact r_load1 ty_one30 rfl (by first | assumption | exact st.c0 (by first | decide | omega) | exact st.c1 (by first | decide | omega) | exact st.c2 (by first | decide | omega) | exact st.c3 (by first | decide | omega) | exact st.c4 (by first | decide | omega) | exact st.c5 (by first | decide | omega) | exact st.c6 (by first | decide | omega) | exact st.c7 (by first | decide | omega) | exact st.c8 (by first | decide | omega))) rfl rfl rfl ?_
      -- R6.6 33 := law.go:454 binOp
      refine WL.v (by first | exact r_neq rfl rfl (decide_eq_true (by omega)) | exact r_neq rfl rfl (decide_eq_false (by omega)) | exact r_neq rfl rfl rfl) rfl rfl rfl ?_
      -- R6.7 34 := law.go:454 pick
      refine WL.v (by first | exact r_pickT (v := .bool _) rfl rfl | exact r_pickF (v := .bool _) rfl rfl) rfl rfl rfl ?_
      -- R6.8 35 := law.go:454 move
      refine WL.v (by first | exact r_move (v := .bool _) rfl | exact r_move rfl) rfl rfl rfl ?_
      -- R6.9 36 := law.go:454 fieldAddr
      refine WL.v (by exact r_field ty_fld83_2 rfl) rfl rfl rfl ?_
      -- R6.10 37 := law.go:454 load
      refine WL.v (by exact r_load1 ty_one30 rfl (by first | assumption | exact st.c0 (by first | decide | omega) | exact st.c1 (by first | decide | omega) | exact st.c2 (by first | decide | omega) | exact st.c3 (by first | decide | omega) | exact st.c4 (by first | decide | omega) | exact st.c5 (by first | decide | omega) | exact st.c6 (by first | decide | omega) | exact st.c7 (by first | decide | omega) | exact st.c8 (by first | decide | omega))) rfl rfl rfl ?_
      -- R6.11 38 := law.go:454 binOp
      refine WL.v (by first | exact r_neq rfl rfl (decide_eq_true (by omega)) | exact r_neq rfl rfl (decide_eq_false (by omega)) | exact r_neq rfl rfl rfl) rfl rfl rfl ?_
      -- R6.12 39 := law.go:454 pick
      refine WL.v (by first | exact r_pickT (v := .bool _) rfl rfl | exact r_pickF (v := .bool _) rfl rfl) rfl rfl rfl ?_
      refine WL.fin hK1820 (fun _ _ h => h) ?_
      refine WC.condF rfl rfl ?_
      refine WC.skipF hK1819 (fun _ _ h => h) ?_
      -- region 8
      refine WC.region ?_
      -- R8.0 40 := law.go:457 fieldAddr
      refine WL.v (by exact r_field ty_fld83_0 rfl) rfl rfl rfl ?_
      -- R8.1 41 := law.go:457 load
      refine WL.v (by exact r_load1 ty_one31 rfl (by first | assumption | exact st.c0 (by first | decide | omega) | exact st.c1 (by first | decide | omega) | exact st.c2 (by first | decide | omega) | exact st.c3 (by first | decide | omega) | exact st.c4 (by first | decide | omega) | exact st.c5 (by first | decide | omega) | exact st.c6 (by first | decide | omega) | exact st.c7 (by first | decide | omega) | exact st.c8 (by first | decide | omega))) rfl rfl rfl ?_
      -- R8.2 42 := law.go:457 indexAddr
      refine WL.v (by exact r_indexA (j := e.1) ty_ar86 rfl rfl rfl hEa.1) rfl rfl rfl ?_
      -- R8.3 None := law.go:457 store
      first | refine WL.store (v := .bool _) st ty_one4 rfl rfl rfl (by first | decide | omega) rfl rfl ?_ | refine WL.store (v := _) st ty_one4 rfl rfl rfl (by first | decide | omega) rfl rfl ?_ | refine WL.store (v := .bool _) st.front1 ty_one4 rfl rfl rfl (by first | decide | omega) rfl rfl ?_ | refine WL.store (v := _) st.front1 ty_one4 rfl rfl rfl (by first | decide | omega) rfl rfl ?_ | refine WL.store (v := .bool _) st.front2 ty_one4 rfl rfl rfl (by first | decide | omega) rfl rfl ?_ | refine WL.store (v := _) st.front2 ty_one4 rfl rfl rfl (by first | decide | omega) rfl rfl ?_ | refine WL.store (v := .bool _) st.front3 ty_one4 rfl rfl rfl (by first | decide | omega) rfl rfl ?_ | refine WL.store (v := _) st.front3 ty_one4 rfl rfl rfl (by first | decide | omega) rfl rfl ?_ | refine WL.store (v := .bool _) st.front4 ty_one4 rfl rfl rfl (by first | decide | omega) rfl rfl ?_ | refine WL.store (v := _) st.front4 ty_one4 rfl rfl rfl (by first | decide | omega) rfl rfl ?_ | refine WL.store (v := .bool _) st.front5 ty_one4 rfl rfl rfl (by first | decide | omega) rfl rfl ?_ | refine WL.store (v := _) st.front5 ty_one4 rfl rfl rfl (by first | decide | omega) rfl rfl ?_ | refine WL.store (v := .bool _) st.front6 ty_one4 rfl rfl rfl (by first | decide | omega) rfl rfl ?_ | refine WL.store (v := _) st.front6 ty_one4 rfl rfl rfl (by first | decide | omega) rfl rfl ?_ | refine WL.store (v := .bool _) st.front7 ty_one4 rfl rfl rfl (by first | decide | omega) rfl rfl ?_ | refine WL.store (v := _) st.front7 ty_one4 rfl rfl rfl (by first | decide | omega) rfl rfl ?_ | refine WL.store (v := .bool _) st.front8 ty_one4 rfl rfl rfl (by first | decide | omega) rfl rfl ?_ | refine WL.store (v := _) st.front8 ty_one4 rfl rfl rfl (by first | decide | omega) rfl rfl ?_
      intro w st
      refine WL.fin hK1815 (fun _ _ h => h) ?_
      -- region 9
      refine WC.region ?_
      -- R9.0 43 := law.go:450 binOp
      refine WL.v (by first | exact r_add rfl rfl (wi64 (by omega) (by omega)) | exact r_add rfl rfl rfl) rfl rfl rfl ?_
      -- R9.1 13 := law.go:450 move
      refine WL.v (by first | exact r_move (v := .int _ _) rfl | exact r_move rfl) rfl rfl rfl ?_
      refine WL.next hK2 (fun _ _ h => h) (k + 1) ⟨hkl', by rw [hfo]; exact (stE (bF_set (n := 16)) st).drop1⟩ (by omega) (by repeat (first | exact sub_nil _ | refine sub_cons rfl rfl ?_))
    · skip
      refine WC.seq fun K1821 hK1821 => ?_
      -- region 2
      refine WC.region ?_
      -- R2.0 14 := law.go:450 binOp
      refine WL.v (by first | exact r_lss rfl rfl (decide_eq_true (by omega)) | exact r_lss rfl rfl (decide_eq_false (by omega)) | exact r_lss rfl rfl rfl) rfl rfl rfl ?_
      refine WL.fin hK1821 (fun _ _ h => h) ?_
      refine WC.seq fun K1822 hK1822 => ?_
      refine WC.condT rfl rfl ?_
      refine WC.skipF hK1822 (fun _ _ h => h) ?_
      refine WC.seq fun K1823 hK1823 => ?_
      refine WC.block ?_
      refine WC.seq fun K1824 hK1824 => ?_
      -- region 3
      refine WC.region ?_
      -- R3.0 15 := law.go:450 indexAddr
      refine WL.v (by exact r_indexS (j := k) ty_sl32 (congrArg (fun q => Value.slice q ans.length c) hae) rfl rfl (by omega)) rfl rfl rfl ?_
      -- R3.1 16 := law.go:450 load
      refine WL.v (by exact r_loadL (vs := [.int .i64 (e.1 : Nat), .int .u64 (e.2.1 : Nat), .int .i64 (e.2.2 : Nat)]) ty_agg83 rfl ⟨by rw [Nat.zero_add]; exact hce 0 (by decide), by rw [Nat.zero_add]; exact hce 1 (by decide), by rw [Nat.zero_add]; exact hce 2 (by decide), trivial⟩) rfl rfl rfl ?_
      -- R3.2 5 := law.go:450 alloc
      refine WL.alloc (m := 3) st ty_zero83 rfl rfl rfl ?_
      intro b5 w st
      -- R3.3 None := law.go:450 store
      first | refine WL.storeW (vs := [_, _, _]) st ty_agg83 rfl rfl rfl rfl rfl rfl ?_ | refine WL.storeL (vs := [_, _, _]) st ty_agg83 rfl rfl rfl rfl (by first | decide | omega) rfl rfl ?_ | refine WL.storeW (vs := [_, _, _]) st.front1 ty_agg83 rfl rfl rfl rfl rfl rfl ?_ | refine WL.storeL (vs := [_, _, _]) st.front1 ty_agg83 rfl rfl rfl rfl (by first | decide | omega) rfl rfl ?_ | refine WL.storeW (vs := [_, _, _]) st.front2 ty_agg83 rfl rfl rfl rfl rfl rfl ?_ | refine WL.storeL (vs := [_, _, _]) st.front2 ty_agg83 rfl rfl rfl rfl (by first | decide | omega) rfl rfl ?_ | refine WL.storeW (vs := [_, _, _]) st.front3 ty_agg83 rfl rfl rfl rfl rfl rfl ?_ | refine WL.storeL (vs := [_, _, _]) st.front3 ty_agg83 rfl rfl rfl rfl (by first | decide | omega) rfl rfl ?_ | refine WL.storeW (vs := [_, _, _]) st.front4 ty_agg83 rfl rfl rfl rfl rfl rfl ?_ | refine WL.storeL (vs := [_, _, _]) st.front4 ty_agg83 rfl rfl rfl rfl (by first | decide | omega) rfl rfl ?_ | refine WL.storeW (vs := [_, _, _]) st.front5 ty_agg83 rfl rfl rfl rfl rfl rfl ?_ | refine WL.storeL (vs := [_, _, _]) st.front5 ty_agg83 rfl rfl rfl rfl (by first | decide | omega) rfl rfl ?_ | refine WL.storeW (vs := [_, _, _]) st.front6 ty_agg83 rfl rfl rfl rfl rfl rfl ?_ | refine WL.storeL (vs := [_, _, _]) st.front6 ty_agg83 rfl rfl rfl rfl (by first | decide | omega) rfl rfl ?_ | refine WL.storeW (vs := [_, _, _]) st.front7 ty_agg83 rfl rfl rfl rfl rfl rfl ?_ | refine WL.storeL (vs := [_, _, _]) st.front7 ty_agg83 rfl rfl rfl rfl (by first | decide | omega) rfl rfl ?_ | refine WL.storeW (vs := [_, _, _]) st.front8 ty_agg83 rfl rfl rfl rfl rfl rfl ?_ | refine WL.storeL (vs := [_, _, _]) st.front8 ty_agg83 rfl rfl rfl rfl (by first | decide | omega) rfl rfl ?_
      intro w st
      refine WL.fin hK1824 (fun _ _ h => h) ?_
      refine WC.seq fun K1825 hK1825 => ?_
      refine WC.seq fun K1826 hK1826 => ?_
      -- region 4
      refine WC.region ?_
      -- R4.0 17 := law.go:451 fieldAddr
      refine WL.v (by exact r_field ty_fld83_2 rfl) rfl rfl rfl ?_
      -- R4.1 18 := law.go:451 load
      refine WL.v (by exact r_load1 ty_one30 rfl (by first | assumption | exact st.c0 (by first | decide | omega) | exact st.c1 (by first | decide | omega) | exact st.c2 (by first | decide | omega) | exact st.c3 (by first | decide | omega) | exact st.c4 (by first | decide | omega) | exact st.c5 (by first | decide | omega) | exact st.c6 (by first | decide | omega) | exact st.c7 (by first | decide | omega) | exact st.c8 (by first | decide | omega))) rfl rfl rfl ?_
      -- R4.2 19 := law.go:451 binOp
      refine WL.v (by first | exact r_neq rfl rfl (decide_eq_true (by omega)) | exact r_neq rfl rfl (decide_eq_false (by omega)) | exact r_neq rfl rfl rfl) rfl rfl rfl ?_
      -- R4.3 20 := law.go:451 move
      refine WL.v (by first | exact r_move (v := .bool _) rfl | exact r_move rfl) rfl rfl rfl ?_
      -- R4.4 21 := law.go:451 fieldAddr
      refine WL.v (by exact r_field ty_fld83_0 rfl) rfl rfl rfl ?_
      -- R4.5 22 := law.go:451 load
      refine WL.v (by exact r_load1 ty_one31 rfl (by first | assumption | exact st.c0 (by first | decide | omega) | exact st.c1 (by first | decide | omega) | exact st.c2 (by first | decide | omega) | exact st.c3 (by first | decide | omega) | exact st.c4 (by first | decide | omega) | exact st.c5 (by first | decide | omega) | exact st.c6 (by first | decide | omega) | exact st.c7 (by first | decide | omega) | exact st.c8 (by first | decide | omega))) rfl rfl rfl ?_
      -- R4.6 23 := law.go:451 indexAddr
      refine WL.v (by exact r_indexA (j := e.1) ty_ar86 rfl rfl rfl hEa.1) rfl rfl rfl ?_
      -- R4.7 24 := law.go:451 load
      refine WL.v (by exact r_load1 (v := .bool true) ty_one4 rfl (by rw [← hop]; exact c_bF (F := F) (List.mem_cons_of_mem _ List.mem_cons_self) hEa.1 st)) rfl rfl rfl ?_
      -- R4.8 25 := law.go:451 unOp
      refine WL.v (by first | exact r_notT rfl | exact r_notF rfl | exact r_not rfl) rfl rfl rfl ?_
      -- R4.9 26 := law.go:451 pick
      refine WL.v (by first | exact r_pickT (v := .bool _) rfl rfl | exact r_pickF (v := .bool _) rfl rfl) rfl rfl rfl ?_
      refine WL.fin hK1826 (fun _ _ h => h) ?_
      refine WC.condF rfl rfl ?_
      refine WC.skipF hK1825 (fun _ _ h => h) ?_
      refine WC.seq fun K1827 hK1827 => ?_
      refine WC.seq fun K1828 hK1828 => ?_
      -- region 6
      refine WC.region ?_
      -- R6.0 27 := law.go:454 fieldAddr
      refine WL.v (by exact r_field ty_fld83_2 rfl) rfl rfl rfl ?_
      -- R6.1 28 := law.go:454 load
      refine WL.v (by exact r_load1 ty_one30 rfl (by first | assumption | exact st.c0 (by first | decide | omega) | exact st.c1 (by first | decide | omega) | exact st.c2 (by first | decide | omega) | exact st.c3 (by first | decide | omega) | exact st.c4 (by first | decide | omega) | exact st.c5 (by first | decide | omega) | exact st.c6 (by first | decide | omega) | exact st.c7 (by first | decide | omega) | exact st.c8 (by first | decide | omega))) rfl rfl rfl ?_
      -- R6.2 29 := law.go:454 binOp
      refine WL.v (by first | exact r_neq rfl rfl (decide_eq_true (by omega)) | exact r_neq rfl rfl (decide_eq_false (by omega)) | exact r_neq rfl rfl rfl) rfl rfl rfl ?_
      -- R6.3 30 := law.go:454 move
      refine WL.v (by first | exact r_move (v := .bool _) rfl | exact r_move rfl) rfl rfl rfl ?_
      -- R6.4 31 := law.go:454 fieldAddr
      refine WL.no rfl rfl ?_
      -- R6.5 32 := law.go:454 load
      refine WL.no rfl rfl ?_
      -- R6.6 33 := law.go:454 binOp
      refine WL.no rfl rfl ?_
      -- R6.7 34 := law.go:454 pick
      refine WL.v (by first | exact r_pickT (v := .bool _) rfl rfl | exact r_pickF (v := .bool _) rfl rfl) rfl rfl rfl ?_
      -- R6.8 35 := law.go:454 move
      refine WL.v (by first | exact r_move (v := .bool _) rfl | exact r_move rfl) rfl rfl rfl ?_
      -- R6.9 36 := law.go:454 fieldAddr
      refine WL.no rfl rfl ?_
      -- R6.10 37 := law.go:454 load
      refine WL.no rfl rfl ?_
      -- R6.11 38 := law.go:454 binOp
      refine WL.no rfl rfl ?_
      -- R6.12 39 := law.go:454 pick
      refine WL.v (by first | exact r_pickT (v := .bool _) rfl rfl | exact r_pickF (v := .bool _) rfl rfl) rfl rfl rfl ?_
      refine WL.fin hK1828 (fun _ _ h => h) ?_
      refine WC.condF rfl rfl ?_
      refine WC.skipF hK1827 (fun _ _ h => h) ?_
      -- region 8
      refine WC.region ?_
      -- R8.0 40 := law.go:457 fieldAddr
      refine WL.v (by exact r_field ty_fld83_0 rfl) rfl rfl rfl ?_
      -- R8.1 41 := law.go:457 load
      refine WL.v (by exact r_load1 ty_one31 rfl (by first | assumption | exact st.c0 (by first | decide | omega) | exact st.c1 (by first | decide | omega) | exact st.c2 (by first | decide | omega) | exact st.c3 (by first | decide | omega) | exact st.c4 (by first | decide | omega) | exact st.c5 (by first | decide | omega) | exact st.c6 (by first | decide | omega) | exact st.c7 (by first | decide | omega) | exact st.c8 (by first | decide | omega))) rfl rfl rfl ?_
      -- R8.2 42 := law.go:457 indexAddr
      refine WL.v (by exact r_indexA (j := e.1) ty_ar86 rfl rfl rfl hEa.1) rfl rfl rfl ?_
      -- R8.3 None := law.go:457 store
      first | refine WL.store (v := .bool _) st ty_one4 rfl rfl rfl (by first | decide | omega) rfl rfl ?_ | refine WL.store (v := _) st ty_one4 rfl rfl rfl (by first | decide | omega) rfl rfl ?_ | refine WL.store (v := .bool _) st.front1 ty_one4 rfl rfl rfl (by first | decide | omega) rfl rfl ?_ | refine WL.store (v := _) st.front1 ty_one4 rfl rfl rfl (by first | decide | omega) rfl rfl ?_ | refine WL.store (v := .bool _) st.front2 ty_one4 rfl rfl rfl (by first | decide | omega) rfl rfl ?_ | refine WL.store (v := _) st.front2 ty_one4 rfl rfl rfl (by first | decide | omega) rfl rfl ?_ | refine WL.store (v := .bool _) st.front3 ty_one4 rfl rfl rfl (by first | decide | omega) rfl rfl ?_ | refine WL.store (v := _) st.front3 ty_one4 rfl rfl rfl (by first | decide | omega) rfl rfl ?_ | refine WL.store (v := .bool _) st.front4 ty_one4 rfl rfl rfl (by first | decide | omega) rfl rfl ?_ | refine WL.store (v := _) st.front4 ty_one4 rfl rfl rfl (by first | decide | omega) rfl rfl ?_ | refine WL.store (v := .bool _) st.front5 ty_one4 rfl rfl rfl (by first | decide | omega) rfl rfl ?_ | refine WL.store (v := _) st.front5 ty_one4 rfl rfl rfl (by first | decide | omega) rfl rfl ?_ | refine WL.store (v := .bool _) st.front6 ty_one4 rfl rfl rfl (by first | decide | omega) rfl rfl ?_ | refine WL.store (v := _) st.front6 ty_one4 rfl rfl rfl (by first | decide | omega) rfl rfl ?_ | refine WL.store (v := .bool _) st.front7 ty_one4 rfl rfl rfl (by first | decide | omega) rfl rfl ?_ | refine WL.store (v := _) st.front7 ty_one4 rfl rfl rfl (by first | decide | omega) rfl rfl ?_ | refine WL.store (v := .bool _) st.front8 ty_one4 rfl rfl rfl (by first | decide | omega) rfl rfl ?_ | refine WL.store (v := _) st.front8 ty_one4 rfl rfl rfl (by first | decide | omega) rfl rfl ?_
      intro w st
      refine WL.fin hK1823 (fun _ _ h => h) ?_
      -- region 9
      refine WC.region ?_
      -- R9.0 43 := law.go:450 binOp
      refine WL.v (by first | exact r_add rfl rfl (wi64 (by omega) (by omega)) | exact r_add rfl rfl rfl) rfl rfl rfl ?_
      -- R9.1 13 := law.go:450 move
      refine WL.v (by first | exact r_move (v := .int _ _) rfl | exact r_move rfl) rfl rfl rfl ?_
      refine WL.next hK2 (fun _ _ h => h) (k + 1) ⟨hkl', by rw [hfo]; exact (stE (bF_set (n := 16)) st).drop1⟩ (by omega) (by repeat (first | exact sub_nil _ | refine sub_cons rfl rfl ?_))
    · skip
      refine WC.seq fun K1829 hK1829 => ?_
      -- region 2
      refine WC.region ?_
      -- R2.0 14 := law.go:450 binOp
      refine WL.v (by first | exact r_lss rfl rfl (decide_eq_true (by omega)) | exact r_lss rfl rfl (decide_eq_false (by omega)) | exact r_lss rfl rfl rfl) rfl rfl rfl ?_
      refine WL.fin hK1829 (fun _ _ h => h) ?_
      refine WC.seq fun K1830 hK1830 => ?_
      refine WC.condT rfl rfl ?_
      refine WC.skipF hK1830 (fun _ _ h => h) ?_
      refine WC.seq fun K1831 hK1831 => ?_
      refine WC.block ?_
      refine WC.seq fun K1832 hK1832 => ?_
      -- region 3
      refine WC.region ?_
      -- R3.0 15 := law.go:450 indexAddr
      refine WL.v (by exact r_indexS (j := k) ty_sl32 (congrArg (fun q => Value.slice q ans.length c) hae) rfl rfl (by omega)) rfl rfl rfl ?_
      -- R3.1 16 := law.go:450 load
      refine WL.v (by exact r_loadL (vs := [.int .i64 (e.1 : Nat), .int .u64 (e.2.1 : Nat), .int .i64 (e.2.2 : Nat)]) ty_agg83 rfl ⟨by rw [Nat.zero_add]; exact hce 0 (by decide), by rw [Nat.zero_add]; exact hce 1 (by decide), by rw [Nat.zero_add]; exact hce 2 (by decide), trivial⟩) rfl rfl rfl ?_
      -- R3.2 5 := law.go:450 alloc
      refine WL.alloc (m := 3) st ty_zero83 rfl rfl rfl ?_
      intro b5 w st
      -- R3.3 None := law.go:450 store
      first | refine WL.storeW (vs := [_, _, _]) st ty_agg83 rfl rfl rfl rfl rfl rfl ?_ | refine WL.storeL (vs := [_, _, _]) st ty_agg83 rfl rfl rfl rfl (by first | decide | omega) rfl rfl ?_ | refine WL.storeW (vs := [_, _, _]) st.front1 ty_agg83 rfl rfl rfl rfl rfl rfl ?_ | refine WL.storeL (vs := [_, _, _]) st.front1 ty_agg83 rfl rfl rfl rfl (by first | decide | omega) rfl rfl ?_ | refine WL.storeW (vs := [_, _, _]) st.front2 ty_agg83 rfl rfl rfl rfl rfl rfl ?_ | refine WL.storeL (vs := [_, _, _]) st.front2 ty_agg83 rfl rfl rfl rfl (by first | decide | omega) rfl rfl ?_ | refine WL.storeW (vs := [_, _, _]) st.front3 ty_agg83 rfl rfl rfl rfl rfl rfl ?_ | refine WL.storeL (vs := [_, _, _]) st.front3 ty_agg83 rfl rfl rfl rfl (by first | decide | omega) rfl rfl ?_ | refine WL.storeW (vs := [_, _, _]) st.front4 ty_agg83 rfl rfl rfl rfl rfl rfl ?_ | refine WL.storeL (vs := [_, _, _]) st.front4 ty_agg83 rfl rfl rfl rfl (by first | decide | omega) rfl rfl ?_ | refine WL.storeW (vs := [_, _, _]) st.front5 ty_agg83 rfl rfl rfl rfl rfl rfl ?_ | refine WL.storeL (vs := [_, _, _]) st.front5 ty_agg83 rfl rfl rfl rfl (by first | decide | omega) rfl rfl ?_ | refine WL.storeW (vs := [_, _, _]) st.front6 ty_agg83 rfl rfl rfl rfl rfl rfl ?_ | refine WL.storeL (vs := [_, _, _]) st.front6 ty_agg83 rfl rfl rfl rfl (by first | decide | omega) rfl rfl ?_ | refine WL.storeW (vs := [_, _, _]) st.front7 ty_agg83 rfl rfl rfl rfl rfl rfl ?_ | refine WL.storeL (vs := [_, _, _]) st.front7 ty_agg83 rfl rfl rfl rfl (by first | decide | omega) rfl rfl ?_ | refine WL.storeW (vs := [_, _, _]) st.front8 ty_agg83 rfl rfl rfl rfl rfl rfl ?_ | refine WL.storeL (vs := [_, _, _]) st.front8 ty_agg83 rfl rfl rfl rfl (by first | decide | omega) rfl rfl ?_
      intro w st
      refine WL.fin hK1832 (fun _ _ h => h) ?_
      refine WC.seq fun K1833 hK1833 => ?_
      refine WC.seq fun K1834 hK1834 => ?_
      -- region 4
      refine WC.region ?_
      -- R4.0 17 := law.go:451 fieldAddr
      refine WL.v (by exact r_field ty_fld83_2 rfl) rfl rfl rfl ?_
      -- R4.1 18 := law.go:451 load
      refine WL.v (by exact r_load1 ty_one30 rfl (by first | assumption | exact st.c0 (by first | decide | omega) | exact st.c1 (by first | decide | omega) | exact st.c2 (by first | decide | omega) | exact st.c3 (by first | decide | omega) | exact st.c4 (by first | decide | omega) | exact st.c5 (by first | decide | omega) | exact st.c6 (by first | decide | omega) | exact st.c7 (by first | decide | omega) | exact st.c8 (by first | decide | omega))) rfl rfl rfl ?_
      -- R4.2 19 := law.go:451 binOp
      refine WL.v (by first | exact r_neq rfl rfl (decide_eq_true (by omega)) | exact r_neq rfl rfl (decide_eq_false (by omega)) | exact r_neq rfl rfl rfl) rfl rfl rfl ?_
      -- R4.3 20 := law.go:451 move
      refine WL.v (by first | exact r_move (v := .bool _) rfl | exact r_move rfl) rfl rfl rfl ?_
      -- R4.4 21 := law.go:451 fieldAddr
      refine WL.v (by exact r_field ty_fld83_0 rfl) rfl rfl rfl ?_
      -- R4.5 22 := law.go:451 load
      refine WL.v (by exact r_load1 ty_one31 rfl (by first | assumption | exact st.c0 (by first | decide | omega) | exact st.c1 (by first | decide | omega) | exact st.c2 (by first | decide | omega) | exact st.c3 (by first | decide | omega) | exact st.c4 (by first | decide | omega) | exact st.c5 (by first | decide | omega) | exact st.c6 (by first | decide | omega) | exact st.c7 (by first | decide | omega) | exact st.c8 (by first | decide | omega))) rfl rfl rfl ?_
      -- R4.6 23 := law.go:451 indexAddr
      refine WL.v (by exact r_indexA (j := e.1) ty_ar86 rfl rfl rfl hEa.1) rfl rfl rfl ?_
      -- R4.7 24 := law.go:451 load
      refine WL.v (by exact r_load1 (v := .bool true) ty_one4 rfl (by rw [← hop]; exact c_bF (F := F) (List.mem_cons_of_mem _ List.mem_cons_self) hEa.1 st)) rfl rfl rfl ?_
      -- R4.8 25 := law.go:451 unOp
      refine WL.v (by first | exact r_notT rfl | exact r_notF rfl | exact r_not rfl) rfl rfl rfl ?_
      -- R4.9 26 := law.go:451 pick
      refine WL.v (by first | exact r_pickT (v := .bool _) rfl rfl | exact r_pickF (v := .bool _) rfl rfl) rfl rfl rfl ?_
      refine WL.fin hK1834 (fun _ _ h => h) ?_
      refine WC.condF rfl rfl ?_
      refine WC.skipF hK1833 (fun _ _ h => h) ?_
      refine WC.seq fun K1835 hK1835 => ?_
      refine WC.seq fun K1836 hK1836 => ?_
      -- region 6
      refine WC.region ?_
      -- R6.0 27 := law.go:454 fieldAddr
      refine WL.v (by exact r_field ty_fld83_2 rfl) rfl rfl rfl ?_
      -- R6.1 28 := law.go:454 load
      refine WL.v (by exact r_load1 ty_one30 rfl (by first | assumption | exact st.c0 (by first | decide | omega) | exact st.c1 (by first | decide | omega) | exact st.c2 (by first | decide | omega) | exact st.c3 (by first | decide | omega) | exact st.c4 (by first | decide | omega) | exact st.c5 (by first | decide | omega) | exact st.c6 (by first | decide | omega) | exact st.c7 (by first | decide | omega) | exact st.c8 (by first | decide | omega))) rfl rfl rfl ?_
      -- R6.2 29 := law.go:454 binOp
      refine WL.v (by first | exact r_neq rfl rfl (decide_eq_true (by omega)) | exact r_neq rfl rfl (decide_eq_false (by omega)) | exact r_neq rfl rfl rfl) rfl rfl rfl ?_
      -- R6.3 30 := law.go:454 move
      refine WL.v (by first | exact r_move (v := .bool _) rfl | exact r_move rfl) rfl rfl rfl ?_
      -- R6.4 31 := law.go:454 fieldAddr
      refine WL.v (by exact r_field ty_fld83_2 rfl) rfl rfl rfl ?_
      -- R6.5 32 := law.go:454 load
      refine WL.v (by exact r_load1 ty_one30 rfl (by first | assumption | exact st.c0 (by first | decide | omega) | exact st.c1 (by first | decide | omega) | exact st.c2 (by first | decide | omega) | exact st.c3 (by first | decide | omega) | exact st.c4 (by first | decide | omega) | exact st.c5 (by first | decide | omega) | exact st.c6 (by first | decide | omega) | exact st.c7 (by first | decide | omega) | exact st.c8 (by first | decide | omega))) rfl rfl rfl ?_
      -- R6.6 33 := law.go:454 binOp
      refine WL.v (by first | exact r_neq rfl rfl (decide_eq_true (by omega)) | exact r_neq rfl rfl (decide_eq_false (by omega)) | exact r_neq rfl rfl rfl) rfl rfl rfl ?_
      -- R6.7 34 := law.go:454 pick
      refine WL.v (by first | exact r_pickT (v := .bool _) rfl rfl | exact r_pickF (v := .bool _) rfl rfl) rfl rfl rfl ?_
      -- R6.8 35 := law.go:454 move
      refine WL.v (by first | exact r_move (v := .bool _) rfl | exact r_move rfl) rfl rfl rfl ?_
      -- R6.9 36 := law.go:454 fieldAddr
      refine WL.no rfl rfl ?_
      -- R6.10 37 := law.go:454 load
      refine WL.no rfl rfl ?_
      -- R6.11 38 := law.go:454 binOp
      refine WL.no rfl rfl ?_
      -- R6.12 39 := law.go:454 pick
      refine WL.v (by first | exact r_pickT (v := .bool _) rfl rfl | exact r_pickF (v := .bool _) rfl rfl) rfl rfl rfl ?_
      refine WL.fin hK1836 (fun _ _ h => h) ?_
      refine WC.condF rfl rfl ?_
      refine WC.skipF hK1835 (fun _ _ h => h) ?_
      -- region 8
      refine WC.region ?_
      -- R8.0 40 := law.go:457 fieldAddr
      refine WL.v (by exact r_field ty_fld83_0 rfl) rfl rfl rfl ?_
      -- R8.1 41 := law.go:457 load
      refine WL.v (by exact r_load1 ty_one31 rfl (by first | assumption | exact st.c0 (by first | decide | omega) | exact st.c1 (by first | decide | omega) | exact st.c2 (by first | decide | omega) | exact st.c3 (by first | decide | omega) | exact st.c4 (by first | decide | omega) | exact st.c5 (by first | decide | omega) | exact st.c6 (by first | decide | omega) | exact st.c7 (by first | decide | omega) | exact st.c8 (by first | decide | omega))) rfl rfl rfl ?_
      -- R8.2 42 := law.go:457 indexAddr
      refine WL.v (by exact r_indexA (j := e.1) ty_ar86 rfl rfl rfl hEa.1) rfl rfl rfl ?_
      -- R8.3 None := law.go:457 store
      first | refine WL.store (v := .bool _) st ty_one4 rfl rfl rfl (by first | decide | omega) rfl rfl ?_ | refine WL.store (v := _) st ty_one4 rfl rfl rfl (by first | decide | omega) rfl rfl ?_ | refine WL.store (v := .bool _) st.front1 ty_one4 rfl rfl rfl (by first | decide | omega) rfl rfl ?_ | refine WL.store (v := _) st.front1 ty_one4 rfl rfl rfl (by first | decide | omega) rfl rfl ?_ | refine WL.store (v := .bool _) st.front2 ty_one4 rfl rfl rfl (by first | decide | omega) rfl rfl ?_ | refine WL.store (v := _) st.front2 ty_one4 rfl rfl rfl (by first | decide | omega) rfl rfl ?_ | refine WL.store (v := .bool _) st.front3 ty_one4 rfl rfl rfl (by first | decide | omega) rfl rfl ?_ | refine WL.store (v := _) st.front3 ty_one4 rfl rfl rfl (by first | decide | omega) rfl rfl ?_ | refine WL.store (v := .bool _) st.front4 ty_one4 rfl rfl rfl (by first | decide | omega) rfl rfl ?_ | refine WL.store (v := _) st.front4 ty_one4 rfl rfl rfl (by first | decide | omega) rfl rfl ?_ | refine WL.store (v := .bool _) st.front5 ty_one4 rfl rfl rfl (by first | decide | omega) rfl rfl ?_ | refine WL.store (v := _) st.front5 ty_one4 rfl rfl rfl (by first | decide | omega) rfl rfl ?_ | refine WL.store (v := .bool _) st.front6 ty_one4 rfl rfl rfl (by first | decide | omega) rfl rfl ?_ | refine WL.store (v := _) st.front6 ty_one4 rfl rfl rfl (by first | decide | omega) rfl rfl ?_ | refine WL.store (v := .bool _) st.front7 ty_one4 rfl rfl rfl (by first | decide | omega) rfl rfl ?_ | refine WL.store (v := _) st.front7 ty_one4 rfl rfl rfl (by first | decide | omega) rfl rfl ?_ | refine WL.store (v := .bool _) st.front8 ty_one4 rfl rfl rfl (by first | decide | omega) rfl rfl ?_ | refine WL.store (v := _) st.front8 ty_one4 rfl rfl rfl (by first | decide | omega) rfl rfl ?_
      intro w st
      refine WL.fin hK1831 (fun _ _ h => h) ?_
      -- region 9
      refine WC.region ?_
      -- R9.0 43 := law.go:450 binOp
      refine WL.v (by first | exact r_add rfl rfl (wi64 (by omega) (by omega)) | exact r_add rfl rfl rfl) rfl rfl rfl ?_
      -- R9.1 13 := law.go:450 move
      refine WL.v (by first | exact r_move (v := .int _ _) rfl | exact r_move rfl) rfl rfl rfl ?_
      refine WL.next hK2 (fun _ _ h => h) (k + 1) ⟨hkl', by rw [hfo]; exact (stE (bF_set (n := 16)) st).drop1⟩ (by omega) (by repeat (first | exact sub_nil _ | refine sub_cons rfl rfl ?_))
  subst hkl
  rw [List.take_length] at st
  obtain ⟨F, hF⟩ : ∃ F, F = ans.foldl opF (wtF s) := ⟨_, rfl⟩
  rw [← hF] at h1 h2 st
  refine WC.seq fun K1837 hK1837 => ?_
  -- region 2
  refine WC.region ?_
  -- R2.0 14 := law.go:450 binOp
  refine WL.v (by first | exact r_lss rfl rfl (decide_eq_true (by omega)) | exact r_lss rfl rfl (decide_eq_false (by omega)) | exact r_lss rfl rfl rfl) rfl rfl rfl ?_
  refine WL.fin hK1837 (fun _ _ h => h) ?_
  refine WC.seq fun K1838 hK1838 => ?_
  refine WC.condF rfl rfl ?_
  refine WC.exitF hK1811 (fun _ _ h => h) ?_
  refine WC.cut (ι := Unit) (fun _ => [(1, .pointer (some ⟨b0, 0, none⟩)), (2, .pointer (some ⟨b2, 0, none⟩))]) (fun _ w' => S0 w0 ((b0, Row 86 16 (bF (wtF s'))) :: (b2, Row 36 10 fs) :: l) w') ?_ ?_
  rotate_left
  · intro KC hKC
    by_cases hc1 : code = 1
    · obtain ⟨t, hAt, ht16, hT, hFr, hF0, hW⟩ := h2 hc1


      refine WC.seq fun K1839 hK1839 => ?_
      -- region 10
      refine WC.region ?_
      -- R10.0 44 := law.go:459 fieldAddr
      refine WL.v (by exact r_field ty_fld36_3 rfl) rfl rfl rfl ?_
      -- R10.1 45 := law.go:459 fieldAddr
      refine WL.v (by exact r_field ty_fld34_0 rfl) rfl rfl rfl ?_
      -- R10.2 46 := law.go:459 load
      refine WL.v (by exact r_load1 (v := .int .i64 code) ty_one30 rfl (by rw [← f7]; exact st.c1 (by decide))) rfl rfl rfl ?_
      -- R10.3 47 := law.go:459 binOp
      refine WL.v (by first | exact r_eql rfl rfl (decide_eq_true (by omega)) | exact r_eql rfl rfl (decide_eq_false (by omega)) | exact r_eql rfl rfl rfl) rfl rfl rfl ?_
      refine WL.fin hK1839 (fun _ _ h => h) ?_
      refine WC.condT rfl rfl ?_
      refine WC.seq fun K1840 hK1840 => ?_
      -- region 11
      refine WC.region ?_
      -- R11.0 49 := law.go:460 load
      refine WL.v (by exact r_loadL (vs := stepL o bB bA code task (.slice a ans.length c)) ty_agg36 rfl ⟨(st.c1 (by decide)).trans (congrArg some f0), (st.c1 (by decide)).trans (congrArg some f1), (st.c1 (by decide)).trans (congrArg some f2), (st.c1 (by decide)).trans (congrArg some f3), (st.c1 (by decide)).trans (congrArg some f4), (st.c1 (by decide)).trans (congrArg some f5), (st.c1 (by decide)).trans (congrArg some f6), (st.c1 (by decide)).trans (congrArg some f7), (st.c1 (by decide)).trans (congrArg some f8), (st.c1 (by decide)).trans (congrArg some f9), trivial⟩) rfl rfl rfl ?_
      -- R11.1 50 := law.go:460 call
      refine WL.call (r_call ty_call33 rfl) rfl rfl rfl (callerL_ok (o := o) (List.mem_cons_of_mem _ (List.mem_cons_of_mem _ hck.B)) rfl st) ?_
      rintro _ w ⟨he, st⟩
      rw [hFr, hT] at he
      subst he
      -- R11.2 48 := law.go:460 move
      refine WL.v (by first | exact r_move (v := .tuple _) rfl | exact r_move rfl) rfl rfl rfl ?_
      -- R11.3 51 := law.go:460 extract
      refine WL.v (by first | exact r_extract (v := .int _ _) rfl rfl | exact r_extract rfl rfl) rfl rfl rfl ?_
      -- R11.4 52 := law.go:460 extract
      refine WL.v (by first | exact r_extract (v := .bool _) rfl rfl | exact r_extract rfl rfl) rfl rfl rfl ?_
      -- R11.5 6 := law.go:460 assign
      refine WL.v (by first | exact r_assign (v := .int _ _) rfl | exact r_assign rfl) rfl rfl rfl ?_
      -- R11.6 7 := law.go:460 assign
      refine WL.v (by first | exact r_assign (v := .bool _) rfl | exact r_assign rfl) rfl rfl rfl ?_
      refine WL.fin hK1840 (fun _ _ h => h) ?_
      refine WC.seq fun K1841 hK1841 => ?_
      refine WC.seq fun K1842 hK1842 => ?_
      -- region 12
      refine WC.region ?_
      -- R12.0 53 := law.go:461 move
      refine WL.v (by first | exact r_move (v := .bool _) rfl | exact r_move rfl) rfl rfl rfl ?_
      -- R12.1 54 := law.go:461 unOp
      refine WL.v (by first | exact r_notT rfl | exact r_notF rfl | exact r_not rfl) rfl rfl rfl ?_
      -- R12.2 55 := law.go:461 move
      refine WL.v (by first | exact r_move (v := .bool _) rfl | exact r_move rfl) rfl rfl rfl ?_
      -- R12.3 56 := law.go:461 move
      refine WL.v (by first | exact r_move (v := .int _ _) rfl | exact r_move rfl) rfl rfl rfl ?_
      -- R12.4 57 := law.go:461 indexAddr
      refine WL.v (by exact r_indexA (j := t) ty_ar86 rfl rfl rfl ht16) rfl rfl rfl ?_
      -- R12.5 58 := law.go:461 load
      refine WL.v (by exact r_load1 (v := .bool false) ty_one4 rfl (by rw [← hF0]; exact c_bF (F := F) List.mem_cons_self ht16 st)) rfl rfl rfl ?_
      -- R12.6 59 := law.go:461 pick
      refine WL.v (by first | exact r_pickT (v := .bool _) rfl rfl | exact r_pickF (v := .bool _) rfl rfl) rfl rfl rfl ?_
      refine WL.fin hK1842 (fun _ _ h => h) ?_
      refine WC.condF rfl rfl ?_
      refine WC.skipF hK1841 (fun _ _ h => h) ?_
      -- region 14
      refine WC.region ?_
      -- R14.0 60 := law.go:464 move
      refine WL.v (by first | exact r_move (v := .int _ _) rfl | exact r_move rfl) rfl rfl rfl ?_
      -- R14.1 61 := law.go:464 indexAddr
      refine WL.v (by exact r_indexA (j := t) ty_ar86 rfl rfl rfl ht16) rfl rfl rfl ?_
      -- R14.2 None := law.go:464 store
      first | refine WL.store (v := .bool _) st ty_one4 rfl rfl rfl (by first | decide | omega) rfl rfl ?_ | refine WL.store (v := _) st ty_one4 rfl rfl rfl (by first | decide | omega) rfl rfl ?_ | refine WL.store (v := .bool _) st.front1 ty_one4 rfl rfl rfl (by first | decide | omega) rfl rfl ?_ | refine WL.store (v := _) st.front1 ty_one4 rfl rfl rfl (by first | decide | omega) rfl rfl ?_ | refine WL.store (v := .bool _) st.front2 ty_one4 rfl rfl rfl (by first | decide | omega) rfl rfl ?_ | refine WL.store (v := _) st.front2 ty_one4 rfl rfl rfl (by first | decide | omega) rfl rfl ?_ | refine WL.store (v := .bool _) st.front3 ty_one4 rfl rfl rfl (by first | decide | omega) rfl rfl ?_ | refine WL.store (v := _) st.front3 ty_one4 rfl rfl rfl (by first | decide | omega) rfl rfl ?_ | refine WL.store (v := .bool _) st.front4 ty_one4 rfl rfl rfl (by first | decide | omega) rfl rfl ?_ | refine WL.store (v := _) st.front4 ty_one4 rfl rfl rfl (by first | decide | omega) rfl rfl ?_ | refine WL.store (v := .bool _) st.front5 ty_one4 rfl rfl rfl (by first | decide | omega) rfl rfl ?_ | refine WL.store (v := _) st.front5 ty_one4 rfl rfl rfl (by first | decide | omega) rfl rfl ?_ | refine WL.store (v := .bool _) st.front6 ty_one4 rfl rfl rfl (by first | decide | omega) rfl rfl ?_ | refine WL.store (v := _) st.front6 ty_one4 rfl rfl rfl (by first | decide | omega) rfl rfl ?_ | refine WL.store (v := .bool _) st.front7 ty_one4 rfl rfl rfl (by first | decide | omega) rfl rfl ?_ | refine WL.store (v := _) st.front7 ty_one4 rfl rfl rfl (by first | decide | omega) rfl rfl ?_ | refine WL.store (v := .bool _) st.front8 ty_one4 rfl rfl rfl (by first | decide | omega) rfl rfl ?_ | refine WL.store (v := _) st.front8 ty_one4 rfl rfl rfl (by first | decide | omega) rfl rfl ?_
      intro w st
      refine WL.join hKC (fun _ _ h => h) () (stE (fun k hk => by rw [bF_set (n := 16) k hk]; unfold bF; rw [hW k hk]) st) (by repeat (first | exact sub_nil _ | refine sub_cons rfl rfl ?_))
    · skip
      refine WC.seq fun K1843 hK1843 => ?_
      -- region 10
      refine WC.region ?_
      -- R10.0 44 := law.go:459 fieldAddr
      refine WL.v (by exact r_field ty_fld36_3 rfl) rfl rfl rfl ?_
      -- R10.1 45 := law.go:459 fieldAddr
      refine WL.v (by exact r_field ty_fld34_0 rfl) rfl rfl rfl ?_
      -- R10.2 46 := law.go:459 load
      refine WL.v (by exact r_load1 (v := .int .i64 code) ty_one30 rfl (by rw [← f7]; exact st.c1 (by decide))) rfl rfl rfl ?_
      -- R10.3 47 := law.go:459 binOp
      refine WL.v (by first | exact r_eql rfl rfl (decide_eq_true (by omega)) | exact r_eql rfl rfl (decide_eq_false (by omega)) | exact r_eql rfl rfl rfl) rfl rfl rfl ?_
      refine WL.fin hK1843 (fun _ _ h => h) ?_
      refine WC.condF rfl rfl ?_
      refine WC.skipJ hKC (fun _ _ h => h) () (stE (fun k hk => by unfold bF; rw [h1 hc1 k hk]) st) (by repeat (first | exact sub_nil _ | refine sub_cons rfl rfl ?_))
  clear st
  rintro _ w st
  refine WC.seq fun K1844 hK1844 => ?_
  refine WC.seq fun K1845 hK1845 => ?_
  -- region 15
  refine WC.region ?_
  -- R15.0 62 := law.go:466 move
  refine WL.v (by first | exact r_move (v := .int _ _) rfl | exact r_move rfl) rfl rfl rfl ?_
  refine WL.fin hK1845 (fun _ _ h => h) ?_
  refine WC.block ?_
  refine WC.loop (ι := Nat) (fun i => [(1, .pointer (some ⟨b0, 0, none⟩)), (2, .pointer (some ⟨b2, 0, none⟩)), (62, .int .i64 (i : Nat))])
    (fun i w' => i ≤ 16 ∧ S0 w0 ((b0, Row 86 16 (bF (wtF s'))) :: (b2, Row 36 10 fs) :: l) w') (fun i => 16 - i) 0 ⟨Nat.zero_le _, st⟩ ?_ ?_
  · skip
    repeat (first | exact sub_nil _ | refine sub_cons rfl rfl ?_)
  clear st
  rintro i w ⟨hi, st⟩ K3 hK3
  by_cases h16 : i = 16
  · skip
    refine WC.seq fun K1846 hK1846 => ?_
    -- region 16
    refine WC.region ?_
    -- R16.0 63 := law.go:466 binOp
    refine WL.v (by first | exact r_lss rfl rfl (decide_eq_true (by omega)) | exact r_lss rfl rfl (decide_eq_false (by omega)) | exact r_lss rfl rfl rfl) rfl rfl rfl ?_
    refine WL.fin hK1846 (fun _ _ h => h) ?_
    refine WC.seq fun K1847 hK1847 => ?_
    refine WC.condF rfl rfl ?_
    refine WC.exitF hK1844 (fun _ _ h => h) ?_
    refine WC.seq fun K1848 hK1848 => ?_
    -- region 21
    refine WC.region ?_
    -- R21.0 3 := law.go:471 assign
    refine WL.v (by first | exact r_assign (v := .bool _) rfl | exact r_assign rfl) rfl rfl rfl ?_
    refine WL.fin hK1848 (fun _ _ h => h) ?_
    refine WC.ret1 Tryz.results61 (fun _ _ h => h) rfl ?_
    exact ⟨_, rfl, rfl, st.drop1⟩
  have hi' : i < 16 := by omega
  refine WC.seq fun K1849 hK1849 => ?_
  -- region 16
  refine WC.region ?_
  -- R16.0 63 := law.go:466 binOp
  refine WL.v (by first | exact r_lss rfl rfl (decide_eq_true (by omega)) | exact r_lss rfl rfl (decide_eq_false (by omega)) | exact r_lss rfl rfl rfl) rfl rfl rfl ?_
  refine WL.fin hK1849 (fun _ _ h => h) ?_
  refine WC.seq fun K1850 hK1850 => ?_
  refine WC.condT rfl rfl ?_
  refine WC.skipF hK1850 (fun _ _ h => h) ?_
  refine WC.seq fun K1851 hK1851 => ?_
  refine WC.block ?_
  refine WC.seq fun K1852 hK1852 => ?_
  -- region 17
  refine WC.region ?_
  -- R17.0 64 := law.go:466 move
  refine WL.v (by first | exact r_move (v := .int _ _) rfl | exact r_move rfl) rfl rfl rfl ?_
  -- R17.1 8 := law.go:466 assign
  refine WL.v (by first | exact r_assign (v := .int _ _) rfl | exact r_assign rfl) rfl rfl rfl ?_
  refine WL.fin hK1852 (fun _ _ h => h) ?_
  refine WC.seq fun K1853 hK1853 => ?_
  -- region 18 (draws)
  refine WC.quietS st ty_mixed (by kernel_rfl) fun Kq hKq => ?_
  -- R18.0 65 := law.go:467 fieldAddr
  refine QL.v (fun w st => by exact r_field ty_fld36_2 rfl) rfl rfl rfl ?_
  -- R18.1 66 := law.go:467 load
  refine QL.v (fun w st => by exact r_load1 (v := .pointer (some ⟨bA, 0, none⟩)) ty_one29 rfl (by rw [← f6]; exact st.c1 (by decide))) rfl rfl rfl ?_
  -- R18.2 67 := law.go:467 move
  refine QL.v (fun w st => by first | exact r_move (v := .int _ _) rfl | exact r_move rfl) rfl rfl rfl ?_
  -- R18.3 68 := law.go:467 nilCheck
  refine QL.v (fun w st => by exact r_nilCheck rfl) rfl rfl rfl ?_
  -- R18.4 69 := law.go:467 fieldAddr
  refine QL.v (fun w st => by exact r_field ty_fld50_3 rfl) rfl rfl rfl ?_
  -- R18.5 70 := law.go:467 indexAddr
  refine QL.v (fun w st => by exact r_indexA (j := i) ty_ar43 rfl rfl rfl hi') rfl rfl rfl ?_
  -- R18.6 71 := law.go:467 fieldAddr
  refine QL.v (fun w st => by exact r_field ty_fld42_3 rfl) rfl rfl rfl ?_
  -- R18.7 72 := law.go:467 load
  refine QL.v (fun w st => by exact r_load1 (v := .bool (wtF s' i)) ty_one4 rfl (c_sT (List.mem_cons_of_mem _ (List.mem_cons_of_mem _ hck.A)) hi' (j := 3) (by decide) (by omega) st)) rfl rfl rfl ?_
  -- R18.8 73 := law.go:467 move
  refine QL.v (fun w st => by first | exact r_move (v := .int _ _) rfl | exact r_move rfl) rfl rfl rfl ?_
  -- R18.9 74 := law.go:467 indexAddr
  refine QL.v (fun w st => by exact r_indexA (j := i) ty_ar86 rfl rfl rfl hi') rfl rfl rfl ?_
  -- R18.10 75 := law.go:467 load
  refine QL.v (fun w st => by exact r_load1 (v := .bool (wtF s' i)) ty_one4 rfl (c_bF (F := wtF s') List.mem_cons_self hi' st)) rfl rfl rfl ?_
  -- R18.11 76 := law.go:467 binOp
  refine QL.v (fun w st => by exact r_bneq (t := false) ty_bool4 rfl rfl (by simp)) rfl rfl rfl ?_
  refine QL.wl hKq fun w st => ?_
  refine WL.fin hK1853 (fun _ _ h => h) ?_
  refine WC.condF rfl rfl ?_
  refine WC.skipF hK1851 (fun _ _ h => h) ?_
  -- region 20
  refine WC.region ?_
  -- R20.0 77 := law.go:466 binOp
  refine WL.v (by first | exact r_add rfl rfl (wi64 (by omega) (by omega)) | exact r_add rfl rfl rfl) rfl rfl rfl ?_
  -- R20.1 62 := law.go:466 move
  refine WL.v (by first | exact r_move (v := .int _ _) rfl | exact r_move rfl) rfl rfl rfl ?_
  refine WL.next hK3 (fun _ _ h => h) (i + 1) ⟨hi', st⟩ (by omega) (by repeat (first | exact sub_nil _ | refine sub_cons rfl rfl ?_))
theorem pending_ok (a : Option Addr) (sb so n c : Nat) (op : Nat → Kern.Op) (hD : gD w) (hS : Scr w sb so n op) (hn63 : n ≤ 140737488355328) (ha : 0 < n → a = some ⟨sb, so, none⟩) :
    Calls Tryz.prog 18 #[.slice a n c] w (Ret fun v w' => v = .bool true ∧ S0 w [] w') := by
  have st : S0 w [] w := St.init w _
  by_cases hn : n ≤ 65536
  · have hC : ∀ b0, CheckOK w 61 #[.pointer (some ⟨b0, 0, none⟩)] op n fun i LI => LI = [(b0, Row 86 16 ((fun s => bF (wtF s)) (runP op i)))] := fun b0 => by
      refine check_one (f := fun s => bF (wtF s)) fun i hi bB bA qv qv' ov l w' hck st' => ?_
      have hK := run_KI op i
      have hI := run_INV op i
      obtain ⟨h1, h2, h3⟩ := pend_step (o := op i) hK.b hI hK.told
      refine pending1_ok (s := runP op i) (s' := runP op (i + 1)) h1 (fun k t ht => h2 k t ht) (fun k => ?_) hck st'
      obtain ⟨t, ha, ht, hf, hn, hw⟩ := h3 k
      refine ⟨t, ha, ht, ?_, hf, hn, hw⟩
      unfold cfB at hf
      unfold cfT
      by_cases hq : callQ (op i)
      · rw [if_pos hq, ha]
      · rw [if_neg hq] at hf; cases hf
    refine enter [.slice a n c] Tryz.func18 rfl Tryz.ntmps18 rfl ?_
    show WC _ _ _ 10 [] [(0, .slice a n c)] _
    refine WC.seq fun K1854 hK1854 => ?_
    -- region 0
    refine WC.region ?_
    -- R0.0 2 := law.go:443 assign
    refine WL.v (by first | exact r_assign (v := .bool _) rfl | exact r_assign rfl) rfl rfl rfl ?_
    refine WL.fin hK1854 (fun _ _ h => h) ?_
    refine WC.seq fun K1855 hK1855 => ?_
    refine WC.seq fun K1856 hK1856 => ?_
    -- region 1
    refine WC.region ?_
    -- R1.0 4 := law.go:444 move
    refine WL.v (by first | exact r_move (v := .slice _ _ _) rfl | exact r_move rfl) rfl rfl rfl ?_
    -- R1.1 5 := law.go:444 call
    refine WL.call (r_call ty_call23 rfl) rfl rfl rfl (zzSmall1_ok a n c st) ?_
    rintro _ w' ⟨he, st⟩
    rw [decide_eq_true hn] at he
    subst he
    -- R1.2 6 := law.go:444 unOp
    refine WL.v (by first | exact r_notT rfl | exact r_notF rfl | exact r_not rfl) rfl rfl rfl ?_
    refine WL.fin hK1856 (fun _ _ h => h) ?_
    refine WC.condF rfl rfl ?_
    refine WC.skipF hK1855 (fun _ _ h => h) ?_
    refine WC.seq fun K1857 hK1857 => ?_
    -- region 3
    refine WC.region ?_
    -- R3.0 3 := law.go:448 alloc
    refine WL.allocN (m := 16) st ty_zeroN86 rfl rfl ?_
    intro b3 w st
    refine WL.fin hK1857 (fun _ _ h => h) ?_
    refine WC.seq fun K1858 hK1858 => ?_
    -- region 4
    refine WC.region ?_
    -- R4.0 7 := law.go:449 move
    refine WL.v (by first | exact r_move (v := .slice _ _ _) rfl | exact r_move rfl) rfl rfl rfl ?_
    -- R4.1 8 := law.go:449 makeFunc
    refine WL.v (by exact r_mkfn rfl rfl) rfl rfl rfl ?_
    -- R4.2 9 := law.go:449 call
    have st := (stE (fun k hk => rfl) st : S0 _ ([(b3, Row 86 16 ((fun s => bF (wtF s)) ks0))] ++ []) _)
    refine WL.call (r_call ty_call24 rfl) rfl rfl rfl (play_ok (l := []) ty_call61 hD hS hn ha (hC b3) rfl st) ?_
    rintro _ w'' ⟨rfl, LI', rfl, st⟩
    -- R4.3 2 := law.go:449 assign
    refine WL.v (by first | exact r_assign (v := .bool _) rfl | exact r_assign rfl) rfl rfl rfl ?_
    refine WL.fin hK1858 (fun _ _ h => h) ?_
    refine WC.ret1 Tryz.results18 (fun _ _ h => h) rfl ?_
    exact ⟨_, rfl, rfl, st.drop⟩
  · skip
    refine enter [.slice a n c] Tryz.func18 rfl Tryz.ntmps18 rfl ?_
    show WC _ _ _ 10 [] [(0, .slice a n c)] _
    refine WC.seq fun K1859 hK1859 => ?_
    -- region 0
    refine WC.region ?_
    -- R0.0 2 := law.go:443 assign
    refine WL.v (by first | exact r_assign (v := .bool _) rfl | exact r_assign rfl) rfl rfl rfl ?_
    refine WL.fin hK1859 (fun _ _ h => h) ?_
    refine WC.seq fun K1860 hK1860 => ?_
    refine WC.seq fun K1861 hK1861 => ?_
    -- region 1
    refine WC.region ?_
    -- R1.0 4 := law.go:444 move
    refine WL.v (by first | exact r_move (v := .slice _ _ _) rfl | exact r_move rfl) rfl rfl rfl ?_
    -- R1.1 5 := law.go:444 call
    refine WL.call (r_call ty_call23 rfl) rfl rfl rfl (zzSmall1_ok a n c st) ?_
    rintro _ w' ⟨he, st⟩
    rw [decide_eq_false hn] at he
    subst he
    -- R1.2 6 := law.go:444 unOp
    refine WL.v (by first | exact r_notT rfl | exact r_notF rfl | exact r_not rfl) rfl rfl rfl ?_
    refine WL.fin hK1861 (fun _ _ h => h) ?_
    refine WC.condT rfl rfl ?_
    refine WC.seq fun K1862 hK1862 => ?_
    -- region 2
    refine WC.region ?_
    -- R2.0 2 := law.go:445 assign
    refine WL.v (by first | exact r_assign (v := .bool _) rfl | exact r_assign rfl) rfl rfl rfl ?_
    refine WL.fin hK1862 (fun _ _ h => h) ?_
    refine WC.ret1 Tryz.results18 (fun _ _ h => h) rfl ?_
    exact ⟨_, rfl, rfl, st⟩
end Go.Proofs.Qxb6500834aGreatDoor

