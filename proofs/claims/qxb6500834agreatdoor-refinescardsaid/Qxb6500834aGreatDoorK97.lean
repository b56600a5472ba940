import Derived.Test.Qxb6500834aGreatDoorK96
import Derived.Test.Qxb6500834aGreatDoorK36
import Derived.Test.Qxb6500834aGreatDoorK52
import Derived.Test.Qxb6500834aGreatDoorK62
import Derived.Test.Qxb6500834aGreatDoorK67
set_option linter.unusedVariables false
set_option linter.unusedSimpArgs false
set_option maxRecDepth 20000
namespace Go.Proofs.Qxb6500834aGreatDoor
open Go.RowKit Go.E1 Go.Kern
theorem ty_call40 : callT Tryz.prog 40 = true := by kernel_rfl
theorem ty_call41 : callT Tryz.prog 41 = true := by kernel_rfl
theorem ty_call42 : callT Tryz.prog 42 = true := by kernel_rfl
theorem ty_call43 : callT Tryz.prog 43 = true := by kernel_rfl
theorem ty_one66 : oneT Tryz.prog 66 = true := by kernel_rfl
theorem ty_zero66 : zeroL Tryz.prog 66 = some [.pointer none] := by kernel_rfl
variable {w0 : World} {l X : List HI} {w : World} {s s' s0 : KS} {t r N n : Nat} {qv qv' : Nat → Value}
variable {P : List PQ} {m : MR} {pv tv v : Value} {mb : Nat → Nat} {bm : Nat} {T : List (Nat × Nat × Nat)} {O : Nat → Nat → Option Nat} {held claim : Nat → Nat → Nat}

/-! Law: the kernel refines its model. -/
set_option maxHeartbeats 4000000 in
theorem refines1_ok {o : Kern.Op} {bB bA : Nat} {code task : Int} {ov : Value} {ans : List (Nat × Nat × Nat)} {b0 N' : Nat} {Z0 : List HI} (hD : gD w0) (hkd : o.kind < 256) (hX64 : o.X < 18446744073709551616) (hC1 : -9223372036854775808 ≤ o.C) (hC2 : o.C < 9223372036854775808) (hB : KB N s) (hN : N + N + 200 ≤ 1000000) (hI : INV s) (hct : CT s) (hbi : BI s) (hti : TI s []) (hdu : Due s) (hvn : VN s) (hnow : s.now ≤ 1000000) (harm : s.armed ≤ 1000000) (hbr : s.births ≤ 1000000) (h0 : s.told = []) (hB' : KB N' s') (hN' : N' ≤ 1000000) (hI' : INV s') (hz' : ∀ t, (s'.tk t).waiting = false → (s'.tk t).deadline = 0) (hs' : s' = { (stepP s o).1 with told := [] }) (hans : ans = (stepP s o).1.told) (hcode : code = (stepP s o).2.1) (htask : task = (stepP s o).2.2) (hZ : MZ bm mb s Z0) (hck : CK s s' ans bB bA qv qv' ov l) (st : S0 w0 ((b0, Row 66 1 (nth [.pointer (some ⟨bm, 0, none⟩)])) :: (Z0 ++ l)) w) :
    Calls Tryz.prog 41 #[.agg (stepL o bB bA code task ov).toArray, .pointer (some ⟨b0, 0, none⟩)] w (Ret fun v w' => v = .bool true ∧ ∃ Z1, MZ bm mb s' Z1 ∧ S0 w0 ((b0, Row 66 1 (nth [.pointer (some ⟨bm, 0, none⟩)])) :: (Z1 ++ l)) w') := by
  obtain ⟨P, T, pv, XP, tv, XT, hrel, hp, hoT, rfl⟩ := hZ
  obtain ⟨XO, ho, hXO⟩ := hck.a
  obtain ⟨a, c, b, rfl, hc1, hc2, ha, hcell⟩ := ho.form
  obtain ⟨fs, hfs⟩ : ∃ fs : Nat → Value, fs = nth (stepL o bB bA code task (.slice a ans.length c)) := ⟨_, rfl⟩
  have f0 : fs 0 = .int .u8 (o.kind : Nat) := by rw [hfs]; rfl
  have f1 : fs 1 = .int .i64 o.A := by rw [hfs]; rfl
  have f2 : fs 2 = .int .i64 o.B := by rw [hfs]; rfl
  have f3 : fs 3 = .int .i64 o.C := by rw [hfs]; rfl
  have f4 : fs 4 = .int .u64 (o.X : Nat) := by rw [hfs]; rfl
  have f5 : fs 5 = .pointer (some ⟨bB, 0, none⟩) := by rw [hfs]; rfl
  have f6 : fs 6 = .pointer (some ⟨bA, 0, none⟩) := by rw [hfs]; rfl
  have f7 : fs 7 = .int .i64 code := by rw [hfs]; rfl
  have f8 : fs 8 = .int .i64 task := by rw [hfs]; rfl
  have f9 : fs 9 = .slice a ans.length c := by rw [hfs]; rfl
  have e1 : mrOf (stepP s o).1 = mrOf s' := by rw [hs']; rfl
  have e2 : odF (stepP s o).1 = odF s' := by rw [hs']; rfl
  have eR : ∀ P', RelP (stepP s o).1 P' → RelP s' P' := fun P' h => by rw [hs']; exact ⟨h.q, h.l, h.d, h.u⟩
  have hnn := hB'.nn
  refine enter [.agg (stepL o bB bA code task (.slice a ans.length c)).toArray, .pointer (some ⟨b0, 0, none⟩)] Tryz.func41 rfl Tryz.ntmps41 rfl ?_
  show WC _ _ _ 21 [] [(0, .agg (stepL o bB bA code task (.slice a ans.length c)).toArray), (1, .pointer (some ⟨b0, 0, none⟩))] _
  refine WC.seq fun K3989 hK3989 => ?_
  -- region 0
  refine WC.region ?_
  -- R0.0 2 := law.go:95 box
  refine WL.box (m := 10) (vs := stepL o bB bA code task (.slice a ans.length c)) st rfl rfl rfl rfl rfl rfl ?_
  intro b2 w st
  have st : S0 w0 ((b2, Row 36 10 fs) :: ((b0, Row 66 1 (nth [.pointer (some ⟨bm, 0, none⟩)])) :: ((moI bm (mrOf s) pv tv mb :: (XP ++ (XT ++ mpI mb (odF s)))) ++ l))) w := by rw [hfs]; exact st
  -- R0.1 3 := law.go:95 assign
  refine WL.v (by first | exact r_assign (v := .bool _) rfl | exact r_assign rfl) rfl rfl rfl ?_
  refine WL.fin hK3989 (fun _ _ h => h) ?_
  refine WC.seq fun K3990 hK3990 => ?_
  -- region 1
  refine WC.region ?_
  -- R1.0 6 := law.go:96 load
  refine WL.v (by exact r_load1 (v := .pointer (some ⟨bm, 0, none⟩)) ty_one66 rfl (st.c1 (by decide))) rfl rfl rfl ?_
  -- R1.1 7 := law.go:96 fieldAddr
  refine WL.v (by exact r_field ty_fld36_0 rfl) rfl rfl rfl ?_
  -- R1.2 8 := law.go:96 load
  refine WL.v (by exact r_loadL (vs := opL o) ty_agg28 rfl ⟨(st.c0 (by decide)).trans (congrArg some f0), (st.c0 (by decide)).trans (congrArg some f1), (st.c0 (by decide)).trans (congrArg some f2), (st.c0 (by decide)).trans (congrArg some f3), (st.c0 (by decide)).trans (congrArg some f4), trivial⟩) rfl rfl rfl ?_
  -- R1.3 9 := law.go:96 call
  have st : S0 w0 (moI bm (mrOf s) pv tv mb :: (XP ++ (XT ++ (mpI mb (odF s) ++ ((b2, Row 36 10 fs) :: ((b0, Row 66 1 (nth [.pointer (some ⟨bm, 0, none⟩)])) :: l)))))) w := st.perm (by classical exact List.perm_iff_count.2 fun x => by simp only [List.count_append, List.count_cons, List.count_nil, List.append_eq, List.cons_append, List.nil_append, List.append_assoc, Nat.add_zero, Nat.zero_add] <;> ac_rfl)
  refine WL.call (r_call ty_call42 rfl) rfl rfl rfl (mStep_ok (T := T) hD hkd hX64 hC1 hC2 hB hN hI hct hbi hti hdu hvn hnow harm hbr hrel h0 ⟨pv, XP, tv, XT, hp, hoT, st⟩) ?_
  rintro _ w ⟨P', pv', XP', tv', XO', hrel', hp', ho', rfl, st⟩
  rw [← hans] at ho'
  rw [e1, e2] at st
  have hrelS := eR P' hrel'
  rw [← hcode, ← htask]
  have hor := ho'
  obtain ⟨ar, cr, br, rfl, -, -, -, -⟩ := ho'.form
  have st : S0 w0 (moI bm (mrOf s') pv' (.slice ar ans.length cr) mb :: (XP' ++ (XO' ++ (mpI mb (odF s') ++ ((b2, Row 36 10 fs) :: ((b0, Row 66 1 (nth [.pointer (some ⟨bm, 0, none⟩)])) :: l)))))) w := st
  -- R1.4 4 := law.go:96 alloc
  refine WL.alloc (m := 3) st ty_zero34 rfl rfl rfl ?_
  intro b4 w st
  -- R1.5 None := law.go:96 store
  refine WL.storeW (vs := [.int .i64 code, .int .i64 task, .slice ar ans.length cr]) st ty_agg34 rfl rfl rfl rfl rfl rfl ?_
  intro w st
  have st : S0 w0 ((b4, Row 34 3 (nth [.int .i64 code, .int .i64 task, .slice ar ans.length cr])) :: (moI bm (mrOf s') pv' (.slice ar ans.length cr) mb :: (XP' ++ (XO' ++ (mpI mb (odF s') ++ ((b2, Row 36 10 fs) :: ((b0, Row 66 1 (nth [.pointer (some ⟨bm, 0, none⟩)])) :: l))))))) w := st
  have hplen := hrelS.len
  have hm0 : (b0, Row 66 1 (nth [.pointer (some ⟨bm, 0, none⟩)])) ∈ ((b4, Row 34 3 (nth [.int .i64 code, .int .i64 task, .slice ar ans.length cr])) :: (moI bm (mrOf s') pv' (.slice ar ans.length cr) mb :: (XP' ++ (XO' ++ (mpI mb (odF s') ++ ((b2, Row 36 10 fs) :: ((b0, Row 66 1 (nth [.pointer (some ⟨bm, 0, none⟩)])) :: l))))))) := by simp
  have hmM : moI bm (mrOf s') pv' (.slice ar ans.length cr) mb ∈ ((b4, Row 34 3 (nth [.int .i64 code, .int .i64 task, .slice ar ans.length cr])) :: (moI bm (mrOf s') pv' (.slice ar ans.length cr) mb :: (XP' ++ (XO' ++ (mpI mb (odF s') ++ ((b2, Row 36 10 fs) :: ((b0, Row 66 1 (nth [.pointer (some ⟨bm, 0, none⟩)])) :: l))))))) := List.mem_cons_of_mem _ List.mem_cons_self
  have hXM : XP' ⊆ ((b4, Row 34 3 (nth [.int .i64 code, .int .i64 task, .slice ar ans.length cr])) :: (moI bm (mrOf s') pv' (.slice ar ans.length cr) mb :: (XP' ++ (XO' ++ (mpI mb (odF s') ++ ((b2, Row 36 10 fs) :: ((b0, Row 66 1 (nth [.pointer (some ⟨bm, 0, none⟩)])) :: l))))))) := fun x hx => List.mem_cons_of_mem _ (List.mem_cons_of_mem _ (List.mem_append_left _ hx))
  refine WL.fin hK3990 (fun _ _ h => h) ?_
  refine WC.seq fun K3991 hK3991 => ?_
  -- region 2
  refine WC.region ?_
  -- R2.0 10 := law.go:97 load
  refine WL.v (by exact r_load1 (v := .pointer (some ⟨bm, 0, none⟩)) ty_one66 rfl (st.cell hm0 (by decide))) rfl rfl rfl ?_
  -- R2.1 11 := law.go:97 call
  refine WL.call (r_call ty_call43 rfl) rfl rfl rfl (mState_ok (s := s') (by omega) hI' hz' hrelS hmM hp' hXM st) ?_
  rintro _ w ⟨qv2, XS2, hq2, rfl, st⟩
  -- R2.2 5 := law.go:97 alloc
  refine WL.allocN (m := 771) st zero50 rfl rfl ?_
  intro b5 w st
  -- R2.3 None := law.go:97 store
  refine WL.storeN (v := sF s' qv2) st ty_agg50 rfl rfl (sF_one (fun r hr => ql_one (hq2 r hr))) (by decide) rfl rfl ?_
  intro w st
  have st : S0 w0 (sI b5 s' qv2 :: (gather 20 XS2 ++ ((b4, Row 34 3 (nth [.int .i64 code, .int .i64 task, .slice ar ans.length cr])) :: (moI bm (mrOf s') pv' (.slice ar ans.length cr) mb :: (XP' ++ (XO' ++ (mpI mb (odF s') ++ ((b2, Row 36 10 fs) :: ((b0, Row 66 1 (nth [.pointer (some ⟨bm, 0, none⟩)])) :: l))))))))) w := stE (fun k hk => by rw [upds_eq, if_pos (by omega), Nat.sub_zero]) st
  have hmem : ∀ x, x ∈ l → x ∈ (sI b5 s' qv2 :: (gather 20 XS2 ++ ((b4, Row 34 3 (nth [.int .i64 code, .int .i64 task, .slice ar ans.length cr])) :: (moI bm (mrOf s') pv' (.slice ar ans.length cr) mb :: (XP' ++ (XO' ++ (mpI mb (odF s') ++ ((b2, Row 36 10 fs) :: ((b0, Row 66 1 (nth [.pointer (some ⟨bm, 0, none⟩)])) :: l))))))))) := fun x hx => by simp only [List.mem_cons, List.mem_append]; exact .inr (.inr (.inr (.inr (.inr (.inr (.inr (.inr (.inr hx))))))))
  have hmO : ∀ x, x ∈ XO' → x ∈ (sI b5 s' qv2 :: (gather 20 XS2 ++ ((b4, Row 34 3 (nth [.int .i64 code, .int .i64 task, .slice ar ans.length cr])) :: (moI bm (mrOf s') pv' (.slice ar ans.length cr) mb :: (XP' ++ (XO' ++ (mpI mb (odF s') ++ ((b2, Row 36 10 fs) :: ((b0, Row 66 1 (nth [.pointer (some ⟨bm, 0, none⟩)])) :: l))))))))) := fun x hx => by simp only [List.mem_cons, List.mem_append]; exact .inr (.inr (.inr (.inr (.inr (.inl hx)))))
  have hckM := hck.mono hmem
  have hm2 : (b2, Row 36 10 fs) ∈ (sI b5 s' qv2 :: (gather 20 XS2 ++ ((b4, Row 34 3 (nth [.int .i64 code, .int .i64 task, .slice ar ans.length cr])) :: (moI bm (mrOf s') pv' (.slice ar ans.length cr) mb :: (XP' ++ (XO' ++ (mpI mb (odF s') ++ ((b2, Row 36 10 fs) :: ((b0, Row 66 1 (nth [.pointer (some ⟨bm, 0, none⟩)])) :: l))))))))) := by simp
  have hm4 : (b4, Row 34 3 (nth [.int .i64 code, .int .i64 task, .slice ar ans.length cr])) ∈ (sI b5 s' qv2 :: (gather 20 XS2 ++ ((b4, Row 34 3 (nth [.int .i64 code, .int .i64 task, .slice ar ans.length cr])) :: (moI bm (mrOf s') pv' (.slice ar ans.length cr) mb :: (XP' ++ (XO' ++ (mpI mb (odF s') ++ ((b2, Row 36 10 fs) :: ((b0, Row 66 1 (nth [.pointer (some ⟨bm, 0, none⟩)])) :: l))))))))) := by simp
  refine WL.fin hK3991 (fun _ _ h => h) ?_
  refine WC.seq fun K3992 hK3992 => ?_
  -- region 3
  refine WC.region ?_
  -- R3.0 12 := law.go:98 fieldAddr
  refine WL.v (by exact r_field ty_fld36_3 rfl) rfl rfl rfl ?_
  -- R3.1 13 := law.go:98 load
  refine WL.v (by exact r_loadL (vs := [.int .i64 code, .int .i64 task, .slice a ans.length c]) ty_agg34 rfl ⟨(st.cell hm2 (by decide)).trans (congrArg some f7), (st.cell hm2 (by decide)).trans (congrArg some f8), (st.cell hm2 (by decide)).trans (congrArg some f9), trivial⟩) rfl rfl rfl ?_
  -- R3.2 14 := law.go:98 load
  refine WL.v (by exact r_loadL (vs := [.int .i64 code, .int .i64 task, .slice ar ans.length cr]) ty_agg34 rfl ⟨st.cell hm4 (by decide), st.cell hm4 (by decide), st.cell hm4 (by decide), trivial⟩) rfl rfl rfl ?_
  -- R3.3 15 := law.go:98 call
  refine WL.call (r_call ty_call44 rfl) rfl rfl rfl (resEq_ok ho hor (fun x hx => hmem x (hXO hx)) hmO st) ?_
  rintro _ w ⟨rfl, st⟩
  -- R3.4 16 := law.go:98 move
  refine WL.v (by first | exact r_move (v := .bool _) rfl | exact r_move rfl) rfl rfl rfl ?_
  -- R3.5 17 := law.go:98 fieldAddr
  refine WL.v (by exact r_field ty_fld36_2 rfl) rfl rfl rfl ?_
  -- R3.6 18 := law.go:98 load
  refine WL.v (by exact r_load1 (v := .pointer (some ⟨bA, 0, none⟩)) ty_one29 rfl (by rw [← f6]; exact st.cell hm2 (by decide))) rfl rfl rfl ?_
  -- R3.7 19 := law.go:98 call
  refine WL.call (r_call ty_call45 rfl) rfl rfl rfl (stateEq_ok hckM.A List.mem_cons_self hckM.q' (fun r hr => ⟨XS2 r, hq2 r hr, fun x hx => by simp only [List.mem_cons, List.mem_append]; exact .inr (.inl (gather_sub hr hx))⟩) st) ?_
  rintro _ w ⟨rfl, st⟩
  -- R3.8 20 := law.go:98 pick
  refine WL.v (by first | exact r_pickT (v := .bool _) rfl rfl | exact r_pickF (v := .bool _) rfl rfl) rfl rfl rfl ?_
  -- R3.9 3 := law.go:98 assign
  refine WL.v (by first | exact r_assign (v := .bool _) rfl | exact r_assign rfl) rfl rfl rfl ?_
  refine WL.fin hK3992 (fun _ _ h => h) ?_
  refine WC.ret1 Tryz.results41 (fun _ _ h => h) rfl ?_
  refine ⟨_, rfl, rfl, _, ⟨P', ans, pv', XP', _, XO', hrelS, hp', hor, rfl⟩, ?_⟩
  have st := (st.perm (by classical exact List.perm_iff_count.2 fun x => by simp only [List.count_append, List.count_cons, List.count_nil, List.append_eq, List.cons_append, List.nil_append, List.append_assoc, Nat.add_zero, Nat.zero_add] <;> ac_rfl) : S0 w0 (sI b5 s' qv2 :: (gather 20 XS2 ++ ((b4, Row 34 3 (nth [.int .i64 code, .int .i64 task, .slice ar ans.length cr])) :: ((b2, Row 36 10 fs) :: ((b0, Row 66 1 (nth [.pointer (some ⟨bm, 0, none⟩)])) :: ((moI bm (mrOf s') pv' (.slice ar ans.length cr) mb :: (XP' ++ (XO' ++ mpI mb (odF s')))) ++ l)))))) w)
  exact (st_dropL st.drop).drop.drop
theorem refines_ok (a : Option Addr) (sb so n c : Nat) (op : Nat → Kern.Op) (hD : gD w) (hS : Scr w sb so n op) (hCr : ∀ i, i < n → -9223372036854775808 ≤ (op i).C ∧ (op i).C < 9223372036854775808) (hn63 : n ≤ 140737488355328) (ha : 0 < n → a = some ⟨sb, so, none⟩) :
    Calls Tryz.prog 7 #[.slice a n c] w (Ret fun v w' => v = .bool true ∧ S0 w [] w') := by
  have st : S0 w [] w := St.init w _
  by_cases hn : n ≤ 65536
  · have hC : ∀ b0 bm mb, CheckOK w 41 #[.pointer (some ⟨b0, 0, none⟩)] op n fun i LI => ∃ Z0, MZ bm mb (runP op i) Z0 ∧ LI = (b0, Row 66 1 (nth [.pointer (some ⟨bm, 0, none⟩)])) :: Z0 := fun b0 bm mb => by
      rintro i bB bA qv qv' XS XS' ov XO LI Z w' hi ⟨Z0, hZ, rfl⟩ hQ st'
      have hK := run_KI op i
      have hK' := run_KI op (i + 1)
      have h1 := hK.now
      have h2 := hK.armed
      have h3 := hK.births
      have hT := run_TI op n hn i (by omega)
      have hT' := run_TI op n hn (i + 1) (by omega)
      refine (refines1_ok (s := runP op i) (s' := runP op (i + 1)) (l := QIs (runP op i) (runP op (i + 1)) bB bA qv qv' XS XS' XO Z) hD (hS.kind i hi) (hS.x i hi) (hCr i hi).1 (hCr i hi).2 hK.b (by omega) (run_INV op i) (run_CT op i) (run_BI op i) hT.1 hT.2 (run_VN op i) (by omega) (by omega) (by omega) hK.told hK'.b (by omega) (run_INV op (i + 1)) (fun t hw => hT'.1.z t (hT'.1.w t hw)) rfl rfl rfl rfl hZ (CK.of hQ) (st'.perm (by classical exact List.perm_iff_count.2 fun x => by simp only [List.count_append, List.count_cons, List.count_nil, List.append_eq, List.cons_append, List.nil_append, List.append_assoc, Nat.add_zero, Nat.zero_add] <;> ac_rfl))).mono ?_
      rintro e w'' ⟨v, rfl, rfl, Z1, hZ1, st''⟩
      exact ⟨_, rfl, rfl, _, ⟨Z1, hZ1, rfl⟩, st''.perm (by classical exact List.perm_iff_count.2 fun x => by simp only [List.count_append, List.count_cons, List.count_nil, List.append_eq, List.cons_append, List.nil_append, List.append_assoc, Nat.add_zero, Nat.zero_add] <;> ac_rfl)⟩
    refine enter [.slice a n c] Tryz.func7 rfl Tryz.ntmps7 rfl ?_
    show WC _ _ _ 11 [] [(0, .slice a n c)] _
    refine WC.seq fun K3993 hK3993 => ?_
    -- region 0
    refine WC.region ?_
    -- R0.0 2 := law.go:89 assign
    refine WL.v (by first | exact r_assign (v := .bool _) rfl | exact r_assign rfl) rfl rfl rfl ?_
    refine WL.fin hK3993 (fun _ _ h => h) ?_
    refine WC.seq fun K3994 hK3994 => ?_
    refine WC.seq fun K3995 hK3995 => ?_
    -- region 1
    refine WC.region ?_
    -- R1.0 4 := law.go:90 move
    refine WL.v (by first | exact r_move (v := .slice _ _ _) rfl | exact r_move rfl) rfl rfl rfl ?_
    -- R1.1 5 := law.go:90 call
    refine WL.call (r_call ty_call23 rfl) rfl rfl rfl (zzSmall1_ok a n c st) ?_
    rintro _ w' ⟨he, st⟩
    rw [decide_eq_true hn] at he
    subst he
    -- R1.2 6 := law.go:90 unOp
    refine WL.v (by first | exact r_notT rfl | exact r_notF rfl | exact r_not rfl) rfl rfl rfl ?_
    refine WL.fin hK3995 (fun _ _ h => h) ?_
    refine WC.condF rfl rfl ?_
    refine WC.skipF hK3994 (fun _ _ h => h) ?_
    refine WC.seq fun K3996 hK3996 => ?_
    -- region 3
    refine WC.region ?_
    -- R3.0 7 := law.go:94 call
    refine WL.call (r_call ty_call40 rfl) rfl rfl rfl (newMo_ok st) ?_
    rintro _ w1 ⟨bm, mb, Z0, rfl, hZ0, st⟩
    -- R3.1 3 := law.go:94 alloc
    refine WL.alloc (m := 1) st ty_zero66 rfl rfl rfl ?_
    intro b3 w st
    -- R3.2 None := law.go:94 store
    first | refine WL.store (v := .pointer _) st ty_one66 rfl rfl rfl (by first | decide | omega) rfl rfl ?_ | refine WL.store (v := _) st ty_one66 rfl rfl rfl (by first | decide | omega) rfl rfl ?_ | refine WL.store (v := .pointer _) st.front1 ty_one66 rfl rfl rfl (by first | decide | omega) rfl rfl ?_ | refine WL.store (v := _) st.front1 ty_one66 rfl rfl rfl (by first | decide | omega) rfl rfl ?_ | refine WL.store (v := .pointer _) st.front2 ty_one66 rfl rfl rfl (by first | decide | omega) rfl rfl ?_ | refine WL.store (v := _) st.front2 ty_one66 rfl rfl rfl (by first | decide | omega) rfl rfl ?_ | refine WL.store (v := .pointer _) st.front3 ty_one66 rfl rfl rfl (by first | decide | omega) rfl rfl ?_ | refine WL.store (v := _) st.front3 ty_one66 rfl rfl rfl (by first | decide | omega) rfl rfl ?_ | refine WL.store (v := .pointer _) st.front4 ty_one66 rfl rfl rfl (by first | decide | omega) rfl rfl ?_ | refine WL.store (v := _) st.front4 ty_one66 rfl rfl rfl (by first | decide | omega) rfl rfl ?_ | refine WL.store (v := .pointer _) st.front5 ty_one66 rfl rfl rfl (by first | decide | omega) rfl rfl ?_ | refine WL.store (v := _) st.front5 ty_one66 rfl rfl rfl (by first | decide | omega) rfl rfl ?_ | refine WL.store (v := .pointer _) st.front6 ty_one66 rfl rfl rfl (by first | decide | omega) rfl rfl ?_ | refine WL.store (v := _) st.front6 ty_one66 rfl rfl rfl (by first | decide | omega) rfl rfl ?_ | refine WL.store (v := .pointer _) st.front7 ty_one66 rfl rfl rfl (by first | decide | omega) rfl rfl ?_ | refine WL.store (v := _) st.front7 ty_one66 rfl rfl rfl (by first | decide | omega) rfl rfl ?_ | refine WL.store (v := .pointer _) st.front8 ty_one66 rfl rfl rfl (by first | decide | omega) rfl rfl ?_ | refine WL.store (v := _) st.front8 ty_one66 rfl rfl rfl (by first | decide | omega) rfl rfl ?_
    intro w st
    refine WL.fin hK3996 (fun _ _ h => h) ?_
    refine WC.seq fun K3997 hK3997 => ?_
    -- region 4
    refine WC.region ?_
    -- R4.0 8 := law.go:95 move
    refine WL.v (by first | exact r_move (v := .slice _ _ _) rfl | exact r_move rfl) rfl rfl rfl ?_
    -- R4.1 9 := law.go:95 makeFunc
    refine WL.v (by exact r_mkfn rfl rfl) rfl rfl rfl ?_
    -- R4.2 10 := law.go:95 call
    have st := (stE one_upd st : S0 _ (((b3, Row 66 1 (nth [.pointer (some ⟨bm, 0, none⟩)])) :: Z0) ++ []) _)
    refine WL.call (r_call ty_call24 rfl) rfl rfl rfl (play_ok (l := []) (LI := (b3, Row 66 1 (nth [.pointer (some ⟨bm, 0, none⟩)])) :: Z0) ty_call41 hD hS hn ha (hC b3 bm mb) ⟨Z0, hZ0, rfl⟩ st) ?_
    rintro _ w'' ⟨rfl, LI', ⟨Z1, -, rfl⟩, st⟩
    -- R4.3 2 := law.go:95 assign
    refine WL.v (by first | exact r_assign (v := .bool _) rfl | exact r_assign rfl) rfl rfl rfl ?_
    refine WL.fin hK3997 (fun _ _ h => h) ?_
    refine WC.ret1 Tryz.results7 (fun _ _ h => h) rfl ?_
    exact ⟨_, rfl, rfl, st.sublist (List.nil_sublist _)⟩
  · skip
    refine enter [.slice a n c] Tryz.func7 rfl Tryz.ntmps7 rfl ?_
    show WC _ _ _ 11 [] [(0, .slice a n c)] _
    refine WC.seq fun K3998 hK3998 => ?_
    -- region 0
    refine WC.region ?_
    -- R0.0 2 := law.go:89 assign
    refine WL.v (by first | exact r_assign (v := .bool _) rfl | exact r_assign rfl) rfl rfl rfl ?_
    refine WL.fin hK3998 (fun _ _ h => h) ?_
    refine WC.seq fun K3999 hK3999 => ?_
    refine WC.seq fun K4000 hK4000 => ?_
    -- region 1
    refine WC.region ?_
    -- R1.0 4 := law.go:90 move
    refine WL.v (by first | exact r_move (v := .slice _ _ _) rfl | exact r_move rfl) rfl rfl rfl ?_
    -- R1.1 5 := law.go:90 call
    refine WL.call (r_call ty_call23 rfl) rfl rfl rfl (zzSmall1_ok a n c st) ?_
    rintro _ w' ⟨he, st⟩
    rw [decide_eq_false hn] at he
    subst he
    -- R1.2 6 := law.go:90 unOp
    refine WL.v (by first | exact r_notT rfl | exact r_notF rfl | exact r_not rfl) rfl rfl rfl ?_
    refine WL.fin hK4000 (fun _ _ h => h) ?_
    refine WC.condT rfl rfl ?_
    refine WC.seq fun K4001 hK4001 => ?_
    -- region 2
    refine WC.region ?_
    -- R2.0 2 := law.go:91 assign
    refine WL.v (by first | exact r_assign (v := .bool _) rfl | exact r_assign rfl) rfl rfl rfl ?_
    refine WL.fin hK4001 (fun _ _ h => h) ?_
    refine WC.ret1 Tryz.results7 (fun _ _ h => h) rfl ?_
    exact ⟨_, rfl, rfl, st⟩
theorem op_oneC {cs : List Value} (h : Rd Tryz.prog w 28 cs) : ∃ y : Kern.Op, (∀ k, k < 5 → nth cs k = nth (opL y) k) ∧ y.kind < 256 ∧ y.X < 18446744073709551616 ∧ (-9223372036854775808 ≤ y.B ∧ y.B ≤ 9223372036854775807) ∧ -9223372036854775808 ≤ y.C ∧ y.C < 9223372036854775808 := by
  obtain ⟨y, h1, h2, h3, h4⟩ := op_one h
  have c3 := rd_iv ty_uint2 (lv h 3 2 (by decide))
  have e : y.C = iv (nth cs 3) := by
    have k1 := h1 3 (by decide)
    have k2 : nth (opL y) 3 = .int .i64 y.C := rfl
    rw [k2] at k1
    rw [k1]; rfl
  have hm : IntKind.i64.min = -9223372036854775808 := rfl
  have hM : IntKind.i64.max = 9223372036854775807 := rfl
  have := c3.2
  exact ⟨y, h1, h2, h3, h4, by omega, by omega⟩
theorem scr_ofC {v : Value} (h : Rd Tryz.prog w 22 [v]) : ∃ a n c sb so op, v = .slice a n c ∧ n ≤ 140737488355328 ∧ (0 < n → a = some ⟨sb, so, none⟩) ∧ Scr w sb so n op ∧ ∀ i, i < n → -9223372036854775808 ≤ (op i).C ∧ (op i).C < 9223372036854775808 := by
  obtain ⟨a, n, c, b, o, hv, h1, h2, h3, h4, h5⟩ := rd_slice ty_usl22 (by rw [ty_cells28]; omega) h
  simp only [List.cons.injEq, and_true] at hv
  rw [ty_bytes28] at h3
  have hr : reachBytes = 140737488351232 := rfl
  have hy : ∀ i, ∃ y : Kern.Op, i < n → (∀ k, k < 5 → w.cell? ⟨b, o + i * 5 + k, none⟩ = some (nth (opL y) k)) ∧ y.kind < 256 ∧ y.X < 18446744073709551616 ∧ (-9223372036854775808 ≤ y.B ∧ y.B ≤ 9223372036854775807) ∧ -9223372036854775808 ≤ y.C ∧ y.C < 9223372036854775808 := fun i => by
    by_cases hi : i < n
    · obtain ⟨ecs, e1, e2, e3⟩ := h5 i hi
      rw [ty_cells28] at e1 e2
      obtain ⟨y, hy, hp⟩ := op_oneC e3
      exact ⟨y, fun _ => ⟨fun k hk => by rw [e2 k hk, hy k hk], hp⟩⟩
    · exact ⟨⟨0, 0, 0, 0, 0⟩, fun h => absurd h hi⟩
  obtain ⟨y, hy⟩ := Classical.skolem.1 hy
  exact ⟨a, n, c, b, o, y, hv, by omega, h4, ⟨fun i hi => (hy i hi).1, fun i hi => (hy i hi).2.1, fun i hi => (hy i hi).2.2.1, fun i hi => (hy i hi).2.2.2.1⟩, fun i hi => (hy i hi).2.2.2.2⟩
end Go.Proofs.Qxb6500834aGreatDoor

