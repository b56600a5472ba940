import Derived.Test.Qxb6500834aGreatDoorK94
set_option linter.unusedVariables false
set_option linter.unusedSimpArgs false
set_option maxRecDepth 20000
namespace Go.Proofs.Qxb6500834aGreatDoor
open Go.RowKit Go.E1 Go.Kern
theorem ty_call69 : callT Tryz.prog 69 = true := by kernel_rfl
theorem ty_pl98 : plT Tryz.prog 98 = some [(0, 1), (1, 1), (2, 1), (3, 1), (4, 16), (20, 16), (36, 16), (52, 320), (372, 320), (692, 1), (693, 12), (705, 16), (721, 16), (737, 1)] := by kernel_rfl
variable {w0 : World} {l X : List HI} {w : World} {s s' s0 : KS} {t r N n : Nat} {qv qv' : Nat → Value}
variable {P : List PQ} {m : MR} {pv tv v : Value} {mb : Nat → Nat} {bm : Nat} {T : List (Nat × Nat × Nat)} {O : Nat → Nat → Option Nat} {held claim : Nat → Nat → Nat}

/-! The model's Step and New. -/
set_option maxHeartbeats 4000000 in
theorem mStep_ok {o : Kern.Op} (hD : gD w0) (hkd : o.kind < 256) (hX64 : o.X < 18446744073709551616) (hC1 : -9223372036854775808 ≤ o.C) (hC2 : o.C < 9223372036854775808) (hB : KB N s) (hN : N + N + 200 ≤ 1000000) (hI : INV s) (hct : CT s) (hbi : BI s) (hti : TI s []) (hdu : Due s) (hvn : VN s) (hnow : s.now ≤ 1000000) (harm : s.armed ≤ 1000000) (hbr : s.births ≤ 1000000) (hrel : RelP s P) (h0 : s.told = []) (st : MW w0 bm mb (mrOf s) (odF s) P T l w) :
    Calls Tryz.prog 42 #[.pointer (some ⟨bm, 0, none⟩), .agg (opL o).toArray] w (Ret fun v w' => ∃ P' pv XP tv XO, RelP (stepP s o).1 P' ∧ PL0 pv P' XP ∧ OL0 tv (stepP s o).1.told XO ∧ v = .agg #[.int .i64 (stepP s o).2.1, .int .i64 (stepP s o).2.2, tv] ∧ S0 w0 (moI bm (mrOf (stepP s o).1) pv tv mb :: (XP ++ (XO ++ (mpI mb (odF (stepP s o).1) ++ l)))) w') := by
  obtain ⟨pv, XP, tv, XO, hp, ho, st⟩ := st
  refine enter [.pointer (some ⟨bm, 0, none⟩), .agg (opL o).toArray] Tryz.func42 rfl Tryz.ntmps42 rfl ?_
  show WC _ _ _ 23 [] [(0, .pointer (some ⟨bm, 0, none⟩)), (1, .agg (opL o).toArray)] _
  refine WC.seq fun K3953 hK3953 => ?_
  -- region 0
  refine WC.region ?_
  -- R0.0 3 := model.go:53 box
  refine WL.box (m := 5) (vs := opL o) st rfl rfl rfl rfl rfl rfl ?_
  intro b3 w st
  have st : S0 w0 (oI b3 o :: (moI bm (mrOf s) pv tv mb :: (XP ++ (XO ++ (mpI mb (odF s) ++ l))))) w := st
  -- R0.1 4 := model.go:53 alloc
  refine WL.alloc (m := 3) st ty_zero34 rfl rfl rfl ?_
  intro b4 w st
  refine WL.fin hK3953 (fun _ _ h => h) ?_
  refine WC.seq fun K3954 hK3954 => ?_
  -- region 1
  refine WC.region ?_
  -- R1.0 7 := model.go:54 move
  refine WL.v (by first | exact r_move (v := .pointer _) rfl | exact r_move rfl) rfl rfl rfl ?_
  -- R1.1 8 := model.go:54 nilCheck
  refine WL.v (by exact r_nilCheck rfl) rfl rfl rfl ?_
  -- R1.2 9 := model.go:54 fieldAddr
  refine WL.v (by exact r_field ty_fld98_13 rfl) rfl rfl rfl ?_
  -- R1.3 None := model.go:54 store
  have st : S0 w0 (zR b4 :: oI b3 o :: (moI bm (mrOf s) pv tv mb :: (XP ++ (XO ++ (mpI mb (odF s) ++ l))))) w := st
  refine WL.store (v := .slice none 0 0) st.front2 ty_one32 rfl rfl rfl (by decide) rfl rfl ?_
  intro w st
  have st : S0 w0 (moI bm (mrOf s) pv (.slice none 0 0) mb :: zR b4 :: oI b3 o :: (XP ++ (XO ++ (mpI mb (odF s) ++ l)))) w := stE mw_told st
  have st : S0 w0 (XO ++ (oI b3 o :: (moI bm (mrOf s) pv (.slice none 0 0) mb :: (XP ++ (mpI mb (odF s) ++ (zR b4 :: l)))))) w := st.perm (by classical exact List.perm_iff_count.2 fun x => by simp only [List.count_append, List.count_cons, List.count_nil, List.append_eq, List.cons_append, List.nil_append, List.append_assoc, Nat.add_zero, Nat.zero_add] <;> ac_rfl)
  have st := st_dropL st
  refine WL.fin hK3954 (fun _ _ h => h) ?_
  refine WC.seq fun K3955 hK3955 => ?_
  -- region 2
  refine WC.region ?_
  -- R2.0 11 := model.go:55 move
  refine WL.v (by first | exact r_move (v := .pointer _) rfl | exact r_move rfl) rfl rfl rfl ?_
  -- R2.1 12 := model.go:55 load
  refine WL.v (by exact r_loadL (vs := opL o) ty_agg28 rfl ⟨st.c0 (by decide), st.c0 (by decide), st.c0 (by decide), st.c0 (by decide), st.c0 (by decide), trivial⟩) rfl rfl rfl ?_
  -- R2.2 13 := model.go:55 call
  have st : S0 w0 (moI bm (mrOf s) pv (.slice none 0 0) mb :: (XP ++ ([] ++ (mpI mb (odF s) ++ (zR b4 :: oI b3 o :: l))))) w := st.perm (by classical exact List.perm_iff_count.2 fun x => by simp only [List.count_append, List.count_cons, List.count_nil, List.append_eq, List.cons_append, List.nil_append, List.append_assoc, Nat.add_zero, Nat.zero_add] <;> ac_rfl)
  refine WL.call (r_call ty_call69 rfl) rfl rfl rfl (stepM_ok hD hkd hX64 hC1 hC2 hB hN hI hct hbi hti hdu hvn hnow harm hbr hrel ⟨pv, XP, .slice none 0 0, [], hp, by rw [h0]; exact LO.nil, st⟩) ?_
  rintro _ w ⟨rfl, P', hrel', st⟩
  obtain ⟨pv', XP', tv', XO', hp', ho', st⟩ := st
  have ho2 := ho'
  obtain ⟨a', c', b', rfl, -, -, -, -⟩ := ho'.form
  have st : S0 w0 (zR b4 :: (moI bm (mrOf (stepP s o).1) pv' (.slice a' (stepP s o).1.told.length c') mb :: (oI b3 o :: (XP' ++ (XO' ++ (mpI mb (odF (stepP s o).1) ++ l)))))) w := st.perm (by classical exact List.perm_iff_count.2 fun x => by simp only [List.count_append, List.count_cons, List.count_nil, List.append_eq, List.cons_append, List.nil_append, List.append_assoc, Nat.add_zero, Nat.zero_add] <;> ac_rfl)
  -- R2.3 10 := model.go:55 move
  refine WL.v (by first | exact r_move (v := .tuple _) rfl | exact r_move rfl) rfl rfl rfl ?_
  -- R2.4 14 := model.go:55 extract
  refine WL.v (by first | exact r_extract (v := .int _ _) rfl rfl | exact r_extract rfl rfl) rfl rfl rfl ?_
  -- R2.5 15 := model.go:55 extract
  refine WL.v (by first | exact r_extract (v := .int _ _) rfl rfl | exact r_extract rfl rfl) rfl rfl rfl ?_
  -- R2.6 5 := model.go:55 assign
  refine WL.v (by first | exact r_assign (v := .int _ _) rfl | exact r_assign rfl) rfl rfl rfl ?_
  -- R2.7 6 := model.go:55 assign
  refine WL.v (by first | exact r_assign (v := .int _ _) rfl | exact r_assign rfl) rfl rfl rfl ?_
  refine WL.fin hK3955 (fun _ _ h => h) ?_
  refine WC.seq fun K3956 hK3956 => ?_
  -- region 3
  refine WC.region ?_
  -- R3.0 16 := model.go:56 move
  refine WL.v (by first | exact r_move (v := .int _ _) rfl | exact r_move rfl) rfl rfl rfl ?_
  -- R3.1 17 := model.go:56 move
  refine WL.v (by first | exact r_move (v := .int _ _) rfl | exact r_move rfl) rfl rfl rfl ?_
  -- R3.2 18 := model.go:56 move
  refine WL.v (by first | exact r_move (v := .pointer _) rfl | exact r_move rfl) rfl rfl rfl ?_
  -- R3.3 19 := model.go:56 nilCheck
  refine WL.v (by exact r_nilCheck rfl) rfl rfl rfl ?_
  -- R3.4 20 := model.go:56 fieldAddr
  refine WL.v (by exact r_field ty_fld98_13 rfl) rfl rfl rfl ?_
  -- R3.5 21 := model.go:56 load
  refine WL.v (by exact r_load1 (v := .slice a' (stepP s o).1.told.length c') ty_one32 rfl (c_m (m := mrOf (stepP s o).1) (List.mem_cons_of_mem _ List.mem_cons_self) (by decide) rfl st)) rfl rfl rfl ?_
  -- R3.6 22 := model.go:56 build
  refine WL.v (by exact r_build (ps := [(0, .int .i64 (stepP s o).2.1), (1, .int .i64 (stepP s o).2.2), (2, .slice a' (stepP s o).1.told.length c')]) (vs := [.int .i64 (stepP s o).2.1, .int .i64 (stepP s o).2.2, .slice a' (stepP s o).1.told.length c']) ty_pl34 ty_zero34 rfl rfl) rfl rfl rfl ?_
  -- R3.7 None := model.go:56 store
  refine WL.storeW (vs := [.int .i64 (stepP s o).2.1, .int .i64 (stepP s o).2.2, .slice a' (stepP s o).1.told.length c']) st ty_agg34 rfl rfl rfl rfl rfl rfl ?_
  intro w st
  have st : S0 w0 ((b4, Row 34 3 (nth [.int .i64 (stepP s o).2.1, .int .i64 (stepP s o).2.2, .slice a' (stepP s o).1.told.length c'])) :: (moI bm (mrOf (stepP s o).1) pv' (.slice a' (stepP s o).1.told.length c') mb :: (oI b3 o :: (XP' ++ (XO' ++ (mpI mb (odF (stepP s o).1) ++ l)))))) w := st
  refine WL.fin hK3956 (fun _ _ h => h) ?_
  refine WC.retC (vs := [_, _, _]) Tryz.results42 (fun _ _ h => h) rfl ty_agg34 rfl ⟨(by first | assumption | exact st.c0 (by first | decide | omega) | exact st.c1 (by first | decide | omega) | exact st.c2 (by first | decide | omega) | exact st.c3 (by first | decide | omega) | exact st.c4 (by first | decide | omega) | exact st.c5 (by first | decide | omega) | exact st.c6 (by first | decide | omega) | exact st.c7 (by first | decide | omega) | exact st.c8 (by first | decide | omega)), (by first | assumption | exact st.c0 (by first | decide | omega) | exact st.c1 (by first | decide | omega) | exact st.c2 (by first | decide | omega) | exact st.c3 (by first | decide | omega) | exact st.c4 (by first | decide | omega) | exact st.c5 (by first | decide | omega) | exact st.c6 (by first | decide | omega) | exact st.c7 (by first | decide | omega) | exact st.c8 (by first | decide | omega)), (by first | assumption | exact st.c0 (by first | decide | omega) | exact st.c1 (by first | decide | omega) | exact st.c2 (by first | decide | omega) | exact st.c3 (by first | decide | omega) | exact st.c4 (by first | decide | omega) | exact st.c5 (by first | decide | omega) | exact st.c6 (by first | decide | omega) | exact st.c7 (by first | decide | omega) | exact st.c8 (by first | decide | omega)), trivial⟩ ?_
  exact ⟨_, rfl, P', pv', XP', _, XO', hrel', hp', ho2, rfl, st.drop.drop1⟩
def moZ (mb : Nat → Nat) (k i : Nat) : Value := if 705 ≤ i ∧ i < 721 then rowK mb k (i - 705) else moF (mrOf ks0) (.slice none 0 0) (.slice none 0 0) (fun _ => 0) i
theorem zero98 : zeroL Tryz.prog 98 = some ((List.range 738).map (moZ (fun _ => 0) 0)) := by kernel_rfl
theorem moZ_set {k b : Nat} (hk : k < 16) : ∀ i, i < 738 → upd (moZ mb k) (0 + 705 + k * 1) (.map (some b)) i = moZ (updN mb k b) (k + 1) i := fun i hi => by
  rw [upd_eq]
  unfold moZ
  by_cases h : 705 ≤ i ∧ i < 721
  · have h1 := rowK_set (mb := mb) (k := k) (b := b) hk (i - 705) (by omega)
    rw [upd_eq] at h1
    rw [if_pos h, if_pos h, ← h1]
    by_cases e : i = 0 + 705 + k * 1
    · rw [if_pos e, if_pos (by omega)]
    · rw [if_neg e, if_neg (by omega)]
  · rw [if_neg (by omega), if_neg h, if_neg h]
theorem moZ_end : ∀ i, i < 738 → moZ mb 16 i = moF (mrOf ks0) (.slice none 0 0) (.slice none 0 0) mb i := fun i hi => by
  unfold moZ
  by_cases h : 705 ≤ i ∧ i < 721
  · rw [if_pos h]
    unfold rowK
    rw [if_pos (by omega)]
    have := mo_before (m := mrOf ks0) (pv := .slice none 0 0) (tv := .slice none 0 0) (mb := mb) (i := i - 705) (by omega)
    rw [show 705 + (i - 705) = i by omega] at this
    exact this.symm
  · rw [if_neg h]
    unfold moF
    exact seg (fun _ => rfl) fun _ => seg (fun _ => rfl) fun _ => seg (fun _ => rfl) fun _ => seg (fun _ => rfl) fun _ => seg (fun _ => rfl) fun _ => seg (fun _ => rfl) fun _ => seg (fun _ => rfl) fun _ => seg (fun _ => rfl) fun _ => seg (fun h' => absurd (show 705 ≤ i ∧ i < 721 by omega) h) fun _ => rfl
def MZ (bm : Nat) (mb : Nat → Nat) (s : KS) (Z : List HI) : Prop := ∃ P T pv XP tv XO, RelP s P ∧ PL0 pv P XP ∧ OL0 tv T XO ∧ Z = moI bm (mrOf s) pv tv mb :: (XP ++ (XO ++ mpI mb (odF s)))
theorem rel0 : RelP ks0 [] := ⟨fun _ _ => rfl, (fun _ h => by cases h), (fun _ h => by cases h), List.Pairwise.nil⟩
set_option maxHeartbeats 2000000 in
theorem newMo_ok (st : S0 w0 l w) : Calls Tryz.prog 40 #[] w (Ret fun v w' => ∃ bm mb Z, v = .pointer (some ⟨bm, 0, none⟩) ∧ MZ bm mb ks0 Z ∧ S0 w0 (Z ++ l) w') := by
  refine enter [] Tryz.func40 rfl Tryz.ntmps40 rfl ?_
  show WC _ _ _ 16 [] [] _
  refine WC.seq fun K3957 hK3957 => ?_
  -- region 0
  refine WC.region ?_
  -- R0.0 0 := model.go:42 assign
  refine WL.v (by first | exact r_assign (v := .pointer _) rfl | exact r_assign rfl) rfl rfl rfl ?_
  refine WL.fin hK3957 (fun _ _ h => h) ?_
  refine WC.seq fun K3958 hK3958 => ?_
  -- region 1
  refine WC.region ?_
  -- R1.0 3 := model.go:43 build
  refine WL.v (by exact r_buildN (n := 738) (z := moZ (fun _ => 0) 0) (v := moZ (fun _ => 0) 0) (ps := []) ty_pl98 zero98 rfl fill_nil) rfl rfl rfl ?_
  -- R1.1 4 := model.go:43 box
  refine WL.boxN (m := 738) (v := moZ (fun _ => 0) 0) st rfl rfl rfl rfl ?_
  intro b4 w st
  -- R1.2 1 := model.go:43 assign
  refine WL.v (by first | exact r_assign (v := .pointer _) rfl | exact r_assign rfl) rfl rfl rfl ?_
  refine WL.fin hK3958 (fun _ _ h => h) ?_
  refine WC.seq fun K3959 hK3959 => ?_
  refine WC.seq fun K3960 hK3960 => ?_
  -- region 2
  refine WC.region ?_
  -- R2.0 5 := model.go:44 move
  refine WL.v (by first | exact r_move (v := .int _ _) rfl | exact r_move rfl) rfl rfl rfl ?_
  refine WL.fin hK3960 (fun _ _ h => h) ?_
  refine WC.block ?_
  refine WC.loop (ι := Nat × (Nat → Nat)) (fun y => [(1, .pointer (some ⟨b4, 0, none⟩)), (5, .int .i64 (y.1 : Nat))])
    (fun y w' => y.1 ≤ 16 ∧ S0 w0 ((b4, Row 98 738 (moZ y.2 y.1)) :: ((gather y.1 fun t => [mpE (y.2 t) fun _ => none]) ++ l)) w') (fun y => 16 - y.1) (0, fun _ => 0) ⟨Nat.zero_le _, st⟩ ?_ ?_
  · skip
    repeat (first | exact sub_nil _ | refine sub_cons rfl rfl ?_)
  clear st
  rintro ⟨k, mb⟩ w ⟨hk, st⟩ K1 hK1
  dsimp only at hk st ⊢
  by_cases h16 : k = 16
  rotate_left
  · have hk' : k < 16 := by omega
    refine WC.seq fun K3961 hK3961 => ?_
    -- region 3
    refine WC.region ?_
    -- R3.0 6 := model.go:44 binOp
    refine WL.v (by first | exact r_lss rfl rfl (decide_eq_true (by omega)) | exact r_lss rfl rfl (decide_eq_false (by omega)) | exact r_lss rfl rfl rfl) rfl rfl rfl ?_
    refine WL.fin hK3961 (fun _ _ h => h) ?_
    refine WC.seq fun K3962 hK3962 => ?_
    refine WC.condT rfl rfl ?_
    refine WC.skipF hK3962 (fun _ _ h => h) ?_
    refine WC.seq fun K3963 hK3963 => ?_
    refine WC.block ?_
    refine WC.seq fun K3964 hK3964 => ?_
    -- region 4
    refine WC.region ?_
    -- R4.0 7 := model.go:44 move
    refine WL.v (by first | exact r_move (v := .int _ _) rfl | exact r_move rfl) rfl rfl rfl ?_
    -- R4.1 2 := model.go:44 assign
    refine WL.v (by first | exact r_assign (v := .int _ _) rfl | exact r_assign rfl) rfl rfl rfl ?_
    refine WL.fin hK3964 (fun _ _ h => h) ?_
    -- region 5
    refine WC.region ?_
    -- R5.0 8 := model.go:45 move
    refine WL.v (by first | exact r_move (v := .pointer _) rfl | exact r_move rfl) rfl rfl rfl ?_
    -- R5.1 9 := model.go:45 move
    refine WL.v (by first | exact r_move (v := .int _ _) rfl | exact r_move rfl) rfl rfl rfl ?_
    -- R5.2 10 := model.go:45 makeMap
    refine WL.mkmap (keyGood Go.Proofs.Tryz.prog 74) st rfl rfl ?_
    intro bn w st
    rw [← gOf_none, ← odV_none] at st
    -- R5.3 11 := model.go:45 nilCheck
    refine WL.v (by exact r_nilCheck rfl) rfl rfl rfl ?_
    -- R5.4 12 := model.go:45 fieldAddr
    refine WL.v (by exact r_field ty_fld98_11 rfl) rfl rfl rfl ?_
    -- R5.5 13 := model.go:45 indexAddr
    refine WL.v (by exact r_indexA (j := k) ty_ar73 rfl rfl rfl hk') rfl rfl rfl ?_
    -- R5.6 None := model.go:45 store
    refine WL.store (v := .map (some bn)) st.front1 ty_one72 rfl rfl rfl (by omega) rfl rfl ?_
    intro w st
    have st : S0 w0 ((b4, Row 98 738 (moZ (updN mb k bn) (k + 1))) :: mpE bn (fun _ => none) :: ((gather k fun t => [mpE (mb t) fun _ => none]) ++ l)) w := stE (moZ_set hk') st
    refine WL.fin hK3963 (fun _ _ h => h) ?_
    -- region 6
    refine WC.region ?_
    -- R6.0 14 := model.go:44 binOp
    refine WL.v (by first | exact r_add rfl rfl (wi64 (by omega) (by omega)) | exact r_add rfl rfl rfl) rfl rfl rfl ?_
    -- R6.1 5 := model.go:44 move
    refine WL.v (by first | exact r_move (v := .int _ _) rfl | exact r_move rfl) rfl rfl rfl ?_
    refine WL.next hK1 (fun _ _ h => h) (k + 1, updN mb k bn) ⟨hk', ?_⟩ (by show 16 - (k + 1) < 16 - k; omega) (by repeat (first | exact sub_nil _ | refine sub_cons rfl rfl ?_))
    dsimp only
    rw [gather_succ, gather_congr (g := fun t => [mpE (mb t) fun _ => none]) (fun i hi => by rw [updN_ne (by omega)]), updN_same]
    exact st.perm (by classical exact List.perm_iff_count.2 fun x => by simp only [List.count_append, List.count_cons, List.count_nil, List.append_eq, List.cons_append, List.nil_append, List.append_assoc, Nat.add_zero, Nat.zero_add] <;> ac_rfl)
  subst h16
  have st : S0 w0 (moI b4 (mrOf ks0) (.slice none 0 0) (.slice none 0 0) mb :: (mpI mb (odF ks0) ++ l)) w := stE moZ_end st
  refine WC.seq fun K3965 hK3965 => ?_
  -- region 3
  refine WC.region ?_
  -- R3.0 6 := model.go:44 binOp
  refine WL.v (by first | exact r_lss rfl rfl (decide_eq_true (by omega)) | exact r_lss rfl rfl (decide_eq_false (by omega)) | exact r_lss rfl rfl rfl) rfl rfl rfl ?_
  refine WL.fin hK3965 (fun _ _ h => h) ?_
  refine WC.seq fun K3966 hK3966 => ?_
  refine WC.condF rfl rfl ?_
  refine WC.exitF hK3959 (fun _ _ h => h) ?_
  refine WC.seq fun K3967 hK3967 => ?_
  -- region 7
  refine WC.region ?_
  -- R7.0 15 := model.go:47 move
  refine WL.v (by first | exact r_move (v := .pointer _) rfl | exact r_move rfl) rfl rfl rfl ?_
  -- R7.1 0 := model.go:47 assign
  refine WL.v (by first | exact r_assign (v := .pointer _) rfl | exact r_assign rfl) rfl rfl rfl ?_
  refine WL.fin hK3967 (fun _ _ h => h) ?_
  refine WC.ret1 Tryz.results40 (fun _ _ h => h) rfl ?_
  exact ⟨_, rfl, b4, mb, _, rfl, ⟨[], [], .slice none 0 0, [], .slice none 0 0, [], rel0, LO.nil, LO.nil, rfl⟩, st⟩
end Go.Proofs.Qxb6500834aGreatDoor

