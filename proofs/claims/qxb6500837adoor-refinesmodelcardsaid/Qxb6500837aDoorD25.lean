import Derived.Test.Qxb6500837aDoorD23
set_option linter.unusedVariables false
set_option linter.unusedSimpArgs false
set_option maxRecDepth 20000
namespace Go.Proofs.Qxb6500837aDoor
open Go.RowKit Go.E1 Go.Disk
variable {w0 : World} {L L' l I J : List HI} {w : World} {D : DK} {m : Int} {P : PD} {q : Obj → Prop}

/-! Law 8, plainly: a refused call changes nothing. -/
theorem step_refused {o : OP} (h0 : (stepP P o).2 ≠ 0) (h3 : (stepP P o).2 ≠ 3 ∨ P.down = true) : (stepP P o).1 = P := by
  unfold stepP at h0 h3 ⊢
  split
  · unfold fmtS
    rename_i hk
    rw [if_pos hk] at h0
    unfold fmtS at h0
    split
    · rfl
    · rename_i P' h; rw [h] at h0; exact absurd rfl h0
  rename_i hk0
  rw [if_neg hk0] at h0 h3
  split
  · rename_i hk
    rw [if_pos hk] at h0 h3
    unfold writeP at h0 h3 ⊢
    split
    · rfl
    · rename_i hdn
      rw [if_neg hdn] at h0 h3
      split
      · rfl
      · rename_i hs
        rw [if_neg hs] at h0 h3
        rcases writeL_code (bs := o.dat.bs) (s := o.sct.toNat) (n := o.dat.bs.length / 512) (i := 0) (P := P) with h | h
        · exact absurd h h0
        · exact (h3.elim (fun q => q h.1) (fun q => hdn q)).elim
  rename_i hk1
  rw [if_neg hk1] at h0 h3
  split
  · rfl
  rename_i hk2
  rw [if_neg hk2] at h0
  split
  · rfl
  rename_i hk8
  rw [if_neg hk8] at h0
  split
  · rename_i hk
    rw [if_pos hk] at h0
    unfold syncP at h0 ⊢
    split
    · rfl
    · rename_i hd; rw [if_neg hd] at h0; exact absurd rfl h0
  rename_i hk3
  rw [if_neg hk3] at h0
  split
  · rename_i hk
    rw [if_pos hk] at h0
    unfold crashCP at h0 ⊢
    split
    · rfl
    · rename_i hd; rw [if_neg hd] at h0; exact absurd rfl h0
  rename_i hk4
  rw [if_neg hk4] at h0
  split
  · rename_i hk
    rw [if_pos hk] at h0
    unfold armP at h0 ⊢
    split
    · rfl
    · rename_i hd
      rw [if_neg hd] at h0
      split
      · rfl
      · rename_i ha; rw [if_neg ha] at h0; exact absurd rfl h0
  rename_i hk5
  rw [if_neg hk5] at h0
  split
  · rename_i hk
    rw [if_pos hk] at h0
    unfold disarmP at h0 ⊢
    split
    · rfl
    · rename_i hd; rw [if_neg hd] at h0; exact absurd rfl h0
  rename_i hk6
  rw [if_neg hk6] at h0
  split
  · rename_i hk
    rw [if_pos hk] at h0
    unfold reopenP at h0 ⊢
    split
    · rename_i hd; rw [if_pos hd] at h0; exact absurd rfl h0
    · rfl
  · rfl

/-- A write beyond the disk. -/
theorem step_beyond {o : OP} (hk : o.kind = 1) (hn : 0 < o.dat.bs.length / 512) (hm : o.dat.bs.length % 512 = 0) (hd : P.down = false) (hb : o.sct < 0 ∨ (P.sec : Int) ≤ o.sct ∨ (P.sec : Int) - o.sct < (o.dat.bs.length / 512 : Nat)) : (stepP P o).2 = 2 := by
  have e : spanC P.sec o.sct o.dat.bs.length = 2 := by
    unfold spanC
    rw [if_neg (by omega), if_pos (by omega)]
  unfold stepP
  rw [if_neg (by omega), if_pos hk]
  unfold writeP
  rw [hd, if_neg (by decide), if_pos (by rw [e]; decide)]
  exact e

/-! Two disks. -/
section
variable {D1 D2 : DK} {m1 m2 : Int} {K X : List HI}
theorem di_app : DI D m L = DI D m [] ++ L := by
  unfold DI DIq DX; simp
theorem di_comm : (DI D1 m1 (X ++ DI D2 m2 K)).Perm (DI D2 m2 (DI D1 m1 (X ++ K))) := by
  rw [di_app (D := D2) (L := K), di_app (D := D2) (L := DI D1 m1 (X ++ K))]
  exact (di_perm (List.perm_append_comm_assoc X _ K)).trans (di_pull _)
theorem dd_sw {a b : HI} (st : S0 w0 (a :: b :: DI D1 m1 (DI D2 m2 K)) w) : S0 w0 (a :: b :: DI D2 m2 (DI D1 m1 K)) w := st.perm (((di_comm (X := [])).cons _).cons _)
theorem dd_img {a b x : HI} (st : S0 w0 (x :: DI D1 m1 ([a, b] ++ DI D2 m2 K)) w) : S0 w0 (a :: b :: DI D1 m1 (DI D2 m2 (x :: K))) w :=
  st.perm ((((di_pull [a, b]).cons x).trans (List.perm_middle (l₁ := [a, b]) (a := x)).symm).trans ((((di_front.symm).trans (di_perm di_front.symm)).cons _).cons _))
theorem st_p2 {a b : HI} {l : List HI} (st : S0 w0 (a :: b :: l) w) : S0 w0 [a, b] w := st.sublist (((List.nil_sublist _).cons_cons _).cons_cons _)
theorem st_p3 {a b c : HI} {l : List HI} (st : S0 w0 (a :: b :: c :: l) w) : S0 w0 [a, b, c] w := st.sublist ((((List.nil_sublist _).cons_cons _).cons_cons _).cons_cons _)
theorem st_l2 {s a b : HI} {l1 K : List HI} (st : S0 w0 (DI D m (s :: (l1 ++ ([a, b] ++ K)))) w) : S0 w0 (s :: a :: b :: DI D m (l1 ++ K)) w :=
  st_outF [s, a, b] (st.perm (di_perm ((List.perm_append_comm_assoc l1 [a, b] K).cons s)))
theorem fin1 {a b c d : HI} {l1 : List HI} (st : S0 w0 (a :: b :: c :: d :: DI D1 m1 (l1 ++ DI D2 m2 [])) w) : S0 w0 (b :: d :: DI D1 m1 (DI D2 m2 [])) w :=
  st.drop.drop1.sublist (((di_sub (List.sublist_append_right _ _)).cons_cons _).cons_cons _)
theorem fin2 {a b c d : HI} {l1 l2 : List HI} (st : S0 w0 (a :: b :: c :: d :: DI D2 m2 (l2 ++ DI D1 m1 (l1 ++ []))) w) : S0 w0 (c :: a :: DI D1 m1 (DI D2 m2 [])) w :=
  dd_sw ((st.drop1.front1.drop2).sublist (((di_sub ((di_sub (List.nil_sublist _)).trans (List.sublist_append_right _ _))).cons_cons _).cons_cons _))
end
def rdB (d : Option (Nat × (Nat → Int))) : List Int := match d with
  | none => []
  | some (n, f) => bytesOf n f
theorem RV.sees {d : Option (Nat × (Nat → Int))} {v : Value} {l1 : List HI} (h : RV d v l1) (hr : ∀ n f, d = some (n, f) → n ≤ 1000000000000 ∧ ∀ j, 0 ≤ f j ∧ f j < 256) : Sees w0 l1 v (rdB d) := by
  cases d with
  | none =>
    obtain ⟨rfl, rfl⟩ := h
    exact Sees.nil
  | some x =>
    obtain ⟨bb, g, rfl, rfl, hg⟩ := h
    rw [row_eq (b := 0) hg]
    obtain ⟨h1, h2⟩ := hr x.1 x.2 rfl
    exact Sees.img h2 h1
theorem Rep.rdr {o : OP} (h : Rep D P) : ∀ n f, rdP P o = some (n, f) → n ≤ 1000000000000 ∧ ∀ j, 0 ≤ f j ∧ f j < 256 := fun n f hf => by
  have hb := bufC_le P.sec o.cnt
  have hs := h.s2
  unfold rdP at hf
  split at hf
  · cases hf; exact ⟨by omega, fun j => h.seenr _ _⟩
  · split at hf
    · cases hf; exact ⟨by omega, fun j => h.pcr _ _⟩
    · cases hf
theorem Rep.pend (h : Rep D P) : ((D.tl - D.hd : Nat) : Int) = (P.pend.length : Int) := by have := h.hd; omega

set_option maxHeartbeats 64000000 in
theorem refused_law (a : Option Addr) (sb so n c : Nat) (op : Nat → OP) {w : World} (hg : hG w) (hS : Scr w sb so n op) (hn63 : n ≤ 140737488355328) (ha : 0 < n → a = some ⟨sb, so, none⟩) :
    Calls Tryd.prog 7 #[.slice a n c] w (Ret fun v w' => v = .bool true ∧ S0 w [] w') := by
  have st0 := St.init w (fun _ => False)
  obtain ⟨w0, hw0⟩ : ∃ w0, w0 = w := ⟨w, rfl⟩
  have st : S0 w0 [] w := by rw [hw0]; exact st0
  clear st0
  have hg : hG w0 := by rw [hw0]; exact hg
  have hS : Scr w0 sb so n op := by rw [hw0]; exact hS
  have goal : Calls Tryd.prog 7 #[.slice a n c] w (Ret fun v w' => v = .bool true ∧ S0 w0 [] w') := by
    clear hw0
    refine enter [.slice a n c] Tryd.func7 rfl Tryd.ntmps7 rfl ?_
    show WC _ _ _ 184 [] [(0, .slice a n c)] _
    refine WC.seq fun K835 hK835 => ?_
    -- region 0
    refine WC.region ?_
    -- R0.0 2 := laws.go:241 assign
    refine WL.v (by first | exact r_assign (v := .bool _) rfl | exact r_assign rfl) rfl rfl rfl ?_
    refine WL.fin hK835 (fun _ _ h => h) ?_
    refine WC.seq fun K836 hK836 => ?_
    refine WC.seq fun K837 hK837 => ?_
    -- region 1
    refine WC.region ?_
    -- R1.0 15 := laws.go:242 move
    refine WL.v (by first | exact r_move (v := .slice _ _ _) rfl | exact r_move rfl) rfl rfl rfl ?_
    -- R1.1 16 := laws.go:242 call
    refine WL.call (r_call ty_call10 rfl) rfl rfl rfl (zzSmall1_ok a sb so n c op hS hn63 ha st) ?_
    rintro _ w ⟨t, rfl, hsm, st⟩
    -- R1.2 17 := laws.go:242 unOp
    refine WL.v (by first | exact r_notT rfl | exact r_notF rfl | exact r_not rfl) rfl rfl rfl ?_
    refine WL.fin hK837 (fun _ _ h => h) ?_
    rcases t with _ | _
    · skip
      refine WC.condT rfl rfl ?_
      refine WC.seq fun K838 hK838 => ?_
      -- region 2
      refine WC.region ?_
      -- R2.0 2 := laws.go:243 assign
      refine WL.v (by first | exact r_assign (v := .bool _) rfl | exact r_assign rfl) rfl rfl rfl ?_
      refine WL.fin hK838 (fun _ _ h => h) ?_
      refine WC.ret1 Tryd.results7 (fun _ _ h => h) rfl ?_
      exact ⟨_, rfl, rfl, st⟩
    have hsm := hsm rfl
    have hnn := hsm.1
    refine WC.condF rfl rfl ?_
    refine WC.skipF hK836 (fun _ _ h => h) ?_
    refine WC.seq fun K839 hK839 => ?_
    -- region 3
    refine WC.region ?_
    -- R3.0 18 := laws.go:246 call
    refine WL.call (r_call ty_call11 rfl) rfl rfl rfl (newStage_ok st) ?_
    rintro _ w ⟨D1, b1, rfl, hr1, st⟩
    -- R3.1 19 := laws.go:246 call
    refine WL.call (r_call ty_call11 rfl) rfl rfl rfl (newStage_ok st) ?_
    rintro _ w ⟨D2, b2, rfl, hr2, st⟩
    have st : S0 w0 (sI b1 D1.bD :: sI b2 D2.bD :: DI D1 0 (DI D2 0 [])) w := dd_sw (st.perm ((di_pull [_]).cons _)).front1
    -- R3.2 3 := laws.go:246 assign
    refine WL.v (by first | exact r_assign (v := .pointer _) rfl | exact r_assign rfl) rfl rfl rfl ?_
    -- R3.3 4 := laws.go:246 assign
    refine WL.v (by first | exact r_assign (v := .pointer _) rfl | exact r_assign rfl) rfl rfl rfl ?_
    refine WL.fin hK839 (fun _ _ h => h) ?_
    refine WC.seq fun K840 hK840 => ?_
    refine WC.seq fun K841 hK841 => ?_
    -- region 4
    refine WC.region ?_
    -- R4.0 20 := laws.go:247 move
    refine WL.v (by first | exact r_move (v := .slice _ _ _) rfl | exact r_move rfl) rfl rfl rfl ?_
    -- R4.1 21 := laws.go:247 call
    refine WL.v (by exact r_len ty_usl22 rfl) rfl rfl rfl ?_
    -- R4.2 22 := laws.go:247 move
    refine WL.v (by first | exact r_move (v := .int _ _) rfl | exact r_move rfl) rfl rfl rfl ?_
    refine WL.fin hK841 (fun _ _ h => h) ?_
    refine WC.block ?_
    refine WC.loop (ι := DK × DK × PD × Nat) (fun z => [(3, .pointer (some ⟨b1, 0, none⟩)), (4, .pointer (some ⟨b2, 0, none⟩)), (20, .slice a n c), (21, .int .i64 (n : Nat)), (22, .int .i64 (z.2.2.2 : Nat))])
      (fun z w' => Rep z.1 z.2.2.1 ∧ Rep z.2.1 z.2.2.1 ∧ z.2.2.2 ≤ n ∧ z.2.2.1.wr ≤ 128 * z.2.2.2 ∧ S0 w0 (sI b1 z.1.bD :: sI b2 z.2.1.bD :: DI z.1 0 (DI z.2.1 0 [])) w') (fun z => n - z.2.2.2) (D1, D2, newP 4096 8192, 0)
      ⟨hr1, hr2, Nat.zero_le _, Nat.le_refl _, st⟩ ?_ ?_
    · skip
      repeat (first | exact sub_nil _ | refine sub_cons rfl rfl ?_)
    rintro ⟨D1, D2, P, i⟩ w ⟨h1, h2, hi, hwr, st⟩ K1 hK1
    dsimp only at h1 h2 hi hwr st ⊢
    by_cases hlt : ¬ i < n
    · have hsl : P.sec * 512 ≤ 1000000000000 := by have := h1.s2; omega
      rcases hdn : P.down with _ | _
      · skip
        refine WC.seq fun K842 hK842 => ?_
        -- region 5
        refine WC.region ?_
        -- R5.0 23 := laws.go:247 binOp
        refine WL.v (by first | exact r_lss rfl rfl (decide_eq_true (by omega)) | exact r_lss rfl rfl (decide_eq_false (by omega)) | exact r_lss rfl rfl rfl) rfl rfl rfl ?_
        refine WL.fin hK842 (fun _ _ h => h) ?_
        refine WC.seq fun K843 hK843 => ?_
        refine WC.condF rfl rfl ?_
        refine WC.exitF hK840 (fun _ _ h => h) ?_
        refine WC.seq fun K844 hK844 => ?_
        -- region 17
        refine WC.region ?_
        -- R17.0 108 := laws.go:263 move
        refine WL.v (by first | exact r_move (v := .pointer _) rfl | exact r_move rfl) rfl rfl rfl ?_
        -- R17.1 109 := laws.go:263 nilCheck
        refine WL.v (by exact r_nilCheck rfl) rfl rfl rfl ?_
        -- R17.2 110 := laws.go:263 fieldAddr
        refine WL.v (by exact r_field ty_fld42_0 rfl) rfl rfl rfl ?_
        -- R17.3 111 := laws.go:263 load
        refine WL.v (by exact r_load1 ty_one40 rfl (by first | assumption | exact st.c0 (by first | decide | omega) | exact st.c1 (by first | decide | omega) | exact st.c2 (by first | decide | omega) | exact st.c3 (by first | decide | omega) | exact st.c4 (by first | decide | omega) | exact st.c5 (by first | decide | omega) | exact st.c6 (by first | decide | omega) | exact st.c7 (by first | decide | omega) | exact st.c8 (by first | decide | omega))) rfl rfl rfl ?_
        -- R17.4 112 := laws.go:263 call
        refine WL.call (r_call ty_call16 rfl) rfl rfl rfl (fuse_ok (st_inF [_, _] st)) ?_
        rintro _ w ⟨rfl, st⟩
        have st := st_outF [_, _] st
        rw [h1.fuse, h1.armed]
        -- R17.5 107 := laws.go:263 move
        refine WL.v (by first | exact r_move (v := .tuple _) rfl | exact r_move rfl) rfl rfl rfl ?_
        -- R17.6 113 := laws.go:263 extract
        refine WL.v (by first | exact r_extract (v := .int _ _) rfl rfl | exact r_extract rfl rfl) rfl rfl rfl ?_
        -- R17.7 114 := laws.go:263 extract
        refine WL.v (by first | exact r_extract (v := .bool _) rfl rfl | exact r_extract rfl rfl) rfl rfl rfl ?_
        -- R17.8 11 := laws.go:263 assign
        refine WL.v (by first | exact r_assign (v := .int _ _) rfl | exact r_assign rfl) rfl rfl rfl ?_
        -- R17.9 12 := laws.go:263 assign
        refine WL.v (by first | exact r_assign (v := .bool _) rfl | exact r_assign rfl) rfl rfl rfl ?_
        refine WL.fin hK844 (fun _ _ h => h) ?_
        refine WC.seq fun K845 hK845 => ?_
        -- region 18
        refine WC.region ?_
        -- R18.0 116 := laws.go:264 move
        refine WL.v (by first | exact r_move (v := .pointer _) rfl | exact r_move rfl) rfl rfl rfl ?_
        -- R18.1 117 := laws.go:264 nilCheck
        refine WL.v (by exact r_nilCheck rfl) rfl rfl rfl ?_
        -- R18.2 118 := laws.go:264 fieldAddr
        refine WL.v (by exact r_field ty_fld42_0 rfl) rfl rfl rfl ?_
        -- R18.3 119 := laws.go:264 load
        refine WL.v (by exact r_load1 ty_one40 rfl (by first | assumption | exact st.c0 (by first | decide | omega) | exact st.c1 (by first | decide | omega) | exact st.c2 (by first | decide | omega) | exact st.c3 (by first | decide | omega) | exact st.c4 (by first | decide | omega) | exact st.c5 (by first | decide | omega) | exact st.c6 (by first | decide | omega) | exact st.c7 (by first | decide | omega) | exact st.c8 (by first | decide | omega))) rfl rfl rfl ?_
        -- R18.4 120 := laws.go:264 call
        refine WL.call (r_call ty_call16 rfl) rfl rfl rfl (fuse_ok (st_inF [_, _] (dd_sw st))) ?_
        rintro _ w ⟨rfl, st⟩
        have st := dd_sw (st_outF [_, _] st)
        rw [h2.fuse, h2.armed]
        -- R18.5 115 := laws.go:264 move
        refine WL.v (by first | exact r_move (v := .tuple _) rfl | exact r_move rfl) rfl rfl rfl ?_
        -- R18.6 121 := laws.go:264 extract
        refine WL.v (by first | exact r_extract (v := .int _ _) rfl rfl | exact r_extract rfl rfl) rfl rfl rfl ?_
        -- R18.7 122 := laws.go:264 extract
        refine WL.v (by first | exact r_extract (v := .bool _) rfl rfl | exact r_extract rfl rfl) rfl rfl rfl ?_
        -- R18.8 13 := laws.go:264 assign
        refine WL.v (by first | exact r_assign (v := .int _ _) rfl | exact r_assign rfl) rfl rfl rfl ?_
        -- R18.9 14 := laws.go:264 assign
        refine WL.v (by first | exact r_assign (v := .bool _) rfl | exact r_assign rfl) rfl rfl rfl ?_
        refine WL.fin hK845 (fun _ _ h => h) ?_
        refine WC.seq fun K846 hK846 => ?_
        -- region 19 (draws)
        refine WC.mixS [(0, true), (1, true), (2, true), (3, true), (5, true), (6, true), (7, true), (8, true), (4, false), (9, false), (10, true), (11, true), (12, true), (13, true), (14, true), (15, true), (17, true), (18, true), (19, true), (20, true), (16, false), (21, false), (22, true), (23, true), (24, true), (25, true), (26, true), (27, true), (28, true), (30, true), (31, true), (32, true), (33, true), (29, false), (34, false), (35, true), (36, true), (37, true), (38, true), (39, true), (40, true), (41, true), (42, true), (43, true), (44, true), (45, true), (46, true), (47, true), (48, true), (50, true), (49, false), (51, false), (52, false), (53, true), (54, true), (55, true), (57, true), (56, false), (58, false), (59, false), (60, true), (61, false)] st (st_p2 st) ty_mixed (by kernel_rfl) fun w st => ?_
        -- R19.0 123 := laws.go:265 move
        refine ML.v (fun w st => by first | exact r_move (v := .pointer _) rfl | exact r_move rfl) rfl rfl rfl ?_
        -- R19.1 124 := laws.go:265 nilCheck
        refine ML.v (fun w st => by exact r_nilCheck rfl) rfl rfl rfl ?_
        -- R19.2 125 := laws.go:265 fieldAddr
        refine ML.v (fun w st => by exact r_field ty_fld42_0 rfl) rfl rfl rfl ?_
        -- R19.3 126 := laws.go:265 load
        refine ML.v (fun w st => by exact r_load1 ty_one40 rfl (by first | assumption | exact st.c0 (by first | decide | omega) | exact st.c1 (by first | decide | omega) | exact st.c2 (by first | decide | omega) | exact st.c3 (by first | decide | omega) | exact st.c4 (by first | decide | omega) | exact st.c5 (by first | decide | omega) | exact st.c6 (by first | decide | omega) | exact st.c7 (by first | decide | omega) | exact st.c8 (by first | decide | omega))) rfl rfl rfl ?_
        -- R19.5 128 := laws.go:265 move
        refine ML.v (fun w st => by first | exact r_move (v := .pointer _) rfl | exact r_move rfl) rfl rfl rfl ?_
        -- R19.6 129 := laws.go:265 nilCheck
        refine ML.v (fun w st => by exact r_nilCheck rfl) rfl rfl rfl ?_
        -- R19.7 130 := laws.go:265 fieldAddr
        refine ML.v (fun w st => by exact r_field ty_fld42_0 rfl) rfl rfl rfl ?_
        -- R19.8 131 := laws.go:265 load
        refine ML.v (fun w st => by exact r_load1 ty_one40 rfl (by first | assumption | exact st.c0 (by first | decide | omega) | exact st.c1 (by first | decide | omega) | exact st.c2 (by first | decide | omega) | exact st.c3 (by first | decide | omega) | exact st.c4 (by first | decide | omega) | exact st.c5 (by first | decide | omega) | exact st.c6 (by first | decide | omega) | exact st.c7 (by first | decide | omega) | exact st.c8 (by first | decide | omega))) rfl rfl rfl ?_
        refine ML.at ?_
        -- R19.4 127 := laws.go:265 call
        refine WL.call (r_call ty_call19 rfl) rfl rfl rfl (sectors_ok (st_inF [_, _] st)) ?_
        rintro _ w ⟨rfl, st⟩
        have st := st_outF [_, _] st
        rw [h1.sec]
        refine ML.nxt (st_p2 st) ?_
        refine ML.at ?_
        -- R19.9 132 := laws.go:265 call
        refine WL.call (r_call ty_call19 rfl) rfl rfl rfl (sectors_ok (st_inF [_, _] (dd_sw st))) ?_
        rintro _ w ⟨rfl, st⟩
        have st := dd_sw (st_outF [_, _] st)
        rw [h2.sec]
        refine ML.nxt (st_p2 st) ?_
        -- R19.10 133 := laws.go:265 binOp
        refine ML.v (fun w st => by first | exact r_eql rfl rfl (decide_eq_true (by omega)) | exact r_eql rfl rfl (decide_eq_false (by omega)) | exact r_eql rfl rfl rfl) rfl rfl rfl ?_
        -- R19.11 134 := laws.go:265 move
        refine ML.v (fun w st => by first | exact r_move (v := .bool _) rfl | exact r_move rfl) rfl rfl rfl ?_
        -- R19.12 135 := laws.go:265 move
        refine ML.v (fun w st => by first | exact r_move (v := .pointer _) rfl | exact r_move rfl) rfl rfl rfl ?_
        -- R19.13 136 := laws.go:265 nilCheck
        refine ML.v (fun w st => by exact r_nilCheck rfl) rfl rfl rfl ?_
        -- R19.14 137 := laws.go:265 fieldAddr
        refine ML.v (fun w st => by exact r_field ty_fld42_0 rfl) rfl rfl rfl ?_
        -- R19.15 138 := laws.go:265 load
        refine ML.v (fun w st => by exact r_load1 ty_one40 rfl (by first | assumption | exact st.c0 (by first | decide | omega) | exact st.c1 (by first | decide | omega) | exact st.c2 (by first | decide | omega) | exact st.c3 (by first | decide | omega) | exact st.c4 (by first | decide | omega) | exact st.c5 (by first | decide | omega) | exact st.c6 (by first | decide | omega) | exact st.c7 (by first | decide | omega) | exact st.c8 (by first | decide | omega))) rfl rfl rfl ?_
        -- R19.17 140 := laws.go:265 move
        refine ML.v (fun w st => by first | exact r_move (v := .pointer _) rfl | exact r_move rfl) rfl rfl rfl ?_
        -- R19.18 141 := laws.go:265 nilCheck
        refine ML.v (fun w st => by exact r_nilCheck rfl) rfl rfl rfl ?_
        -- R19.19 142 := laws.go:265 fieldAddr
        refine ML.v (fun w st => by exact r_field ty_fld42_0 rfl) rfl rfl rfl ?_
        -- R19.20 143 := laws.go:265 load
        refine ML.v (fun w st => by exact r_load1 ty_one40 rfl (by first | assumption | exact st.c0 (by first | decide | omega) | exact st.c1 (by first | decide | omega) | exact st.c2 (by first | decide | omega) | exact st.c3 (by first | decide | omega) | exact st.c4 (by first | decide | omega) | exact st.c5 (by first | decide | omega) | exact st.c6 (by first | decide | omega) | exact st.c7 (by first | decide | omega) | exact st.c8 (by first | decide | omega))) rfl rfl rfl ?_
        refine ML.at ?_
        -- R19.16 139 := laws.go:265 call
        refine WL.call (r_call ty_call17 rfl) rfl rfl rfl (isDown_ok (st_inF [_, _] st)) ?_
        rintro _ w ⟨rfl, st⟩
        have st := st_outF [_, _] st
        rw [h1.down]
        refine ML.nxt (st_p2 st) ?_
        refine ML.at ?_
        -- R19.21 144 := laws.go:265 call
        refine WL.call (r_call ty_call17 rfl) rfl rfl rfl (isDown_ok (st_inF [_, _] (dd_sw st))) ?_
        rintro _ w ⟨rfl, st⟩
        have st := dd_sw (st_outF [_, _] st)
        rw [h2.down]
        refine ML.nxt (st_p2 st) ?_
        -- R19.22 145 := laws.go:265 binOp
        refine ML.v (fun w st => by exact r_beql (t := true) ty_bool4 rfl rfl (by simp)) rfl rfl rfl ?_
        -- R19.23 146 := laws.go:265 pick
        refine ML.v (fun w st => by first | exact r_pickT (v := .bool _) rfl rfl | exact r_pickF (v := .bool _) rfl rfl) rfl rfl rfl ?_
        -- R19.24 147 := laws.go:265 move
        refine ML.v (fun w st => by first | exact r_move (v := .bool _) rfl | exact r_move rfl) rfl rfl rfl ?_
        -- R19.25 148 := laws.go:265 move
        refine ML.v (fun w st => by first | exact r_move (v := .pointer _) rfl | exact r_move rfl) rfl rfl rfl ?_
        -- R19.26 149 := laws.go:265 nilCheck
        refine ML.v (fun w st => by exact r_nilCheck rfl) rfl rfl rfl ?_
        -- R19.27 150 := laws.go:265 fieldAddr
        refine ML.v (fun w st => by exact r_field ty_fld42_0 rfl) rfl rfl rfl ?_
        -- R19.28 151 := laws.go:265 load
        refine ML.v (fun w st => by exact r_load1 ty_one40 rfl (by first | assumption | exact st.c0 (by first | decide | omega) | exact st.c1 (by first | decide | omega) | exact st.c2 (by first | decide | omega) | exact st.c3 (by first | decide | omega) | exact st.c4 (by first | decide | omega) | exact st.c5 (by first | decide | omega) | exact st.c6 (by first | decide | omega) | exact st.c7 (by first | decide | omega) | exact st.c8 (by first | decide | omega))) rfl rfl rfl ?_
        -- R19.30 153 := laws.go:265 move
        refine ML.v (fun w st => by first | exact r_move (v := .pointer _) rfl | exact r_move rfl) rfl rfl rfl ?_
        -- R19.31 154 := laws.go:265 nilCheck
        refine ML.v (fun w st => by exact r_nilCheck rfl) rfl rfl rfl ?_
        -- R19.32 155 := laws.go:265 fieldAddr
        refine ML.v (fun w st => by exact r_field ty_fld42_0 rfl) rfl rfl rfl ?_
        -- R19.33 156 := laws.go:265 load
        refine ML.v (fun w st => by exact r_load1 ty_one40 rfl (by first | assumption | exact st.c0 (by first | decide | omega) | exact st.c1 (by first | decide | omega) | exact st.c2 (by first | decide | omega) | exact st.c3 (by first | decide | omega) | exact st.c4 (by first | decide | omega) | exact st.c5 (by first | decide | omega) | exact st.c6 (by first | decide | omega) | exact st.c7 (by first | decide | omega) | exact st.c8 (by first | decide | omega))) rfl rfl rfl ?_
        refine ML.at ?_
        -- R19.29 152 := laws.go:266 call
        refine WL.call (r_call ty_call18 rfl) rfl rfl rfl (pending_ok (by have := h1.hd; omega) (by have := h1.tl; have := h1.wr; omega) (st_inF [_, _] st)) ?_
        rintro _ w ⟨rfl, st⟩
        have st := st_outF [_, _] st
        rw [h1.pend]
        refine ML.nxt (st_p2 st) ?_
        refine ML.at ?_
        -- R19.34 157 := laws.go:266 call
        refine WL.call (r_call ty_call18 rfl) rfl rfl rfl (pending_ok (by have := h2.hd; omega) (by have := h2.tl; have := h2.wr; omega) (st_inF [_, _] (dd_sw st))) ?_
        rintro _ w ⟨rfl, st⟩
        have st := dd_sw (st_outF [_, _] st)
        rw [h2.pend]
        refine ML.nxt (st_p2 st) ?_
        -- R19.35 158 := laws.go:265 binOp
        refine ML.v (fun w st => by first | exact r_eql rfl rfl (decide_eq_true (by omega)) | exact r_eql rfl rfl (decide_eq_false (by omega)) | exact r_eql rfl rfl rfl) rfl rfl rfl ?_
        -- R19.36 159 := laws.go:265 pick
        refine ML.v (fun w st => by first | exact r_pickT (v := .bool _) rfl rfl | exact r_pickF (v := .bool _) rfl rfl) rfl rfl rfl ?_
        -- R19.37 160 := laws.go:265 move
        refine ML.v (fun w st => by first | exact r_move (v := .bool _) rfl | exact r_move rfl) rfl rfl rfl ?_
        -- R19.38 161 := laws.go:265 move
        refine ML.v (fun w st => by first | exact r_move (v := .int _ _) rfl | exact r_move rfl) rfl rfl rfl ?_
        -- R19.39 162 := laws.go:265 move
        refine ML.v (fun w st => by first | exact r_move (v := .int _ _) rfl | exact r_move rfl) rfl rfl rfl ?_
        -- R19.40 163 := laws.go:265 binOp
        refine ML.v (fun w st => by first | exact r_eql rfl rfl (decide_eq_true (by omega)) | exact r_eql rfl rfl (decide_eq_false (by omega)) | exact r_eql rfl rfl rfl) rfl rfl rfl ?_
        -- R19.41 164 := laws.go:265 pick
        refine ML.v (fun w st => by first | exact r_pickT (v := .bool _) rfl rfl | exact r_pickF (v := .bool _) rfl rfl) rfl rfl rfl ?_
        -- R19.42 165 := laws.go:265 move
        refine ML.v (fun w st => by first | exact r_move (v := .bool _) rfl | exact r_move rfl) rfl rfl rfl ?_
        -- R19.43 166 := laws.go:265 move
        refine ML.v (fun w st => by first | exact r_move (v := .bool _) rfl | exact r_move rfl) rfl rfl rfl ?_
        -- R19.44 167 := laws.go:265 move
        refine ML.v (fun w st => by first | exact r_move (v := .bool _) rfl | exact r_move rfl) rfl rfl rfl ?_
        -- R19.45 168 := laws.go:265 binOp
        refine ML.v (fun w st => by exact r_beql (t := true) ty_bool4 rfl rfl (by simp)) rfl rfl rfl ?_
        -- R19.46 169 := laws.go:265 pick
        refine ML.v (fun w st => by first | exact r_pickT (v := .bool _) rfl rfl | exact r_pickF (v := .bool _) rfl rfl) rfl rfl rfl ?_
        -- R19.47 170 := laws.go:265 move
        refine ML.v (fun w st => by first | exact r_move (v := .bool _) rfl | exact r_move rfl) rfl rfl rfl ?_
        -- R19.48 171 := laws.go:265 move
        refine ML.v (fun w st => by first | exact r_move (v := .pointer _) rfl | exact r_move rfl) rfl rfl rfl ?_
        -- R19.50 173 := laws.go:265 move
        refine ML.v (fun w st => by first | exact r_move (v := .pointer _) rfl | exact r_move rfl) rfl rfl rfl ?_
        refine ML.at ?_
        -- R19.49 172 := laws.go:267 call
        refine WL.call (r_call ty_call20 rfl) rfl rfl rfl (platter_ok (bs := b1) h1 (by simp) (st_inF [_, _] st)) ?_
        rintro _ w ⟨c1, rfl, st⟩
        have st := dd_img st
        refine ML.nxt (st_p2 st) ?_
        refine ML.at ?_
        -- R19.51 174 := laws.go:267 call
        refine WL.call (r_call ty_call20 rfl) rfl rfl rfl (platter_ok (bs := b2) h2 (by simp) (st_inF [_, _] (dd_sw st))) ?_
        rintro _ w ⟨c2, rfl, st⟩
        have st := dd_sw (dd_img st)
        refine ML.nxt (st_p2 st) ?_
        refine ML.at ?_
        -- R19.52 175 := laws.go:267 call
        refine WL.call (r_call ty_call22 rfl) rfl rfl rfl (equal_ok (Sees.img (img_range h1.pcr) hsl) (Sees.img (img_range h1.pcr) hsl) (l := sI b1 D1.bD :: sI b2 D2.bD :: DI D1 0 (DI D2 0 [iI c2 (P.sec * 512) (img P.pc), iI c1 (P.sec * 512) (img P.pc)])) (by intro x hx; simp only [List.mem_singleton] at hx; subst hx; simp) (by intro x hx; simp only [List.mem_singleton] at hx; subst hx; simp) st) ?_
        rintro _ w ⟨r, rfl, hr, st⟩
        obtain rfl := hr rfl
        refine ML.nxt (st_p2 st) ?_
        -- R19.53 176 := laws.go:265 pick
        refine ML.v (fun w st => by first | exact r_pickT (v := .bool _) rfl rfl | exact r_pickF (v := .bool _) rfl rfl) rfl rfl rfl ?_
        -- R19.54 177 := laws.go:265 move
        refine ML.v (fun w st => by first | exact r_move (v := .bool _) rfl | exact r_move rfl) rfl rfl rfl ?_
        -- R19.55 178 := laws.go:265 move
        refine ML.v (fun w st => by first | exact r_move (v := .pointer _) rfl | exact r_move rfl) rfl rfl rfl ?_
        -- R19.57 180 := laws.go:265 move
        refine ML.v (fun w st => by first | exact r_move (v := .pointer _) rfl | exact r_move rfl) rfl rfl rfl ?_
        refine ML.at ?_
        -- R19.56 179 := laws.go:267 call
        refine WL.call (r_call ty_call21 rfl) rfl rfl rfl (seen_ok (bs := b1) h1 (by simp) (st_inF [_, _] st)) ?_
        rintro _ w ⟨D3, eD3, h3, hv⟩
        obtain ⟨_, c3, rfl, st⟩ := hv.resolve_left (fun h => by rw [hdn] at h; cases h.1)
        have st := dd_img st
        refine ML.nxt (st_p2 st) ?_
        refine ML.at ?_
        -- R19.58 181 := laws.go:267 call
        refine WL.call (r_call ty_call21 rfl) rfl rfl rfl (seen_ok (bs := b2) h2 (by simp) (st_inF [_, _] (dd_sw st))) ?_
        rintro _ w ⟨D4, eD4, h4, hv⟩
        obtain ⟨_, c4, rfl, st⟩ := hv.resolve_left (fun h => by rw [hdn] at h; cases h.1)
        have st := dd_sw (dd_img st)
        refine ML.nxt (st_p2 st) ?_
        refine ML.at ?_
        -- R19.59 182 := laws.go:267 call
        refine WL.call (r_call ty_call22 rfl) rfl rfl rfl (equal_ok (Sees.img (bb := c3) (img_range h1.seenr) hsl) (Sees.img (bb := c4) (img_range h1.seenr) hsl) (l := sI b1 D1.bD :: sI b2 D2.bD :: DI D3 0 (DI D4 0 [iI c4 (P.sec * 512) (img (seenP P)), iI c3 (P.sec * 512) (img (seenP P)), iI c2 (P.sec * 512) (img P.pc), iI c1 (P.sec * 512) (img P.pc)])) (by intro x hx; simp only [List.mem_singleton] at hx; subst hx; simp) (by intro x hx; simp only [List.mem_singleton] at hx; subst hx; simp) st) ?_
        rintro _ w ⟨r, rfl, hr, st⟩
        obtain rfl := hr rfl
        refine ML.nxt (st_p2 st) ?_
        -- R19.60 183 := laws.go:265 pick
        refine ML.v (fun w st => by first | exact r_pickT (v := .bool _) rfl rfl | exact r_pickF (v := .bool _) rfl rfl) rfl rfl rfl ?_
        refine ML.at ?_
        -- R19.61 2 := laws.go:265 assign
        refine WL.v (by first | exact r_assign (v := .bool _) rfl | exact r_assign rfl) rfl rfl rfl ?_
        refine ML.nxt (st_p2 st) ?_
        refine ML.wl ?_
        refine WL.fin hK846 (fun _ _ h => h) ?_
        refine WC.ret1 Tryd.results7 (fun _ _ h => h) rfl ?_
        exact ⟨_, rfl, rfl, st_none st⟩
      · skip
        refine WC.seq fun K847 hK847 => ?_
        -- region 5
        refine WC.region ?_
        -- R5.0 23 := laws.go:247 binOp
        refine WL.v (by first | exact r_lss rfl rfl (decide_eq_true (by omega)) | exact r_lss rfl rfl (decide_eq_false (by omega)) | exact r_lss rfl rfl rfl) rfl rfl rfl ?_
        refine WL.fin hK847 (fun _ _ h => h) ?_
        refine WC.seq fun K848 hK848 => ?_
        refine WC.condF rfl rfl ?_
        refine WC.exitF hK840 (fun _ _ h => h) ?_
        refine WC.seq fun K849 hK849 => ?_
        -- region 17
        refine WC.region ?_
        -- R17.0 108 := laws.go:263 move
        refine WL.v (by first | exact r_move (v := .pointer _) rfl | exact r_move rfl) rfl rfl rfl ?_
        -- R17.1 109 := laws.go:263 nilCheck
        refine WL.v (by exact r_nilCheck rfl) rfl rfl rfl ?_
        -- R17.2 110 := laws.go:263 fieldAddr
        refine WL.v (by exact r_field ty_fld42_0 rfl) rfl rfl rfl ?_
        -- R17.3 111 := laws.go:263 load
        refine WL.v (by exact r_load1 ty_one40 rfl (by first | assumption | exact st.c0 (by first | decide | omega) | exact st.c1 (by first | decide | omega) | exact st.c2 (by first | decide | omega) | exact st.c3 (by first | decide | omega) | exact st.c4 (by first | decide | omega) | exact st.c5 (by first | decide | omega) | exact st.c6 (by first | decide | omega) | exact st.c7 (by first | decide | omega) | exact st.c8 (by first | decide | omega))) rfl rfl rfl ?_
        -- R17.4 112 := laws.go:263 call
        refine WL.call (r_call ty_call16 rfl) rfl rfl rfl (fuse_ok (st_inF [_, _] st)) ?_
        rintro _ w ⟨rfl, st⟩
        have st := st_outF [_, _] st
        rw [h1.fuse, h1.armed]
        -- R17.5 107 := laws.go:263 move
        refine WL.v (by first | exact r_move (v := .tuple _) rfl | exact r_move rfl) rfl rfl rfl ?_
        -- R17.6 113 := laws.go:263 extract
        refine WL.v (by first | exact r_extract (v := .int _ _) rfl rfl | exact r_extract rfl rfl) rfl rfl rfl ?_
        -- R17.7 114 := laws.go:263 extract
        refine WL.v (by first | exact r_extract (v := .bool _) rfl rfl | exact r_extract rfl rfl) rfl rfl rfl ?_
        -- R17.8 11 := laws.go:263 assign
        refine WL.v (by first | exact r_assign (v := .int _ _) rfl | exact r_assign rfl) rfl rfl rfl ?_
        -- R17.9 12 := laws.go:263 assign
        refine WL.v (by first | exact r_assign (v := .bool _) rfl | exact r_assign rfl) rfl rfl rfl ?_
        refine WL.fin hK849 (fun _ _ h => h) ?_
        refine WC.seq fun K850 hK850 => ?_
        -- region 18
        refine WC.region ?_
        -- R18.0 116 := laws.go:264 move
        refine WL.v (by first | exact r_move (v := .pointer _) rfl | exact r_move rfl) rfl rfl rfl ?_
        -- R18.1 117 := laws.go:264 nilCheck
        refine WL.v (by exact r_nilCheck rfl) rfl rfl rfl ?_
        -- R18.2 118 := laws.go:264 fieldAddr
        refine WL.v (by exact r_field ty_fld42_0 rfl) rfl rfl rfl ?_
        -- R18.3 119 := laws.go:264 load
        refine WL.v (by exact r_load1 ty_one40 rfl (by first | assumption | exact st.c0 (by first | decide | omega) | exact st.c1 (by first | decide | omega) | exact st.c2 (by first | decide | omega) | exact st.c3 (by first | decide | omega) | exact st.c4 (by first | decide | omega) | exact st.c5 (by first | decide | omega) | exact st.c6 (by first | decide | omega) | exact st.c7 (by first | decide | omega) | exact st.c8 (by first | decide | omega))) rfl rfl rfl ?_
        -- R18.4 120 := laws.go:264 call
        refine WL.call (r_call ty_call16 rfl) rfl rfl rfl (fuse_ok (st_inF [_, _] (dd_sw st))) ?_
        rintro _ w ⟨rfl, st⟩
        have st := dd_sw (st_outF [_, _] st)
        rw [h2.fuse, h2.armed]
        -- R18.5 115 := laws.go:264 move
        refine WL.v (by first | exact r_move (v := .tuple _) rfl | exact r_move rfl) rfl rfl rfl ?_
        -- R18.6 121 := laws.go:264 extract
        refine WL.v (by first | exact r_extract (v := .int _ _) rfl rfl | exact r_extract rfl rfl) rfl rfl rfl ?_
        -- R18.7 122 := laws.go:264 extract
        refine WL.v (by first | exact r_extract (v := .bool _) rfl rfl | exact r_extract rfl rfl) rfl rfl rfl ?_
        -- R18.8 13 := laws.go:264 assign
        refine WL.v (by first | exact r_assign (v := .int _ _) rfl | exact r_assign rfl) rfl rfl rfl ?_
        -- R18.9 14 := laws.go:264 assign
        refine WL.v (by first | exact r_assign (v := .bool _) rfl | exact r_assign rfl) rfl rfl rfl ?_
        refine WL.fin hK850 (fun _ _ h => h) ?_
        refine WC.seq fun K851 hK851 => ?_
        -- region 19 (draws)
        refine WC.mixS [(0, true), (1, true), (2, true), (3, true), (5, true), (6, true), (7, true), (8, true), (4, false), (9, false), (10, true), (11, true), (12, true), (13, true), (14, true), (15, true), (17, true), (18, true), (19, true), (20, true), (16, false), (21, false), (22, true), (23, true), (24, true), (25, true), (26, true), (27, true), (28, true), (30, true), (31, true), (32, true), (33, true), (29, false), (34, false), (35, true), (36, true), (37, true), (38, true), (39, true), (40, true), (41, true), (42, true), (43, true), (44, true), (45, true), (46, true), (47, true), (48, true), (50, true), (49, false), (51, false), (52, false), (53, true), (54, true), (55, true), (57, true), (56, false), (58, false), (59, false), (60, true), (61, false)] st (st_p2 st) ty_mixed (by kernel_rfl) fun w st => ?_
        -- R19.0 123 := laws.go:265 move
        refine ML.v (fun w st => by first | exact r_move (v := .pointer _) rfl | exact r_move rfl) rfl rfl rfl ?_
        -- R19.1 124 := laws.go:265 nilCheck
        refine ML.v (fun w st => by exact r_nilCheck rfl) rfl rfl rfl ?_
        -- R19.2 125 := laws.go:265 fieldAddr
        refine ML.v (fun w st => by exact r_field ty_fld42_0 rfl) rfl rfl rfl ?_
        -- R19.3 126 := laws.go:265 load
        refine ML.v (fun w st => by exact r_load1 ty_one40 rfl (by first | assumption | exact st.c0 (by first | decide | omega) | exact st.c1 (by first | decide | omega) | exact st.c2 (by first | decide | omega) | exact st.c3 (by first | decide | omega) | exact st.c4 (by first | decide | omega) | exact st.c5 (by first | decide | omega) | exact st.c6 (by first | decide | omega) | exact st.c7 (by first | decide | omega) | exact st.c8 (by first | decide | omega))) rfl rfl rfl ?_
        -- R19.5 128 := laws.go:265 move
        refine ML.v (fun w st => by first | exact r_move (v := .pointer _) rfl | exact r_move rfl) rfl rfl rfl ?_
        -- R19.6 129 := laws.go:265 nilCheck
        refine ML.v (fun w st => by exact r_nilCheck rfl) rfl rfl rfl ?_
        -- R19.7 130 := laws.go:265 fieldAddr
        refine ML.v (fun w st => by exact r_field ty_fld42_0 rfl) rfl rfl rfl ?_
        -- R19.8 131 := laws.go:265 load
        refine ML.v (fun w st => by exact r_load1 ty_one40 rfl (by first | assumption | exact st.c0 (by first | decide | omega) | exact st.c1 (by first | decide | omega) | exact st.c2 (by first | decide | omega) | exact st.c3 (by first | decide | omega) | exact st.c4 (by first | decide | omega) | exact st.c5 (by first | decide | omega) | exact st.c6 (by first | decide | omega) | exact st.c7 (by first | decide | omega) | exact st.c8 (by first | decide | omega))) rfl rfl rfl ?_
        refine ML.at ?_
        -- R19.4 127 := laws.go:265 call
        refine WL.call (r_call ty_call19 rfl) rfl rfl rfl (sectors_ok (st_inF [_, _] st)) ?_
        rintro _ w ⟨rfl, st⟩
        have st := st_outF [_, _] st
        rw [h1.sec]
        refine ML.nxt (st_p2 st) ?_
        refine ML.at ?_
        -- R19.9 132 := laws.go:265 call
        refine WL.call (r_call ty_call19 rfl) rfl rfl rfl (sectors_ok (st_inF [_, _] (dd_sw st))) ?_
        rintro _ w ⟨rfl, st⟩
        have st := dd_sw (st_outF [_, _] st)
        rw [h2.sec]
        refine ML.nxt (st_p2 st) ?_
        -- R19.10 133 := laws.go:265 binOp
        refine ML.v (fun w st => by first | exact r_eql rfl rfl (decide_eq_true (by omega)) | exact r_eql rfl rfl (decide_eq_false (by omega)) | exact r_eql rfl rfl rfl) rfl rfl rfl ?_
        -- R19.11 134 := laws.go:265 move
        refine ML.v (fun w st => by first | exact r_move (v := .bool _) rfl | exact r_move rfl) rfl rfl rfl ?_
        -- R19.12 135 := laws.go:265 move
        refine ML.v (fun w st => by first | exact r_move (v := .pointer _) rfl | exact r_move rfl) rfl rfl rfl ?_
        -- R19.13 136 := laws.go:265 nilCheck
        refine ML.v (fun w st => by exact r_nilCheck rfl) rfl rfl rfl ?_
        -- R19.14 137 := laws.go:265 fieldAddr
        refine ML.v (fun w st => by exact r_field ty_fld42_0 rfl) rfl rfl rfl ?_
        -- R19.15 138 := laws.go:265 load
        refine ML.v (fun w st => by exact r_load1 ty_one40 rfl (by first | assumption | exact st.c0 (by first | decide | omega) | exact st.c1 (by first | decide | omega) | exact st.c2 (by first | decide | omega) | exact st.c3 (by first | decide | omega) | exact st.c4 (by first | decide | omega) | exact st.c5 (by first | decide | omega) | exact st.c6 (by first | decide | omega) | exact st.c7 (by first | decide | omega) | exact st.c8 (by first | decide | omega))) rfl rfl rfl ?_
        -- R19.17 140 := laws.go:265 move
        refine ML.v (fun w st => by first | exact r_move (v := .pointer _) rfl | exact r_move rfl) rfl rfl rfl ?_
        -- R19.18 141 := laws.go:265 nilCheck
        refine ML.v (fun w st => by exact r_nilCheck rfl) rfl rfl rfl ?_
        -- R19.19 142 := laws.go:265 fieldAddr
        refine ML.v (fun w st => by exact r_field ty_fld42_0 rfl) rfl rfl rfl ?_
        -- R19.20 143 := laws.go:265 load
        refine ML.v (fun w st => by exact r_load1 ty_one40 rfl (by first | assumption | exact st.c0 (by first | decide | omega) | exact st.c1 (by first | decide | omega) | exact st.c2 (by first | decide | omega) | exact st.c3 (by first | decide | omega) | exact st.c4 (by first | decide | omega) | exact st.c5 (by first | decide | omega) | exact st.c6 (by first | decide | omega) | exact st.c7 (by first | decide | omega) | exact st.c8 (by first | decide | omega))) rfl rfl rfl ?_
        refine ML.at ?_
        -- R19.16 139 := laws.go:265 call
        refine WL.call (r_call ty_call17 rfl) rfl rfl rfl (isDown_ok (st_inF [_, _] st)) ?_
        rintro _ w ⟨rfl, st⟩
        have st := st_outF [_, _] st
        rw [h1.down]
        refine ML.nxt (st_p2 st) ?_
        refine ML.at ?_
        -- R19.21 144 := laws.go:265 call
        refine WL.call (r_call ty_call17 rfl) rfl rfl rfl (isDown_ok (st_inF [_, _] (dd_sw st))) ?_
        rintro _ w ⟨rfl, st⟩
        have st := dd_sw (st_outF [_, _] st)
        rw [h2.down]
        refine ML.nxt (st_p2 st) ?_
        -- R19.22 145 := laws.go:265 binOp
        refine ML.v (fun w st => by exact r_beql (t := true) ty_bool4 rfl rfl (by simp)) rfl rfl rfl ?_
        -- R19.23 146 := laws.go:265 pick
        refine ML.v (fun w st => by first | exact r_pickT (v := .bool _) rfl rfl | exact r_pickF (v := .bool _) rfl rfl) rfl rfl rfl ?_
        -- R19.24 147 := laws.go:265 move
        refine ML.v (fun w st => by first | exact r_move (v := .bool _) rfl | exact r_move rfl) rfl rfl rfl ?_
        -- R19.25 148 := laws.go:265 move
        refine ML.v (fun w st => by first | exact r_move (v := .pointer _) rfl | exact r_move rfl) rfl rfl rfl ?_
        -- R19.26 149 := laws.go:265 nilCheck
        refine ML.v (fun w st => by exact r_nilCheck rfl) rfl rfl rfl ?_
        -- R19.27 150 := laws.go:265 fieldAddr
        refine ML.v (fun w st => by exact r_field ty_fld42_0 rfl) rfl rfl rfl ?_
        -- R19.28 151 := laws.go:265 load
        refine ML.v (fun w st => by exact r_load1 ty_one40 rfl (by first | assumption | exact st.c0 (by first | decide | omega) | exact st.c1 (by first | decide | omega) | exact st.c2 (by first | decide | omega) | exact st.c3 (by first | decide | omega) | exact st.c4 (by first | decide | omega) | exact st.c5 (by first | decide | omega) | exact st.c6 (by first | decide | omega) | exact st.c7 (by first | decide | omega) | exact st.c8 (by first | decide | omega))) rfl rfl rfl ?_
        -- R19.30 153 := laws.go:265 move
        refine ML.v (fun w st => by first | exact r_move (v := .pointer _) rfl | exact r_move rfl) rfl rfl rfl ?_
        -- R19.31 154 := laws.go:265 nilCheck
        refine ML.v (fun w st => by exact r_nilCheck rfl) rfl rfl rfl ?_
        -- R19.32 155 := laws.go:265 fieldAddr
        refine ML.v (fun w st => by exact r_field ty_fld42_0 rfl) rfl rfl rfl ?_
        -- R19.33 156 := laws.go:265 load
        refine ML.v (fun w st => by exact r_load1 ty_one40 rfl (by first | assumption | exact st.c0 (by first | decide | omega) | exact st.c1 (by first | decide | omega) | exact st.c2 (by first | decide | omega) | exact st.c3 (by first | decide | omega) | exact st.c4 (by first | decide | omega) | exact st.c5 (by first | decide | omega) | exact st.c6 (by first | decide | omega) | exact st.c7 (by first | decide | omega) | exact st.c8 (by first | decide | omega))) rfl rfl rfl ?_
        refine ML.at ?_
        -- R19.29 152 := laws.go:266 call
        refine WL.call (r_call ty_call18 rfl) rfl rfl rfl (pending_ok (by have := h1.hd; omega) (by have := h1.tl; have := h1.wr; omega) (st_inF [_, _] st)) ?_
        rintro _ w ⟨rfl, st⟩
        have st := st_outF [_, _] st
        rw [h1.pend]
        refine ML.nxt (st_p2 st) ?_
        refine ML.at ?_
        -- R19.34 157 := laws.go:266 call
        refine WL.call (r_call ty_call18 rfl) rfl rfl rfl (pending_ok (by have := h2.hd; omega) (by have := h2.tl; have := h2.wr; omega) (st_inF [_, _] (dd_sw st))) ?_
        rintro _ w ⟨rfl, st⟩
        have st := dd_sw (st_outF [_, _] st)
        rw [h2.pend]
        refine ML.nxt (st_p2 st) ?_
        -- R19.35 158 := laws.go:265 binOp
        refine ML.v (fun w st => by first | exact r_eql rfl rfl (decide_eq_true (by omega)) | exact r_eql rfl rfl (decide_eq_false (by omega)) | exact r_eql rfl rfl rfl) rfl rfl rfl ?_
        -- R19.36 159 := laws.go:265 pick
        refine ML.v (fun w st => by first | exact r_pickT (v := .bool _) rfl rfl | exact r_pickF (v := .bool _) rfl rfl) rfl rfl rfl ?_
        -- R19.37 160 := laws.go:265 move
        refine ML.v (fun w st => by first | exact r_move (v := .bool _) rfl | exact r_move rfl) rfl rfl rfl ?_
        -- R19.38 161 := laws.go:265 move
        refine ML.v (fun w st => by first | exact r_move (v := .int _ _) rfl | exact r_move rfl) rfl rfl rfl ?_
        -- R19.39 162 := laws.go:265 move
        refine ML.v (fun w st => by first | exact r_move (v := .int _ _) rfl | exact r_move rfl) rfl rfl rfl ?_
        -- R19.40 163 := laws.go:265 binOp
        refine ML.v (fun w st => by first | exact r_eql rfl rfl (decide_eq_true (by omega)) | exact r_eql rfl rfl (decide_eq_false (by omega)) | exact r_eql rfl rfl rfl) rfl rfl rfl ?_
        -- R19.41 164 := laws.go:265 pick
        refine ML.v (fun w st => by first | exact r_pickT (v := .bool _) rfl rfl | exact r_pickF (v := .bool _) rfl rfl) rfl rfl rfl ?_
        -- R19.42 165 := laws.go:265 move
        refine ML.v (fun w st => by first | exact r_move (v := .bool _) rfl | exact r_move rfl) rfl rfl rfl ?_
        -- R19.43 166 := laws.go:265 move
        refine ML.v (fun w st => by first | exact r_move (v := .bool _) rfl | exact r_move rfl) rfl rfl rfl ?_
        -- R19.44 167 := laws.go:265 move
        refine ML.v (fun w st => by first | exact r_move (v := .bool _) rfl | exact r_move rfl) rfl rfl rfl ?_
        -- R19.45 168 := laws.go:265 binOp
        refine ML.v (fun w st => by exact r_beql (t := true) ty_bool4 rfl rfl (by simp)) rfl rfl rfl ?_
        -- R19.46 169 := laws.go:265 pick
        refine ML.v (fun w st => by first | exact r_pickT (v := .bool _) rfl rfl | exact r_pickF (v := .bool _) rfl rfl) rfl rfl rfl ?_
        -- R19.47 170 := laws.go:265 move
        refine ML.v (fun w st => by first | exact r_move (v := .bool _) rfl | exact r_move rfl) rfl rfl rfl ?_
        -- R19.48 171 := laws.go:265 move
        refine ML.v (fun w st => by first | exact r_move (v := .pointer _) rfl | exact r_move rfl) rfl rfl rfl ?_
        -- R19.50 173 := laws.go:265 move
        refine ML.v (fun w st => by first | exact r_move (v := .pointer _) rfl | exact r_move rfl) rfl rfl rfl ?_
        refine ML.at ?_
        -- R19.49 172 := laws.go:267 call
        refine WL.call (r_call ty_call20 rfl) rfl rfl rfl (platter_ok (bs := b1) h1 (by simp) (st_inF [_, _] st)) ?_
        rintro _ w ⟨c1, rfl, st⟩
        have st := dd_img st
        refine ML.nxt (st_p2 st) ?_
        refine ML.at ?_
        -- R19.51 174 := laws.go:267 call
        refine WL.call (r_call ty_call20 rfl) rfl rfl rfl (platter_ok (bs := b2) h2 (by simp) (st_inF [_, _] (dd_sw st))) ?_
        rintro _ w ⟨c2, rfl, st⟩
        have st := dd_sw (dd_img st)
        refine ML.nxt (st_p2 st) ?_
        refine ML.at ?_
        -- R19.52 175 := laws.go:267 call
        refine WL.call (r_call ty_call22 rfl) rfl rfl rfl (equal_ok (Sees.img (img_range h1.pcr) hsl) (Sees.img (img_range h1.pcr) hsl) (l := sI b1 D1.bD :: sI b2 D2.bD :: DI D1 0 (DI D2 0 [iI c2 (P.sec * 512) (img P.pc), iI c1 (P.sec * 512) (img P.pc)])) (by intro x hx; simp only [List.mem_singleton] at hx; subst hx; simp) (by intro x hx; simp only [List.mem_singleton] at hx; subst hx; simp) st) ?_
        rintro _ w ⟨r, rfl, hr, st⟩
        obtain rfl := hr rfl
        refine ML.nxt (st_p2 st) ?_
        -- R19.53 176 := laws.go:265 pick
        refine ML.v (fun w st => by first | exact r_pickT (v := .bool _) rfl rfl | exact r_pickF (v := .bool _) rfl rfl) rfl rfl rfl ?_
        -- R19.54 177 := laws.go:265 move
        refine ML.v (fun w st => by first | exact r_move (v := .bool _) rfl | exact r_move rfl) rfl rfl rfl ?_
        -- R19.55 178 := laws.go:265 move
        refine ML.v (fun w st => by first | exact r_move (v := .pointer _) rfl | exact r_move rfl) rfl rfl rfl ?_
        -- R19.57 180 := laws.go:265 move
        refine ML.v (fun w st => by first | exact r_move (v := .pointer _) rfl | exact r_move rfl) rfl rfl rfl ?_
        refine ML.at ?_
        -- R19.56 179 := laws.go:267 call
        refine WL.call (r_call ty_call21 rfl) rfl rfl rfl (seen_ok (bs := b1) h1 (by simp) (st_inF [_, _] st)) ?_
        rintro _ w ⟨D3, eD3, h3, hv⟩
        obtain ⟨_, rfl, st⟩ := hv.resolve_right (fun h => by rw [hdn] at h; cases h.1)
        have st := st_outF [_, _] st
        refine ML.nxt (st_p2 st) ?_
        refine ML.at ?_
        -- R19.58 181 := laws.go:267 call
        refine WL.call (r_call ty_call21 rfl) rfl rfl rfl (seen_ok (bs := b2) h2 (by simp) (st_inF [_, _] (dd_sw st))) ?_
        rintro _ w ⟨D4, eD4, h4, hv⟩
        obtain ⟨_, rfl, st⟩ := hv.resolve_right (fun h => by rw [hdn] at h; cases h.1)
        have st := dd_sw (st_outF [_, _] st)
        refine ML.nxt (st_p2 st) ?_
        refine ML.at ?_
        -- R19.59 182 := laws.go:267 call
        refine WL.call (r_call ty_call22 rfl) rfl rfl rfl (equal_ok Sees.nil Sees.nil (List.nil_subset _) (List.nil_subset _) st) ?_
        rintro _ w ⟨r, rfl, hr, st⟩
        obtain rfl := hr rfl
        refine ML.nxt (st_p2 st) ?_
        -- R19.60 183 := laws.go:265 pick
        refine ML.v (fun w st => by first | exact r_pickT (v := .bool _) rfl rfl | exact r_pickF (v := .bool _) rfl rfl) rfl rfl rfl ?_
        refine ML.at ?_
        -- R19.61 2 := laws.go:265 assign
        refine WL.v (by first | exact r_assign (v := .bool _) rfl | exact r_assign rfl) rfl rfl rfl ?_
        refine ML.nxt (st_p2 st) ?_
        refine ML.wl ?_
        refine WL.fin hK851 (fun _ _ h => h) ?_
        refine WC.ret1 Tryd.results7 (fun _ _ h => h) rfl ?_
        exact ⟨_, rfl, rfl, st_none st⟩
    have hlt : i < n := by omega
    obtain rfl := ha (by omega)
    have hok := hS.ok hsm hlt
    have hw2 := step_wr (P := P) hok.datl
    have hdl := hok.datl; have hsct := hok.sct
    have hs2 := h1.s2
    refine WC.seq fun K852 hK852 => ?_
    -- region 5
    refine WC.region ?_
    -- R5.0 23 := laws.go:247 binOp
    refine WL.v (by first | exact r_lss rfl rfl (decide_eq_true (by omega)) | exact r_lss rfl rfl (decide_eq_false (by omega)) | exact r_lss rfl rfl rfl) rfl rfl rfl ?_
    refine WL.fin hK852 (fun _ _ h => h) ?_
    refine WC.seq fun K853 hK853 => ?_
    refine WC.condT rfl rfl ?_
    refine WC.skipF hK853 (fun _ _ h => h) ?_
    refine WC.seq fun K854 hK854 => ?_
    refine WC.block ?_
    refine WC.seq fun K855 hK855 => ?_
    -- region 6
    refine WC.region ?_
    -- R6.0 24 := laws.go:247 indexAddr
    refine WL.v (by exact r_indexS (j := i) ty_sl22 rfl rfl rfl hlt) rfl rfl rfl ?_
    -- R6.1 25 := laws.go:247 load
    refine WL.v (v := (op i).v) (by exact r_loadL (vs := opC (op i)) ty_agg33 rfl ⟨hS.ld hlt st 0 (by decide), hS.ld hlt st 1 (by decide), hS.ld hlt st 2 (by decide), hS.ld hlt st 3 (by decide), hS.ld hlt st 4 (by decide), hS.ld hlt st 5 (by decide), hS.ld hlt st 6 (by decide), hS.ld hlt st 7 (by decide), hS.ld hlt st 8 (by decide), trivial⟩) rfl rfl rfl ?_
    -- R6.2 6 := laws.go:247 alloc
    refine WL.alloc (m := 9) st ty_zero33 rfl rfl rfl ?_
    intro b6 w st
    -- R6.3 None := laws.go:247 store
    first | refine WL.storeW (vs := [_, _, _, _, _, _, _, _, _]) st ty_agg33 rfl rfl rfl rfl rfl rfl ?_ | refine WL.storeL (vs := [_, _, _, _, _, _, _, _, _]) st ty_agg33 rfl rfl rfl rfl (by first | decide | omega) rfl rfl ?_ | refine WL.storeW (vs := [_, _, _, _, _, _, _, _, _]) st.front1 ty_agg33 rfl rfl rfl rfl rfl rfl ?_ | refine WL.storeL (vs := [_, _, _, _, _, _, _, _, _]) st.front1 ty_agg33 rfl rfl rfl rfl (by first | decide | omega) rfl rfl ?_ | refine WL.storeW (vs := [_, _, _, _, _, _, _, _, _]) st.front2 ty_agg33 rfl rfl rfl rfl rfl rfl ?_ | refine WL.storeL (vs := [_, _, _, _, _, _, _, _, _]) st.front2 ty_agg33 rfl rfl rfl rfl (by first | decide | omega) rfl rfl ?_ | refine WL.storeW (vs := [_, _, _, _, _, _, _, _, _]) st.front3 ty_agg33 rfl rfl rfl rfl rfl rfl ?_ | refine WL.storeL (vs := [_, _, _, _, _, _, _, _, _]) st.front3 ty_agg33 rfl rfl rfl rfl (by first | decide | omega) rfl rfl ?_ | refine WL.storeW (vs := [_, _, _, _, _, _, _, _, _]) st.front4 ty_agg33 rfl rfl rfl rfl rfl rfl ?_ | refine WL.storeL (vs := [_, _, _, _, _, _, _, _, _]) st.front4 ty_agg33 rfl rfl rfl rfl (by first | decide | omega) rfl rfl ?_ | refine WL.storeW (vs := [_, _, _, _, _, _, _, _, _]) st.front5 ty_agg33 rfl rfl rfl rfl rfl rfl ?_ | refine WL.storeL (vs := [_, _, _, _, _, _, _, _, _]) st.front5 ty_agg33 rfl rfl rfl rfl (by first | decide | omega) rfl rfl ?_ | refine WL.storeW (vs := [_, _, _, _, _, _, _, _, _]) st.front6 ty_agg33 rfl rfl rfl rfl rfl rfl ?_ | refine WL.storeL (vs := [_, _, _, _, _, _, _, _, _]) st.front6 ty_agg33 rfl rfl rfl rfl (by first | decide | omega) rfl rfl ?_ | refine WL.storeW (vs := [_, _, _, _, _, _, _, _, _]) st.front7 ty_agg33 rfl rfl rfl rfl rfl rfl ?_ | refine WL.storeL (vs := [_, _, _, _, _, _, _, _, _]) st.front7 ty_agg33 rfl rfl rfl rfl (by first | decide | omega) rfl rfl ?_ | refine WL.storeW (vs := [_, _, _, _, _, _, _, _, _]) st.front8 ty_agg33 rfl rfl rfl rfl rfl rfl ?_ | refine WL.storeL (vs := [_, _, _, _, _, _, _, _, _]) st.front8 ty_agg33 rfl rfl rfl rfl (by first | decide | omega) rfl rfl ?_
    intro w st
    refine WL.fin hK855 (fun _ _ h => h) ?_
    refine WC.seq fun K856 hK856 => ?_
    -- region 7
    refine WC.region ?_
    -- R7.0 26 := laws.go:248 fieldAddr
    refine WL.v (by exact r_field ty_fld33_4 rfl) rfl rfl rfl ?_
    -- R7.1 27 := laws.go:248 load
    refine WL.v (by exact r_load1 ty_one29 rfl (by first | assumption | exact st.c0 (by first | decide | omega) | exact st.c1 (by first | decide | omega) | exact st.c2 (by first | decide | omega) | exact st.c3 (by first | decide | omega) | exact st.c4 (by first | decide | omega) | exact st.c5 (by first | decide | omega) | exact st.c6 (by first | decide | omega) | exact st.c7 (by first | decide | omega) | exact st.c8 (by first | decide | omega))) rfl rfl rfl ?_
    -- R7.2 28 := laws.go:248 call
    refine WL.v (by exact r_len ty_usl29 rfl) rfl rfl rfl ?_
    -- R7.3 29 := laws.go:248 binOp
    refine WL.v (by exact r_quo (r := (((op i).dat.bs.length / 512 : Nat) : Int)) rfl rfl (by omega) (by rw [show (((op i).dat.bs.length : Nat) : Int).tdiv 512 = (((op i).dat.bs.length / 512 : Nat) : Int) from rfl]; exact wi64 (by omega) (by omega))) rfl rfl rfl ?_
    -- R7.4 7 := laws.go:248 assign
    refine WL.v (by first | exact r_assign (v := .int _ _) rfl | exact r_assign rfl) rfl rfl rfl ?_
    refine WL.fin hK856 (fun _ _ h => h) ?_
    refine WC.seq fun K857 hK857 => ?_
    -- region 8
    refine WC.region ?_
    -- R8.0 30 := laws.go:249 move
    refine WL.v (by first | exact r_move (v := .pointer _) rfl | exact r_move rfl) rfl rfl rfl ?_
    -- R8.1 31 := laws.go:249 nilCheck
    refine WL.v (by exact r_nilCheck rfl) rfl rfl rfl ?_
    -- R8.2 32 := laws.go:249 fieldAddr
    refine WL.v (by exact r_field ty_fld42_0 rfl) rfl rfl rfl ?_
    -- R8.3 33 := laws.go:249 load
    refine WL.v (by exact r_load1 ty_one40 rfl (by first | assumption | exact st.c0 (by first | decide | omega) | exact st.c1 (by first | decide | omega) | exact st.c2 (by first | decide | omega) | exact st.c3 (by first | decide | omega) | exact st.c4 (by first | decide | omega) | exact st.c5 (by first | decide | omega) | exact st.c6 (by first | decide | omega) | exact st.c7 (by first | decide | omega) | exact st.c8 (by first | decide | omega))) rfl rfl rfl ?_
    -- R8.4 34 := laws.go:249 call
    refine WL.call (r_call ty_call17 rfl) rfl rfl rfl (isDown_ok (st_inF [_, _, _] st)) ?_
    rintro _ w ⟨rfl, st⟩
    have st := st_outF [_, _, _] st
    rw [h1.down]
    -- R8.5 8 := laws.go:249 assign
    refine WL.v (by first | exact r_assign (v := .bool _) rfl | exact r_assign rfl) rfl rfl rfl ?_
    refine WL.fin hK857 (fun _ _ h => h) ?_
    refine WC.cut (ι := Bool) (fun z => [(3, .pointer (some ⟨b1, 0, none⟩)), (4, .pointer (some ⟨b2, 0, none⟩)), (6, .pointer (some ⟨b6, 0, none⟩)), (8, .bool P.down), (9, .bool z), (20, .slice (some ⟨sb, so, none⟩) n c), (21, .int .i64 (n : Nat)), (22, .int .i64 (i : Nat))])
      (fun z w' => (z = true → (stepP P (op i)).2 = 2) ∧ S0 w0 ((b6, Row 33 9 (nth (opC (op i)))) :: sI b1 D1.bD :: sI b2 D2.bD :: DI D1 0 (DI D2 0 [])) w') ?_ ?_
    rotate_left
    · intro KC hKC
      by_cases hk : (op i).kind = 1
      rotate_left
      · skip
        -- region 9 (draws)
        refine WC.quietS st ty_mixed (by kernel_rfl) fun Kq hKq => ?_
        -- R9.0 35 := laws.go:250 fieldAddr
        refine QL.v (fun w st => by exact r_field ty_fld33_0 rfl) rfl rfl rfl ?_
        -- R9.1 36 := laws.go:250 load
        refine QL.v (fun w st => by exact r_load1 ty_one28 rfl (by first | assumption | exact st.c0 (by first | decide | omega) | exact st.c1 (by first | decide | omega) | exact st.c2 (by first | decide | omega) | exact st.c3 (by first | decide | omega) | exact st.c4 (by first | decide | omega) | exact st.c5 (by first | decide | omega) | exact st.c6 (by first | decide | omega) | exact st.c7 (by first | decide | omega) | exact st.c8 (by first | decide | omega))) rfl rfl rfl ?_
        -- R9.2 37 := laws.go:250 binOp
        refine QL.v (fun w st => by first | exact r_eql rfl rfl (decide_eq_true (by omega)) | exact r_eql rfl rfl (decide_eq_false (by omega)) | exact r_eql rfl rfl rfl) rfl rfl rfl ?_
        -- R9.3 38 := laws.go:250 move
        refine QL.v (fun w st => by first | exact r_move (v := .bool _) rfl | exact r_move rfl) rfl rfl rfl ?_
        -- R9.4 39 := laws.go:250 move
        refine QL.no rfl rfl ?_
        -- R9.5 40 := laws.go:250 binOp
        refine QL.no rfl rfl ?_
        -- R9.6 41 := laws.go:250 pick
        refine QL.v (fun w st => by first | exact r_pickT (v := .bool _) rfl rfl | exact r_pickF (v := .bool _) rfl rfl) rfl rfl rfl ?_
        -- R9.7 42 := laws.go:250 move
        refine QL.v (fun w st => by first | exact r_move (v := .bool _) rfl | exact r_move rfl) rfl rfl rfl ?_
        -- R9.8 43 := laws.go:250 fieldAddr
        refine QL.no rfl rfl ?_
        -- R9.9 44 := laws.go:250 load
        refine QL.no rfl rfl ?_
        -- R9.10 45 := laws.go:250 call
        refine QL.no rfl rfl ?_
        -- R9.11 46 := laws.go:250 binOp
        refine QL.no rfl rfl ?_
        -- R9.12 47 := laws.go:250 binOp
        refine QL.no rfl rfl ?_
        -- R9.13 48 := laws.go:250 pick
        refine QL.v (fun w st => by first | exact r_pickT (v := .bool _) rfl rfl | exact r_pickF (v := .bool _) rfl rfl) rfl rfl rfl ?_
        -- R9.14 49 := laws.go:250 move
        refine QL.v (fun w st => by first | exact r_move (v := .bool _) rfl | exact r_move rfl) rfl rfl rfl ?_
        -- R9.15 50 := laws.go:250 move
        refine QL.no rfl rfl ?_
        -- R9.16 51 := laws.go:250 unOp
        refine QL.no rfl rfl ?_
        -- R9.17 52 := laws.go:250 pick
        refine QL.v (fun w st => by first | exact r_pickT (v := .bool _) rfl rfl | exact r_pickF (v := .bool _) rfl rfl) rfl rfl rfl ?_
        -- R9.18 53 := laws.go:250 move
        refine QL.v (fun w st => by first | exact r_move (v := .bool _) rfl | exact r_move rfl) rfl rfl rfl ?_
        -- R9.19 54 := laws.go:250 fieldAddr
        refine QL.no rfl rfl ?_
        -- R9.20 55 := laws.go:250 load
        refine QL.no rfl rfl ?_
        -- R9.21 56 := laws.go:250 binOp
        refine QL.no rfl rfl ?_
        -- R9.22 57 := laws.go:250 move
        refine QL.no rfl rfl ?_
        -- R9.23 58 := laws.go:250 fieldAddr
        refine QL.no rfl rfl ?_
        -- R9.24 59 := laws.go:250 load
        refine QL.no rfl rfl ?_
        -- R9.25 60 := laws.go:250 move
        refine QL.no rfl rfl ?_
        -- R9.26 61 := laws.go:250 nilCheck
        refine QL.no rfl rfl ?_
        -- R9.27 62 := laws.go:250 fieldAddr
        refine QL.no rfl rfl ?_
        -- R9.28 63 := laws.go:250 load
        refine QL.no rfl rfl ?_
        -- R9.29 64 := laws.go:251 call
        refine QL.no rfl rfl ?_
        -- R9.30 65 := laws.go:250 binOp
        refine QL.no rfl rfl ?_
        -- R9.31 66 := laws.go:250 pick
        refine QL.no rfl rfl ?_
        -- R9.32 67 := laws.go:250 move
        refine QL.no rfl rfl ?_
        -- R9.33 68 := laws.go:250 move
        refine QL.no rfl rfl ?_
        -- R9.34 69 := laws.go:250 move
        refine QL.no rfl rfl ?_
        -- R9.35 70 := laws.go:250 nilCheck
        refine QL.no rfl rfl ?_
        -- R9.36 71 := laws.go:250 fieldAddr
        refine QL.no rfl rfl ?_
        -- R9.37 72 := laws.go:250 load
        refine QL.no rfl rfl ?_
        -- R9.38 73 := laws.go:251 call
        refine QL.no rfl rfl ?_
        -- R9.39 74 := laws.go:250 fieldAddr
        refine QL.no rfl rfl ?_
        -- R9.40 75 := laws.go:250 load
        refine QL.no rfl rfl ?_
        -- R9.41 76 := laws.go:250 binOp
        refine QL.no rfl rfl ?_
        -- R9.42 77 := laws.go:250 binOp
        refine QL.no rfl rfl ?_
        -- R9.43 78 := laws.go:250 pick
        refine QL.no rfl rfl ?_
        -- R9.44 79 := laws.go:250 pick
        refine QL.v (fun w st => by first | exact r_pickT (v := .bool _) rfl rfl | exact r_pickF (v := .bool _) rfl rfl) rfl rfl rfl ?_
        -- R9.45 9 := laws.go:250 assign
        refine QL.v (fun w st => by first | exact r_assign (v := .bool _) rfl | exact r_assign rfl) rfl rfl rfl ?_
        refine QL.wl hKq fun w st => ?_
        refine WL.join hKC (fun _ _ h => h) false ⟨(fun h => by cases h), st⟩ (by repeat (first | exact sub_nil _ | refine sub_cons rfl rfl ?_))
      by_cases hn0 : 0 < (op i).dat.bs.length / 512
      rotate_left
      · skip
        -- region 9 (draws)
        refine WC.quietS st ty_mixed (by kernel_rfl) fun Kq hKq => ?_
        -- R9.0 35 := laws.go:250 fieldAddr
        refine QL.v (fun w st => by exact r_field ty_fld33_0 rfl) rfl rfl rfl ?_
        -- R9.1 36 := laws.go:250 load
        refine QL.v (fun w st => by exact r_load1 ty_one28 rfl (by first | assumption | exact st.c0 (by first | decide | omega) | exact st.c1 (by first | decide | omega) | exact st.c2 (by first | decide | omega) | exact st.c3 (by first | decide | omega) | exact st.c4 (by first | decide | omega) | exact st.c5 (by first | decide | omega) | exact st.c6 (by first | decide | omega) | exact st.c7 (by first | decide | omega) | exact st.c8 (by first | decide | omega))) rfl rfl rfl ?_
        -- R9.2 37 := laws.go:250 binOp
        refine QL.v (fun w st => by first | exact r_eql rfl rfl (decide_eq_true (by omega)) | exact r_eql rfl rfl (decide_eq_false (by omega)) | exact r_eql rfl rfl rfl) rfl rfl rfl ?_
        -- R9.3 38 := laws.go:250 move
        refine QL.v (fun w st => by first | exact r_move (v := .bool _) rfl | exact r_move rfl) rfl rfl rfl ?_
        -- R9.4 39 := laws.go:250 move
        refine QL.v (fun w st => by first | exact r_move (v := .int _ _) rfl | exact r_move rfl) rfl rfl rfl ?_
        -- R9.5 40 := laws.go:250 binOp
        refine QL.v (fun w st => by first | exact r_gtr rfl rfl (decide_eq_true (by omega)) | exact r_gtr rfl rfl (decide_eq_false (by omega)) | exact r_gtr rfl rfl rfl) rfl rfl rfl ?_
        -- R9.6 41 := laws.go:250 pick
        refine QL.v (fun w st => by first | exact r_pickT (v := .bool _) rfl rfl | exact r_pickF (v := .bool _) rfl rfl) rfl rfl rfl ?_
        -- R9.7 42 := laws.go:250 move
        refine QL.v (fun w st => by first | exact r_move (v := .bool _) rfl | exact r_move rfl) rfl rfl rfl ?_
        -- R9.8 43 := laws.go:250 fieldAddr
        refine QL.no rfl rfl ?_
        -- R9.9 44 := laws.go:250 load
        refine QL.no rfl rfl ?_
        -- R9.10 45 := laws.go:250 call
        refine QL.no rfl rfl ?_
        -- R9.11 46 := laws.go:250 binOp
        refine QL.no rfl rfl ?_
        -- R9.12 47 := laws.go:250 binOp
        refine QL.no rfl rfl ?_
        -- R9.13 48 := laws.go:250 pick
        refine QL.v (fun w st => by first | exact r_pickT (v := .bool _) rfl rfl | exact r_pickF (v := .bool _) rfl rfl) rfl rfl rfl ?_
        -- R9.14 49 := laws.go:250 move
        refine QL.v (fun w st => by first | exact r_move (v := .bool _) rfl | exact r_move rfl) rfl rfl rfl ?_
        -- R9.15 50 := laws.go:250 move
        refine QL.no rfl rfl ?_
        -- R9.16 51 := laws.go:250 unOp
        refine QL.no rfl rfl ?_
        -- R9.17 52 := laws.go:250 pick
        refine QL.v (fun w st => by first | exact r_pickT (v := .bool _) rfl rfl | exact r_pickF (v := .bool _) rfl rfl) rfl rfl rfl ?_
        -- R9.18 53 := laws.go:250 move
        refine QL.v (fun w st => by first | exact r_move (v := .bool _) rfl | exact r_move rfl) rfl rfl rfl ?_
        -- R9.19 54 := laws.go:250 fieldAddr
        refine QL.no rfl rfl ?_
        -- R9.20 55 := laws.go:250 load
        refine QL.no rfl rfl ?_
        -- R9.21 56 := laws.go:250 binOp
        refine QL.no rfl rfl ?_
        -- R9.22 57 := laws.go:250 move
        refine QL.no rfl rfl ?_
        -- R9.23 58 := laws.go:250 fieldAddr
        refine QL.no rfl rfl ?_
        -- R9.24 59 := laws.go:250 load
        refine QL.no rfl rfl ?_
        -- R9.25 60 := laws.go:250 move
        refine QL.no rfl rfl ?_
        -- R9.26 61 := laws.go:250 nilCheck
        refine QL.no rfl rfl ?_
        -- R9.27 62 := laws.go:250 fieldAddr
        refine QL.no rfl rfl ?_
        -- R9.28 63 := laws.go:250 load
        refine QL.no rfl rfl ?_
        -- R9.29 64 := laws.go:251 call
        refine QL.no rfl rfl ?_
        -- R9.30 65 := laws.go:250 binOp
        refine QL.no rfl rfl ?_
        -- R9.31 66 := laws.go:250 pick
        refine QL.no rfl rfl ?_
        -- R9.32 67 := laws.go:250 move
        refine QL.no rfl rfl ?_
        -- R9.33 68 := laws.go:250 move
        refine QL.no rfl rfl ?_
        -- R9.34 69 := laws.go:250 move
        refine QL.no rfl rfl ?_
        -- R9.35 70 := laws.go:250 nilCheck
        refine QL.no rfl rfl ?_
        -- R9.36 71 := laws.go:250 fieldAddr
        refine QL.no rfl rfl ?_
        -- R9.37 72 := laws.go:250 load
        refine QL.no rfl rfl ?_
        -- R9.38 73 := laws.go:251 call
        refine QL.no rfl rfl ?_
        -- R9.39 74 := laws.go:250 fieldAddr
        refine QL.no rfl rfl ?_
        -- R9.40 75 := laws.go:250 load
        refine QL.no rfl rfl ?_
        -- R9.41 76 := laws.go:250 binOp
        refine QL.no rfl rfl ?_
        -- R9.42 77 := laws.go:250 binOp
        refine QL.no rfl rfl ?_
        -- R9.43 78 := laws.go:250 pick
        refine QL.no rfl rfl ?_
        -- R9.44 79 := laws.go:250 pick
        refine QL.v (fun w st => by first | exact r_pickT (v := .bool _) rfl rfl | exact r_pickF (v := .bool _) rfl rfl) rfl rfl rfl ?_
        -- R9.45 9 := laws.go:250 assign
        refine QL.v (fun w st => by first | exact r_assign (v := .bool _) rfl | exact r_assign rfl) rfl rfl rfl ?_
        refine QL.wl hKq fun w st => ?_
        refine WL.join hKC (fun _ _ h => h) false ⟨(fun h => by cases h), st⟩ (by repeat (first | exact sub_nil _ | refine sub_cons rfl rfl ?_))
      by_cases hm0 : (op i).dat.bs.length % 512 = 0
      rotate_left
      · skip
        -- region 9 (draws)
        refine WC.quietS st ty_mixed (by kernel_rfl) fun Kq hKq => ?_
        -- R9.0 35 := laws.go:250 fieldAddr
        refine QL.v (fun w st => by exact r_field ty_fld33_0 rfl) rfl rfl rfl ?_
        -- R9.1 36 := laws.go:250 load
        refine QL.v (fun w st => by exact r_load1 ty_one28 rfl (by first | assumption | exact st.c0 (by first | decide | omega) | exact st.c1 (by first | decide | omega) | exact st.c2 (by first | decide | omega) | exact st.c3 (by first | decide | omega) | exact st.c4 (by first | decide | omega) | exact st.c5 (by first | decide | omega) | exact st.c6 (by first | decide | omega) | exact st.c7 (by first | decide | omega) | exact st.c8 (by first | decide | omega))) rfl rfl rfl ?_
        -- R9.2 37 := laws.go:250 binOp
        refine QL.v (fun w st => by first | exact r_eql rfl rfl (decide_eq_true (by omega)) | exact r_eql rfl rfl (decide_eq_false (by omega)) | exact r_eql rfl rfl rfl) rfl rfl rfl ?_
        -- R9.3 38 := laws.go:250 move
        refine QL.v (fun w st => by first | exact r_move (v := .bool _) rfl | exact r_move rfl) rfl rfl rfl ?_
        -- R9.4 39 := laws.go:250 move
        refine QL.v (fun w st => by first | exact r_move (v := .int _ _) rfl | exact r_move rfl) rfl rfl rfl ?_
        -- R9.5 40 := laws.go:250 binOp
        refine QL.v (fun w st => by first | exact r_gtr rfl rfl (decide_eq_true (by omega)) | exact r_gtr rfl rfl (decide_eq_false (by omega)) | exact r_gtr rfl rfl rfl) rfl rfl rfl ?_
        -- R9.6 41 := laws.go:250 pick
        refine QL.v (fun w st => by first | exact r_pickT (v := .bool _) rfl rfl | exact r_pickF (v := .bool _) rfl rfl) rfl rfl rfl ?_
        -- R9.7 42 := laws.go:250 move
        refine QL.v (fun w st => by first | exact r_move (v := .bool _) rfl | exact r_move rfl) rfl rfl rfl ?_
        -- R9.8 43 := laws.go:250 fieldAddr
        refine QL.v (fun w st => by exact r_field ty_fld33_4 rfl) rfl rfl rfl ?_
        -- R9.9 44 := laws.go:250 load
        refine QL.v (fun w st => by exact r_load1 ty_one29 rfl (by first | assumption | exact st.c0 (by first | decide | omega) | exact st.c1 (by first | decide | omega) | exact st.c2 (by first | decide | omega) | exact st.c3 (by first | decide | omega) | exact st.c4 (by first | decide | omega) | exact st.c5 (by first | decide | omega) | exact st.c6 (by first | decide | omega) | exact st.c7 (by first | decide | omega) | exact st.c8 (by first | decide | omega))) rfl rfl rfl ?_
        -- R9.10 45 := laws.go:250 call
        refine QL.v (fun w st => by exact r_len ty_usl29 rfl) rfl rfl rfl ?_
        -- R9.11 46 := laws.go:250 binOp
        refine QL.v (fun w st => by exact r_rem (r := (((op i).dat.bs.length % 512 : Nat) : Int)) rfl rfl (by omega) rfl) rfl rfl rfl ?_
        -- R9.12 47 := laws.go:250 binOp
        refine QL.v (fun w st => by first | exact r_eql rfl rfl (decide_eq_true (by omega)) | exact r_eql rfl rfl (decide_eq_false (by omega)) | exact r_eql rfl rfl rfl) rfl rfl rfl ?_
        -- R9.13 48 := laws.go:250 pick
        refine QL.v (fun w st => by first | exact r_pickT (v := .bool _) rfl rfl | exact r_pickF (v := .bool _) rfl rfl) rfl rfl rfl ?_
        -- R9.14 49 := laws.go:250 move
        refine QL.v (fun w st => by first | exact r_move (v := .bool _) rfl | exact r_move rfl) rfl rfl rfl ?_
        -- R9.15 50 := laws.go:250 move
        refine QL.no rfl rfl ?_
        -- R9.16 51 := laws.go:250 unOp
        refine QL.no rfl rfl ?_
        -- R9.17 52 := laws.go:250 pick
        refine QL.v (fun w st => by first | exact r_pickT (v := .bool _) rfl rfl | exact r_pickF (v := .bool _) rfl rfl) rfl rfl rfl ?_
        -- R9.18 53 := laws.go:250 move
        refine QL.v (fun w st => by first | exact r_move (v := .bool _) rfl | exact r_move rfl) rfl rfl rfl ?_
        -- R9.19 54 := laws.go:250 fieldAddr
        refine QL.no rfl rfl ?_
        -- R9.20 55 := laws.go:250 load
        refine QL.no rfl rfl ?_
        -- R9.21 56 := laws.go:250 binOp
        refine QL.no rfl rfl ?_
        -- R9.22 57 := laws.go:250 move
        refine QL.no rfl rfl ?_
        -- R9.23 58 := laws.go:250 fieldAddr
        refine QL.no rfl rfl ?_
        -- R9.24 59 := laws.go:250 load
        refine QL.no rfl rfl ?_
        -- R9.25 60 := laws.go:250 move
        refine QL.no rfl rfl ?_
        -- R9.26 61 := laws.go:250 nilCheck
        refine QL.no rfl rfl ?_
        -- R9.27 62 := laws.go:250 fieldAddr
        refine QL.no rfl rfl ?_
        -- R9.28 63 := laws.go:250 load
        refine QL.no rfl rfl ?_
        -- R9.29 64 := laws.go:251 call
        refine QL.no rfl rfl ?_
        -- R9.30 65 := laws.go:250 binOp
        refine QL.no rfl rfl ?_
        -- R9.31 66 := laws.go:250 pick
        refine QL.no rfl rfl ?_
        -- R9.32 67 := laws.go:250 move
        refine QL.no rfl rfl ?_
        -- R9.33 68 := laws.go:250 move
        refine QL.no rfl rfl ?_
        -- R9.34 69 := laws.go:250 move
        refine QL.no rfl rfl ?_
        -- R9.35 70 := laws.go:250 nilCheck
        refine QL.no rfl rfl ?_
        -- R9.36 71 := laws.go:250 fieldAddr
        refine QL.no rfl rfl ?_
        -- R9.37 72 := laws.go:250 load
        refine QL.no rfl rfl ?_
        -- R9.38 73 := laws.go:251 call
        refine QL.no rfl rfl ?_
        -- R9.39 74 := laws.go:250 fieldAddr
        refine QL.no rfl rfl ?_
        -- R9.40 75 := laws.go:250 load
        refine QL.no rfl rfl ?_
        -- R9.41 76 := laws.go:250 binOp
        refine QL.no rfl rfl ?_
        -- R9.42 77 := laws.go:250 binOp
        refine QL.no rfl rfl ?_
        -- R9.43 78 := laws.go:250 pick
        refine QL.no rfl rfl ?_
        -- R9.44 79 := laws.go:250 pick
        refine QL.v (fun w st => by first | exact r_pickT (v := .bool _) rfl rfl | exact r_pickF (v := .bool _) rfl rfl) rfl rfl rfl ?_
        -- R9.45 9 := laws.go:250 assign
        refine QL.v (fun w st => by first | exact r_assign (v := .bool _) rfl | exact r_assign rfl) rfl rfl rfl ?_
        refine QL.wl hKq fun w st => ?_
        refine WL.join hKC (fun _ _ h => h) false ⟨(fun h => by cases h), st⟩ (by repeat (first | exact sub_nil _ | refine sub_cons rfl rfl ?_))
      rcases hdn : P.down with _ | _
      rotate_left
      · rw [hdn] at hKC
        -- region 9 (draws)
        refine WC.quietS st ty_mixed (by kernel_rfl) fun Kq hKq => ?_
        -- R9.0 35 := laws.go:250 fieldAddr
        refine QL.v (fun w st => by exact r_field ty_fld33_0 rfl) rfl rfl rfl ?_
        -- R9.1 36 := laws.go:250 load
        refine QL.v (fun w st => by exact r_load1 ty_one28 rfl (by first | assumption | exact st.c0 (by first | decide | omega) | exact st.c1 (by first | decide | omega) | exact st.c2 (by first | decide | omega) | exact st.c3 (by first | decide | omega) | exact st.c4 (by first | decide | omega) | exact st.c5 (by first | decide | omega) | exact st.c6 (by first | decide | omega) | exact st.c7 (by first | decide | omega) | exact st.c8 (by first | decide | omega))) rfl rfl rfl ?_
        -- R9.2 37 := laws.go:250 binOp
        refine QL.v (fun w st => by first | exact r_eql rfl rfl (decide_eq_true (by omega)) | exact r_eql rfl rfl (decide_eq_false (by omega)) | exact r_eql rfl rfl rfl) rfl rfl rfl ?_
        -- R9.3 38 := laws.go:250 move
        refine QL.v (fun w st => by first | exact r_move (v := .bool _) rfl | exact r_move rfl) rfl rfl rfl ?_
        -- R9.4 39 := laws.go:250 move
        refine QL.v (fun w st => by first | exact r_move (v := .int _ _) rfl | exact r_move rfl) rfl rfl rfl ?_
        -- R9.5 40 := laws.go:250 binOp
        refine QL.v (fun w st => by first | exact r_gtr rfl rfl (decide_eq_true (by omega)) | exact r_gtr rfl rfl (decide_eq_false (by omega)) | exact r_gtr rfl rfl rfl) rfl rfl rfl ?_
        -- R9.6 41 := laws.go:250 pick
        refine QL.v (fun w st => by first | exact r_pickT (v := .bool _) rfl rfl | exact r_pickF (v := .bool _) rfl rfl) rfl rfl rfl ?_
        -- R9.7 42 := laws.go:250 move
        refine QL.v (fun w st => by first | exact r_move (v := .bool _) rfl | exact r_move rfl) rfl rfl rfl ?_
        -- R9.8 43 := laws.go:250 fieldAddr
        refine QL.v (fun w st => by exact r_field ty_fld33_4 rfl) rfl rfl rfl ?_
        -- R9.9 44 := laws.go:250 load
        refine QL.v (fun w st => by exact r_load1 ty_one29 rfl (by first | assumption | exact st.c0 (by first | decide | omega) | exact st.c1 (by first | decide | omega) | exact st.c2 (by first | decide | omega) | exact st.c3 (by first | decide | omega) | exact st.c4 (by first | decide | omega) | exact st.c5 (by first | decide | omega) | exact st.c6 (by first | decide | omega) | exact st.c7 (by first | decide | omega) | exact st.c8 (by first | decide | omega))) rfl rfl rfl ?_
        -- R9.10 45 := laws.go:250 call
        refine QL.v (fun w st => by exact r_len ty_usl29 rfl) rfl rfl rfl ?_
        -- R9.11 46 := laws.go:250 binOp
        refine QL.v (fun w st => by exact r_rem (r := (((op i).dat.bs.length % 512 : Nat) : Int)) rfl rfl (by omega) rfl) rfl rfl rfl ?_
        -- R9.12 47 := laws.go:250 binOp
        refine QL.v (fun w st => by first | exact r_eql rfl rfl (decide_eq_true (by omega)) | exact r_eql rfl rfl (decide_eq_false (by omega)) | exact r_eql rfl rfl rfl) rfl rfl rfl ?_
        -- R9.13 48 := laws.go:250 pick
        refine QL.v (fun w st => by first | exact r_pickT (v := .bool _) rfl rfl | exact r_pickF (v := .bool _) rfl rfl) rfl rfl rfl ?_
        -- R9.14 49 := laws.go:250 move
        refine QL.v (fun w st => by first | exact r_move (v := .bool _) rfl | exact r_move rfl) rfl rfl rfl ?_
        -- R9.15 50 := laws.go:250 move
        refine QL.v (fun w st => by first | exact r_move (v := .bool _) rfl | exact r_move rfl) rfl rfl rfl ?_
        -- R9.16 51 := laws.go:250 unOp
        refine QL.v (fun w st => by first | exact r_notT rfl | exact r_notF rfl | exact r_not rfl) rfl rfl rfl ?_
        -- R9.17 52 := laws.go:250 pick
        refine QL.v (fun w st => by first | exact r_pickT (v := .bool _) rfl rfl | exact r_pickF (v := .bool _) rfl rfl) rfl rfl rfl ?_
        -- R9.18 53 := laws.go:250 move
        refine QL.v (fun w st => by first | exact r_move (v := .bool _) rfl | exact r_move rfl) rfl rfl rfl ?_
        -- R9.19 54 := laws.go:250 fieldAddr
        refine QL.no rfl rfl ?_
        -- R9.20 55 := laws.go:250 load
        refine QL.no rfl rfl ?_
        -- R9.21 56 := laws.go:250 binOp
        refine QL.no rfl rfl ?_
        -- R9.22 57 := laws.go:250 move
        refine QL.no rfl rfl ?_
        -- R9.23 58 := laws.go:250 fieldAddr
        refine QL.no rfl rfl ?_
        -- R9.24 59 := laws.go:250 load
        refine QL.no rfl rfl ?_
        -- R9.25 60 := laws.go:250 move
        refine QL.no rfl rfl ?_
        -- R9.26 61 := laws.go:250 nilCheck
        refine QL.no rfl rfl ?_
        -- R9.27 62 := laws.go:250 fieldAddr
        refine QL.no rfl rfl ?_
        -- R9.28 63 := laws.go:250 load
        refine QL.no rfl rfl ?_
        -- R9.29 64 := laws.go:251 call
        refine QL.no rfl rfl ?_
        -- R9.30 65 := laws.go:250 binOp
        refine QL.no rfl rfl ?_
        -- R9.31 66 := laws.go:250 pick
        refine QL.no rfl rfl ?_
        -- R9.32 67 := laws.go:250 move
        refine QL.no rfl rfl ?_
        -- R9.33 68 := laws.go:250 move
        refine QL.no rfl rfl ?_
        -- R9.34 69 := laws.go:250 move
        refine QL.no rfl rfl ?_
        -- R9.35 70 := laws.go:250 nilCheck
        refine QL.no rfl rfl ?_
        -- R9.36 71 := laws.go:250 fieldAddr
        refine QL.no rfl rfl ?_
        -- R9.37 72 := laws.go:250 load
        refine QL.no rfl rfl ?_
        -- R9.38 73 := laws.go:251 call
        refine QL.no rfl rfl ?_
        -- R9.39 74 := laws.go:250 fieldAddr
        refine QL.no rfl rfl ?_
        -- R9.40 75 := laws.go:250 load
        refine QL.no rfl rfl ?_
        -- R9.41 76 := laws.go:250 binOp
        refine QL.no rfl rfl ?_
        -- R9.42 77 := laws.go:250 binOp
        refine QL.no rfl rfl ?_
        -- R9.43 78 := laws.go:250 pick
        refine QL.no rfl rfl ?_
        -- R9.44 79 := laws.go:250 pick
        refine QL.v (fun w st => by first | exact r_pickT (v := .bool _) rfl rfl | exact r_pickF (v := .bool _) rfl rfl) rfl rfl rfl ?_
        -- R9.45 9 := laws.go:250 assign
        refine QL.v (fun w st => by first | exact r_assign (v := .bool _) rfl | exact r_assign rfl) rfl rfl rfl ?_
        refine QL.wl hKq fun w st => ?_
        refine WL.join hKC (fun _ _ h => h) false ⟨(fun h => by cases h), st⟩ (by repeat (first | exact sub_nil _ | refine sub_cons rfl rfl ?_))
      rw [hdn] at hKC
      by_cases hs0 : (op i).sct < 0
      · skip
        -- region 9 (draws)
        refine WC.quietS st ty_mixed (by kernel_rfl) fun Kq hKq => ?_
        -- R9.0 35 := laws.go:250 fieldAddr
        refine QL.v (fun w st => by exact r_field ty_fld33_0 rfl) rfl rfl rfl ?_
        -- R9.1 36 := laws.go:250 load
        refine QL.v (fun w st => by exact r_load1 ty_one28 rfl (by first | assumption | exact st.c0 (by first | decide | omega) | exact st.c1 (by first | decide | omega) | exact st.c2 (by first | decide | omega) | exact st.c3 (by first | decide | omega) | exact st.c4 (by first | decide | omega) | exact st.c5 (by first | decide | omega) | exact st.c6 (by first | decide | omega) | exact st.c7 (by first | decide | omega) | exact st.c8 (by first | decide | omega))) rfl rfl rfl ?_
        -- R9.2 37 := laws.go:250 binOp
        refine QL.v (fun w st => by first | exact r_eql rfl rfl (decide_eq_true (by omega)) | exact r_eql rfl rfl (decide_eq_false (by omega)) | exact r_eql rfl rfl rfl) rfl rfl rfl ?_
        -- R9.3 38 := laws.go:250 move
        refine QL.v (fun w st => by first | exact r_move (v := .bool _) rfl | exact r_move rfl) rfl rfl rfl ?_
        -- R9.4 39 := laws.go:250 move
        refine QL.v (fun w st => by first | exact r_move (v := .int _ _) rfl | exact r_move rfl) rfl rfl rfl ?_
        -- R9.5 40 := laws.go:250 binOp
        refine QL.v (fun w st => by first | exact r_gtr rfl rfl (decide_eq_true (by omega)) | exact r_gtr rfl rfl (decide_eq_false (by omega)) | exact r_gtr rfl rfl rfl) rfl rfl rfl ?_
        -- R9.6 41 := laws.go:250 pick
        refine QL.v (fun w st => by first | exact r_pickT (v := .bool _) rfl rfl | exact r_pickF (v := .bool _) rfl rfl) rfl rfl rfl ?_
        -- R9.7 42 := laws.go:250 move
        refine QL.v (fun w st => by first | exact r_move (v := .bool _) rfl | exact r_move rfl) rfl rfl rfl ?_
        -- R9.8 43 := laws.go:250 fieldAddr
        refine QL.v (fun w st => by exact r_field ty_fld33_4 rfl) rfl rfl rfl ?_
        -- R9.9 44 := laws.go:250 load
        refine QL.v (fun w st => by exact r_load1 ty_one29 rfl (by first | assumption | exact st.c0 (by first | decide | omega) | exact st.c1 (by first | decide | omega) | exact st.c2 (by first | decide | omega) | exact st.c3 (by first | decide | omega) | exact st.c4 (by first | decide | omega) | exact st.c5 (by first | decide | omega) | exact st.c6 (by first | decide | omega) | exact st.c7 (by first | decide | omega) | exact st.c8 (by first | decide | omega))) rfl rfl rfl ?_
        -- R9.10 45 := laws.go:250 call
        refine QL.v (fun w st => by exact r_len ty_usl29 rfl) rfl rfl rfl ?_
        -- R9.11 46 := laws.go:250 binOp
        refine QL.v (fun w st => by exact r_rem (r := (((op i).dat.bs.length % 512 : Nat) : Int)) rfl rfl (by omega) rfl) rfl rfl rfl ?_
        -- R9.12 47 := laws.go:250 binOp
        refine QL.v (fun w st => by first | exact r_eql rfl rfl (decide_eq_true (by omega)) | exact r_eql rfl rfl (decide_eq_false (by omega)) | exact r_eql rfl rfl rfl) rfl rfl rfl ?_
        -- R9.13 48 := laws.go:250 pick
        refine QL.v (fun w st => by first | exact r_pickT (v := .bool _) rfl rfl | exact r_pickF (v := .bool _) rfl rfl) rfl rfl rfl ?_
        -- R9.14 49 := laws.go:250 move
        refine QL.v (fun w st => by first | exact r_move (v := .bool _) rfl | exact r_move rfl) rfl rfl rfl ?_
        -- R9.15 50 := laws.go:250 move
        refine QL.v (fun w st => by first | exact r_move (v := .bool _) rfl | exact r_move rfl) rfl rfl rfl ?_
        -- R9.16 51 := laws.go:250 unOp
        refine QL.v (fun w st => by first | exact r_notT rfl | exact r_notF rfl | exact r_not rfl) rfl rfl rfl ?_
        -- R9.17 52 := laws.go:250 pick
        refine QL.v (fun w st => by first | exact r_pickT (v := .bool _) rfl rfl | exact r_pickF (v := .bool _) rfl rfl) rfl rfl rfl ?_
        -- R9.18 53 := laws.go:250 move
        refine QL.v (fun w st => by first | exact r_move (v := .bool _) rfl | exact r_move rfl) rfl rfl rfl ?_
        -- R9.19 54 := laws.go:250 fieldAddr
        refine QL.v (fun w st => by exact r_field ty_fld33_1 rfl) rfl rfl rfl ?_
        -- R9.20 55 := laws.go:250 load
        refine QL.v (fun w st => by exact r_load1 ty_one2 rfl (by first | assumption | exact st.c0 (by first | decide | omega) | exact st.c1 (by first | decide | omega) | exact st.c2 (by first | decide | omega) | exact st.c3 (by first | decide | omega) | exact st.c4 (by first | decide | omega) | exact st.c5 (by first | decide | omega) | exact st.c6 (by first | decide | omega) | exact st.c7 (by first | decide | omega) | exact st.c8 (by first | decide | omega))) rfl rfl rfl ?_
        -- R9.21 56 := laws.go:250 binOp
        refine QL.v (fun w st => by first | exact r_lss rfl rfl (decide_eq_true (by omega)) | exact r_lss rfl rfl (decide_eq_false (by omega)) | exact r_lss rfl rfl rfl) rfl rfl rfl ?_
        -- R9.22 57 := laws.go:250 move
        refine QL.v (fun w st => by first | exact r_move (v := .bool _) rfl | exact r_move rfl) rfl rfl rfl ?_
        -- R9.23 58 := laws.go:250 fieldAddr
        refine QL.no rfl rfl ?_
        -- R9.24 59 := laws.go:250 load
        refine QL.no rfl rfl ?_
        -- R9.25 60 := laws.go:250 move
        refine QL.no rfl rfl ?_
        -- R9.26 61 := laws.go:250 nilCheck
        refine QL.no rfl rfl ?_
        -- R9.27 62 := laws.go:250 fieldAddr
        refine QL.no rfl rfl ?_
        -- R9.28 63 := laws.go:250 load
        refine QL.no rfl rfl ?_
        -- R9.29 64 := laws.go:251 call
        refine QL.no rfl rfl ?_
        -- R9.30 65 := laws.go:250 binOp
        refine QL.no rfl rfl ?_
        -- R9.31 66 := laws.go:250 pick
        refine QL.v (fun w st => by first | exact r_pickT (v := .bool _) rfl rfl | exact r_pickF (v := .bool _) rfl rfl) rfl rfl rfl ?_
        -- R9.32 67 := laws.go:250 move
        refine QL.v (fun w st => by first | exact r_move (v := .bool _) rfl | exact r_move rfl) rfl rfl rfl ?_
        -- R9.33 68 := laws.go:250 move
        refine QL.no rfl rfl ?_
        -- R9.34 69 := laws.go:250 move
        refine QL.no rfl rfl ?_
        -- R9.35 70 := laws.go:250 nilCheck
        refine QL.no rfl rfl ?_
        -- R9.36 71 := laws.go:250 fieldAddr
        refine QL.no rfl rfl ?_
        -- R9.37 72 := laws.go:250 load
        refine QL.no rfl rfl ?_
        -- R9.38 73 := laws.go:251 call
        refine QL.no rfl rfl ?_
        -- R9.39 74 := laws.go:250 fieldAddr
        refine QL.no rfl rfl ?_
        -- R9.40 75 := laws.go:250 load
        refine QL.no rfl rfl ?_
        -- R9.41 76 := laws.go:250 binOp
        refine QL.no rfl rfl ?_
        -- R9.42 77 := laws.go:250 binOp
        refine QL.no rfl rfl ?_
        -- R9.43 78 := laws.go:250 pick
        refine QL.v (fun w st => by first | exact r_pickT (v := .bool _) rfl rfl | exact r_pickF (v := .bool _) rfl rfl) rfl rfl rfl ?_
        -- R9.44 79 := laws.go:250 pick
        refine QL.v (fun w st => by first | exact r_pickT (v := .bool _) rfl rfl | exact r_pickF (v := .bool _) rfl rfl) rfl rfl rfl ?_
        -- R9.45 9 := laws.go:250 assign
        refine QL.v (fun w st => by first | exact r_assign (v := .bool _) rfl | exact r_assign rfl) rfl rfl rfl ?_
        refine QL.wl hKq fun w st => ?_
        refine WL.join hKC (fun _ _ h => h) true ⟨fun _ => step_beyond hk hn0 hm0 hdn (.inl hs0), st⟩ (by repeat (first | exact sub_nil _ | refine sub_cons rfl rfl ?_))
      by_cases hs1 : (P.sec : Int) ≤ (op i).sct
      · skip
        -- region 9 (draws)
        refine WC.quietS st ty_mixed (by kernel_rfl) fun Kq hKq => ?_
        -- R9.0 35 := laws.go:250 fieldAddr
        refine QL.v (fun w st => by exact r_field ty_fld33_0 rfl) rfl rfl rfl ?_
        -- R9.1 36 := laws.go:250 load
        refine QL.v (fun w st => by exact r_load1 ty_one28 rfl (by first | assumption | exact st.c0 (by first | decide | omega) | exact st.c1 (by first | decide | omega) | exact st.c2 (by first | decide | omega) | exact st.c3 (by first | decide | omega) | exact st.c4 (by first | decide | omega) | exact st.c5 (by first | decide | omega) | exact st.c6 (by first | decide | omega) | exact st.c7 (by first | decide | omega) | exact st.c8 (by first | decide | omega))) rfl rfl rfl ?_
        -- R9.2 37 := laws.go:250 binOp
        refine QL.v (fun w st => by first | exact r_eql rfl rfl (decide_eq_true (by omega)) | exact r_eql rfl rfl (decide_eq_false (by omega)) | exact r_eql rfl rfl rfl) rfl rfl rfl ?_
        -- R9.3 38 := laws.go:250 move
        refine QL.v (fun w st => by first | exact r_move (v := .bool _) rfl | exact r_move rfl) rfl rfl rfl ?_
        -- R9.4 39 := laws.go:250 move
        refine QL.v (fun w st => by first | exact r_move (v := .int _ _) rfl | exact r_move rfl) rfl rfl rfl ?_
        -- R9.5 40 := laws.go:250 binOp
        refine QL.v (fun w st => by first | exact r_gtr rfl rfl (decide_eq_true (by omega)) | exact r_gtr rfl rfl (decide_eq_false (by omega)) | exact r_gtr rfl rfl rfl) rfl rfl rfl ?_
        -- R9.6 41 := laws.go:250 pick
        refine QL.v (fun w st => by first | exact r_pickT (v := .bool _) rfl rfl | exact r_pickF (v := .bool _) rfl rfl) rfl rfl rfl ?_
        -- R9.7 42 := laws.go:250 move
        refine QL.v (fun w st => by first | exact r_move (v := .bool _) rfl | exact r_move rfl) rfl rfl rfl ?_
        -- R9.8 43 := laws.go:250 fieldAddr
        refine QL.v (fun w st => by exact r_field ty_fld33_4 rfl) rfl rfl rfl ?_
        -- R9.9 44 := laws.go:250 load
        refine QL.v (fun w st => by exact r_load1 ty_one29 rfl (by first | assumption | exact st.c0 (by first | decide | omega) | exact st.c1 (by first | decide | omega) | exact st.c2 (by first | decide | omega) | exact st.c3 (by first | decide | omega) | exact st.c4 (by first | decide | omega) | exact st.c5 (by first | decide | omega) | exact st.c6 (by first | decide | omega) | exact st.c7 (by first | decide | omega) | exact st.c8 (by first | decide | omega))) rfl rfl rfl ?_
        -- R9.10 45 := laws.go:250 call
        refine QL.v (fun w st => by exact r_len ty_usl29 rfl) rfl rfl rfl ?_
        -- R9.11 46 := laws.go:250 binOp
        refine QL.v (fun w st => by exact r_rem (r := (((op i).dat.bs.length % 512 : Nat) : Int)) rfl rfl (by omega) rfl) rfl rfl rfl ?_
        -- R9.12 47 := laws.go:250 binOp
        refine QL.v (fun w st => by first | exact r_eql rfl rfl (decide_eq_true (by omega)) | exact r_eql rfl rfl (decide_eq_false (by omega)) | exact r_eql rfl rfl rfl) rfl rfl rfl ?_
        -- R9.13 48 := laws.go:250 pick
        refine QL.v (fun w st => by first | exact r_pickT (v := .bool _) rfl rfl | exact r_pickF (v := .bool _) rfl rfl) rfl rfl rfl ?_
        -- R9.14 49 := laws.go:250 move
        refine QL.v (fun w st => by first | exact r_move (v := .bool _) rfl | exact r_move rfl) rfl rfl rfl ?_
        -- R9.15 50 := laws.go:250 move
        refine QL.v (fun w st => by first | exact r_move (v := .bool _) rfl | exact r_move rfl) rfl rfl rfl ?_
        -- R9.16 51 := laws.go:250 unOp
        refine QL.v (fun w st => by first | exact r_notT rfl | exact r_notF rfl | exact r_not rfl) rfl rfl rfl ?_
        -- R9.17 52 := laws.go:250 pick
        refine QL.v (fun w st => by first | exact r_pickT (v := .bool _) rfl rfl | exact r_pickF (v := .bool _) rfl rfl) rfl rfl rfl ?_
        -- R9.18 53 := laws.go:250 move
        refine QL.v (fun w st => by first | exact r_move (v := .bool _) rfl | exact r_move rfl) rfl rfl rfl ?_
        -- R9.19 54 := laws.go:250 fieldAddr
        refine QL.v (fun w st => by exact r_field ty_fld33_1 rfl) rfl rfl rfl ?_
        -- R9.20 55 := laws.go:250 load
        refine QL.v (fun w st => by exact r_load1 ty_one2 rfl (by first | assumption | exact st.c0 (by first | decide | omega) | exact st.c1 (by first | decide | omega) | exact st.c2 (by first | decide | omega) | exact st.c3 (by first | decide | omega) | exact st.c4 (by first | decide | omega) | exact st.c5 (by first | decide | omega) | exact st.c6 (by first | decide | omega) | exact st.c7 (by first | decide | omega) | exact st.c8 (by first | decide | omega))) rfl rfl rfl ?_
        -- R9.21 56 := laws.go:250 binOp
        refine QL.v (fun w st => by first | exact r_lss rfl rfl (decide_eq_true (by omega)) | exact r_lss rfl rfl (decide_eq_false (by omega)) | exact r_lss rfl rfl rfl) rfl rfl rfl ?_
        -- R9.22 57 := laws.go:250 move
        refine QL.v (fun w st => by first | exact r_move (v := .bool _) rfl | exact r_move rfl) rfl rfl rfl ?_
        -- R9.23 58 := laws.go:250 fieldAddr
        refine QL.v (fun w st => by exact r_field ty_fld33_1 rfl) rfl rfl rfl ?_
        -- R9.24 59 := laws.go:250 load
        refine QL.v (fun w st => by exact r_load1 ty_one2 rfl (by first | assumption | exact st.c0 (by first | decide | omega) | exact st.c1 (by first | decide | omega) | exact st.c2 (by first | decide | omega) | exact st.c3 (by first | decide | omega) | exact st.c4 (by first | decide | omega) | exact st.c5 (by first | decide | omega) | exact st.c6 (by first | decide | omega) | exact st.c7 (by first | decide | omega) | exact st.c8 (by first | decide | omega))) rfl rfl rfl ?_
        -- R9.25 60 := laws.go:250 move
        refine QL.v (fun w st => by first | exact r_move (v := .pointer _) rfl | exact r_move rfl) rfl rfl rfl ?_
        -- R9.26 61 := laws.go:250 nilCheck
        refine QL.v (fun w st => by exact r_nilCheck rfl) rfl rfl rfl ?_
        -- R9.27 62 := laws.go:250 fieldAddr
        refine QL.v (fun w st => by exact r_field ty_fld42_0 rfl) rfl rfl rfl ?_
        -- R9.28 63 := laws.go:250 load
        refine QL.v (fun w st => by exact r_load1 ty_one40 rfl (by first | assumption | exact st.c0 (by first | decide | omega) | exact st.c1 (by first | decide | omega) | exact st.c2 (by first | decide | omega) | exact st.c3 (by first | decide | omega) | exact st.c4 (by first | decide | omega) | exact st.c5 (by first | decide | omega) | exact st.c6 (by first | decide | omega) | exact st.c7 (by first | decide | omega) | exact st.c8 (by first | decide | omega))) rfl rfl rfl ?_
        -- R9.29 64 := laws.go:251 call
        refine QL.call (val := .int .i64 (P.sec : Nat)) (fun w st => r_call ty_call19 rfl) rfl rfl rfl (fun w st => (sectors_ok (st_inF [_, _, _] st)).mono fun e w' he => by obtain ⟨v, rfl, rfl, st⟩ := he; exact ⟨_, rfl, by rw [h1.sec], st_outF [_, _, _] st⟩) ?_
        -- R9.30 65 := laws.go:250 binOp
        refine QL.v (fun w st => by first | exact r_geq rfl rfl (decide_eq_true (by omega)) | exact r_geq rfl rfl (decide_eq_false (by omega)) | exact r_geq rfl rfl rfl) rfl rfl rfl ?_
        -- R9.31 66 := laws.go:250 pick
        refine QL.v (fun w st => by first | exact r_pickT (v := .bool _) rfl rfl | exact r_pickF (v := .bool _) rfl rfl) rfl rfl rfl ?_
        -- R9.32 67 := laws.go:250 move
        refine QL.v (fun w st => by first | exact r_move (v := .bool _) rfl | exact r_move rfl) rfl rfl rfl ?_
        -- R9.33 68 := laws.go:250 move
        refine QL.no rfl rfl ?_
        -- R9.34 69 := laws.go:250 move
        refine QL.no rfl rfl ?_
        -- R9.35 70 := laws.go:250 nilCheck
        refine QL.no rfl rfl ?_
        -- R9.36 71 := laws.go:250 fieldAddr
        refine QL.no rfl rfl ?_
        -- R9.37 72 := laws.go:250 load
        refine QL.no rfl rfl ?_
        -- R9.38 73 := laws.go:251 call
        refine QL.no rfl rfl ?_
        -- R9.39 74 := laws.go:250 fieldAddr
        refine QL.no rfl rfl ?_
        -- R9.40 75 := laws.go:250 load
        refine QL.no rfl rfl ?_
        -- R9.41 76 := laws.go:250 binOp
        refine QL.no rfl rfl ?_
        -- R9.42 77 := laws.go:250 binOp
        refine QL.no rfl rfl ?_
        -- R9.43 78 := laws.go:250 pick
        refine QL.v (fun w st => by first | exact r_pickT (v := .bool _) rfl rfl | exact r_pickF (v := .bool _) rfl rfl) rfl rfl rfl ?_
        -- R9.44 79 := laws.go:250 pick
        refine QL.v (fun w st => by first | exact r_pickT (v := .bool _) rfl rfl | exact r_pickF (v := .bool _) rfl rfl) rfl rfl rfl ?_
        -- R9.45 9 := laws.go:250 assign
        refine QL.v (fun w st => by first | exact r_assign (v := .bool _) rfl | exact r_assign rfl) rfl rfl rfl ?_
        refine QL.wl hKq fun w st => ?_
        refine WL.join hKC (fun _ _ h => h) true ⟨fun _ => step_beyond hk hn0 hm0 hdn (.inr (.inl hs1)), st⟩ (by repeat (first | exact sub_nil _ | refine sub_cons rfl rfl ?_))
      by_cases hs3 : (P.sec : Int) - (op i).sct < ((op i).dat.bs.length / 512 : Nat)
      · skip
        -- region 9 (draws)
        refine WC.quietS st ty_mixed (by kernel_rfl) fun Kq hKq => ?_
        -- R9.0 35 := laws.go:250 fieldAddr
        refine QL.v (fun w st => by exact r_field ty_fld33_0 rfl) rfl rfl rfl ?_
        -- R9.1 36 := laws.go:250 load
        refine QL.v (fun w st => by exact r_load1 ty_one28 rfl (by first | assumption | exact st.c0 (by first | decide | omega) | exact st.c1 (by first | decide | omega) | exact st.c2 (by first | decide | omega) | exact st.c3 (by first | decide | omega) | exact st.c4 (by first | decide | omega) | exact st.c5 (by first | decide | omega) | exact st.c6 (by first | decide | omega) | exact st.c7 (by first | decide | omega) | exact st.c8 (by first | decide | omega))) rfl rfl rfl ?_
        -- R9.2 37 := laws.go:250 binOp
        refine QL.v (fun w st => by first | exact r_eql rfl rfl (decide_eq_true (by omega)) | exact r_eql rfl rfl (decide_eq_false (by omega)) | exact r_eql rfl rfl rfl) rfl rfl rfl ?_
        -- R9.3 38 := laws.go:250 move
        refine QL.v (fun w st => by first | exact r_move (v := .bool _) rfl | exact r_move rfl) rfl rfl rfl ?_
        -- R9.4 39 := laws.go:250 move
        refine QL.v (fun w st => by first | exact r_move (v := .int _ _) rfl | exact r_move rfl) rfl rfl rfl ?_
        -- R9.5 40 := laws.go:250 binOp
        refine QL.v (fun w st => by first | exact r_gtr rfl rfl (decide_eq_true (by omega)) | exact r_gtr rfl rfl (decide_eq_false (by omega)) | exact r_gtr rfl rfl rfl) rfl rfl rfl ?_
        -- R9.6 41 := laws.go:250 pick
        refine QL.v (fun w st => by first | exact r_pickT (v := .bool _) rfl rfl | exact r_pickF (v := .bool _) rfl rfl) rfl rfl rfl ?_
        -- R9.7 42 := laws.go:250 move
        refine QL.v (fun w st => by first | exact r_move (v := .bool _) rfl | exact r_move rfl) rfl rfl rfl ?_
        -- R9.8 43 := laws.go:250 fieldAddr
        refine QL.v (fun w st => by exact r_field ty_fld33_4 rfl) rfl rfl rfl ?_
        -- R9.9 44 := laws.go:250 load
        refine QL.v (fun w st => by exact r_load1 ty_one29 rfl (by first | assumption | exact st.c0 (by first | decide | omega) | exact st.c1 (by first | decide | omega) | exact st.c2 (by first | decide | omega) | exact st.c3 (by first | decide | omega) | exact st.c4 (by first | decide | omega) | exact st.c5 (by first | decide | omega) | exact st.c6 (by first | decide | omega) | exact st.c7 (by first | decide | omega) | exact st.c8 (by first | decide | omega))) rfl rfl rfl ?_
        -- R9.10 45 := laws.go:250 call
        refine QL.v (fun w st => by exact r_len ty_usl29 rfl) rfl rfl rfl ?_
        -- R9.11 46 := laws.go:250 binOp
        refine QL.v (fun w st => by exact r_rem (r := (((op i).dat.bs.length % 512 : Nat) : Int)) rfl rfl (by omega) rfl) rfl rfl rfl ?_
        -- R9.12 47 := laws.go:250 binOp
        refine QL.v (fun w st => by first | exact r_eql rfl rfl (decide_eq_true (by omega)) | exact r_eql rfl rfl (decide_eq_false (by omega)) | exact r_eql rfl rfl rfl) rfl rfl rfl ?_
        -- R9.13 48 := laws.go:250 pick
        refine QL.v (fun w st => by first | exact r_pickT (v := .bool _) rfl rfl | exact r_pickF (v := .bool _) rfl rfl) rfl rfl rfl ?_
        -- R9.14 49 := laws.go:250 move
        refine QL.v (fun w st => by first | exact r_move (v := .bool _) rfl | exact r_move rfl) rfl rfl rfl ?_
        -- R9.15 50 := laws.go:250 move
        refine QL.v (fun w st => by first | exact r_move (v := .bool _) rfl | exact r_move rfl) rfl rfl rfl ?_
        -- R9.16 51 := laws.go:250 unOp
        refine QL.v (fun w st => by first | exact r_notT rfl | exact r_notF rfl | exact r_not rfl) rfl rfl rfl ?_
        -- R9.17 52 := laws.go:250 pick
        refine QL.v (fun w st => by first | exact r_pickT (v := .bool _) rfl rfl | exact r_pickF (v := .bool _) rfl rfl) rfl rfl rfl ?_
        -- R9.18 53 := laws.go:250 move
        refine QL.v (fun w st => by first | exact r_move (v := .bool _) rfl | exact r_move rfl) rfl rfl rfl ?_
        -- R9.19 54 := laws.go:250 fieldAddr
        refine QL.v (fun w st => by exact r_field ty_fld33_1 rfl) rfl rfl rfl ?_
        -- R9.20 55 := laws.go:250 load
        refine QL.v (fun w st => by exact r_load1 ty_one2 rfl (by first | assumption | exact st.c0 (by first | decide | omega) | exact st.c1 (by first | decide | omega) | exact st.c2 (by first | decide | omega) | exact st.c3 (by first | decide | omega) | exact st.c4 (by first | decide | omega) | exact st.c5 (by first | decide | omega) | exact st.c6 (by first | decide | omega) | exact st.c7 (by first | decide | omega) | exact st.c8 (by first | decide | omega))) rfl rfl rfl ?_
        -- R9.21 56 := laws.go:250 binOp
        refine QL.v (fun w st => by first | exact r_lss rfl rfl (decide_eq_true (by omega)) | exact r_lss rfl rfl (decide_eq_false (by omega)) | exact r_lss rfl rfl rfl) rfl rfl rfl ?_
        -- R9.22 57 := laws.go:250 move
        refine QL.v (fun w st => by first | exact r_move (v := .bool _) rfl | exact r_move rfl) rfl rfl rfl ?_
        -- R9.23 58 := laws.go:250 fieldAddr
        refine QL.v (fun w st => by exact r_field ty_fld33_1 rfl) rfl rfl rfl ?_
        -- R9.24 59 := laws.go:250 load
        refine QL.v (fun w st => by exact r_load1 ty_one2 rfl (by first | assumption | exact st.c0 (by first | decide | omega) | exact st.c1 (by first | decide | omega) | exact st.c2 (by first | decide | omega) | exact st.c3 (by first | decide | omega) | exact st.c4 (by first | decide | omega) | exact st.c5 (by first | decide | omega) | exact st.c6 (by first | decide | omega) | exact st.c7 (by first | decide | omega) | exact st.c8 (by first | decide | omega))) rfl rfl rfl ?_
        -- R9.25 60 := laws.go:250 move
        refine QL.v (fun w st => by first | exact r_move (v := .pointer _) rfl | exact r_move rfl) rfl rfl rfl ?_
        -- R9.26 61 := laws.go:250 nilCheck
        refine QL.v (fun w st => by exact r_nilCheck rfl) rfl rfl rfl ?_
        -- R9.27 62 := laws.go:250 fieldAddr
        refine QL.v (fun w st => by exact r_field ty_fld42_0 rfl) rfl rfl rfl ?_
        -- R9.28 63 := laws.go:250 load
        refine QL.v (fun w st => by exact r_load1 ty_one40 rfl (by first | assumption | exact st.c0 (by first | decide | omega) | exact st.c1 (by first | decide | omega) | exact st.c2 (by first | decide | omega) | exact st.c3 (by first | decide | omega) | exact st.c4 (by first | decide | omega) | exact st.c5 (by first | decide | omega) | exact st.c6 (by first | decide | omega) | exact st.c7 (by first | decide | omega) | exact st.c8 (by first | decide | omega))) rfl rfl rfl ?_
        -- R9.29 64 := laws.go:251 call
        refine QL.call (val := .int .i64 (P.sec : Nat)) (fun w st => r_call ty_call19 rfl) rfl rfl rfl (fun w st => (sectors_ok (st_inF [_, _, _] st)).mono fun e w' he => by obtain ⟨v, rfl, rfl, st⟩ := he; exact ⟨_, rfl, by rw [h1.sec], st_outF [_, _, _] st⟩) ?_
        -- R9.30 65 := laws.go:250 binOp
        refine QL.v (fun w st => by first | exact r_geq rfl rfl (decide_eq_true (by omega)) | exact r_geq rfl rfl (decide_eq_false (by omega)) | exact r_geq rfl rfl rfl) rfl rfl rfl ?_
        -- R9.31 66 := laws.go:250 pick
        refine QL.v (fun w st => by first | exact r_pickT (v := .bool _) rfl rfl | exact r_pickF (v := .bool _) rfl rfl) rfl rfl rfl ?_
        -- R9.32 67 := laws.go:250 move
        refine QL.v (fun w st => by first | exact r_move (v := .bool _) rfl | exact r_move rfl) rfl rfl rfl ?_
        -- R9.33 68 := laws.go:250 move
        refine QL.v (fun w st => by first | exact r_move (v := .int _ _) rfl | exact r_move rfl) rfl rfl rfl ?_
        -- R9.34 69 := laws.go:250 move
        refine QL.v (fun w st => by first | exact r_move (v := .pointer _) rfl | exact r_move rfl) rfl rfl rfl ?_
        -- R9.35 70 := laws.go:250 nilCheck
        refine QL.v (fun w st => by exact r_nilCheck rfl) rfl rfl rfl ?_
        -- R9.36 71 := laws.go:250 fieldAddr
        refine QL.v (fun w st => by exact r_field ty_fld42_0 rfl) rfl rfl rfl ?_
        -- R9.37 72 := laws.go:250 load
        refine QL.v (fun w st => by exact r_load1 ty_one40 rfl (by first | assumption | exact st.c0 (by first | decide | omega) | exact st.c1 (by first | decide | omega) | exact st.c2 (by first | decide | omega) | exact st.c3 (by first | decide | omega) | exact st.c4 (by first | decide | omega) | exact st.c5 (by first | decide | omega) | exact st.c6 (by first | decide | omega) | exact st.c7 (by first | decide | omega) | exact st.c8 (by first | decide | omega))) rfl rfl rfl ?_
        -- R9.38 73 := laws.go:251 call
        refine QL.call (val := .int .i64 (P.sec : Nat)) (fun w st => r_call ty_call19 rfl) rfl rfl rfl (fun w st => (sectors_ok (st_inF [_, _, _] st)).mono fun e w' he => by obtain ⟨v, rfl, rfl, st⟩ := he; exact ⟨_, rfl, by rw [h1.sec], st_outF [_, _, _] st⟩) ?_
        -- R9.39 74 := laws.go:250 fieldAddr
        refine QL.v (fun w st => by exact r_field ty_fld33_1 rfl) rfl rfl rfl ?_
        -- R9.40 75 := laws.go:250 load
        refine QL.v (fun w st => by exact r_load1 ty_one2 rfl (by first | assumption | exact st.c0 (by first | decide | omega) | exact st.c1 (by first | decide | omega) | exact st.c2 (by first | decide | omega) | exact st.c3 (by first | decide | omega) | exact st.c4 (by first | decide | omega) | exact st.c5 (by first | decide | omega) | exact st.c6 (by first | decide | omega) | exact st.c7 (by first | decide | omega) | exact st.c8 (by first | decide | omega))) rfl rfl rfl ?_
        -- R9.41 76 := laws.go:250 binOp
        refine QL.v (fun w st => by first | exact r_sub rfl rfl (wi64 (by omega) (by omega)) | exact r_sub rfl rfl rfl) rfl rfl rfl ?_
        -- R9.42 77 := laws.go:250 binOp
        refine QL.v (fun w st => by first | exact r_gtr rfl rfl (decide_eq_true (by omega)) | exact r_gtr rfl rfl (decide_eq_false (by omega)) | exact r_gtr rfl rfl rfl) rfl rfl rfl ?_
        -- R9.43 78 := laws.go:250 pick
        refine QL.v (fun w st => by first | exact r_pickT (v := .bool _) rfl rfl | exact r_pickF (v := .bool _) rfl rfl) rfl rfl rfl ?_
        -- R9.44 79 := laws.go:250 pick
        refine QL.v (fun w st => by first | exact r_pickT (v := .bool _) rfl rfl | exact r_pickF (v := .bool _) rfl rfl) rfl rfl rfl ?_
        -- R9.45 9 := laws.go:250 assign
        refine QL.v (fun w st => by first | exact r_assign (v := .bool _) rfl | exact r_assign rfl) rfl rfl rfl ?_
        refine QL.wl hKq fun w st => ?_
        refine WL.join hKC (fun _ _ h => h) true ⟨fun _ => step_beyond hk hn0 hm0 hdn (.inr (.inr hs3)), st⟩ (by repeat (first | exact sub_nil _ | refine sub_cons rfl rfl ?_))
      · skip
        -- region 9 (draws)
        refine WC.quietS st ty_mixed (by kernel_rfl) fun Kq hKq => ?_
        -- R9.0 35 := laws.go:250 fieldAddr
        refine QL.v (fun w st => by exact r_field ty_fld33_0 rfl) rfl rfl rfl ?_
        -- R9.1 36 := laws.go:250 load
        refine QL.v (fun w st => by exact r_load1 ty_one28 rfl (by first | assumption | exact st.c0 (by first | decide | omega) | exact st.c1 (by first | decide | omega) | exact st.c2 (by first | decide | omega) | exact st.c3 (by first | decide | omega) | exact st.c4 (by first | decide | omega) | exact st.c5 (by first | decide | omega) | exact st.c6 (by first | decide | omega) | exact st.c7 (by first | decide | omega) | exact st.c8 (by first | decide | omega))) rfl rfl rfl ?_
        -- R9.2 37 := laws.go:250 binOp
        refine QL.v (fun w st => by first | exact r_eql rfl rfl (decide_eq_true (by omega)) | exact r_eql rfl rfl (decide_eq_false (by omega)) | exact r_eql rfl rfl rfl) rfl rfl rfl ?_
        -- R9.3 38 := laws.go:250 move
        refine QL.v (fun w st => by first | exact r_move (v := .bool _) rfl | exact r_move rfl) rfl rfl rfl ?_
        -- R9.4 39 := laws.go:250 move
        refine QL.v (fun w st => by first | exact r_move (v := .int _ _) rfl | exact r_move rfl) rfl rfl rfl ?_
        -- R9.5 40 := laws.go:250 binOp
        refine QL.v (fun w st => by first | exact r_gtr rfl rfl (decide_eq_true (by omega)) | exact r_gtr rfl rfl (decide_eq_false (by omega)) | exact r_gtr rfl rfl rfl) rfl rfl rfl ?_
        -- R9.6 41 := laws.go:250 pick
        refine QL.v (fun w st => by first | exact r_pickT (v := .bool _) rfl rfl | exact r_pickF (v := .bool _) rfl rfl) rfl rfl rfl ?_
        -- R9.7 42 := laws.go:250 move
        refine QL.v (fun w st => by first | exact r_move (v := .bool _) rfl | exact r_move rfl) rfl rfl rfl ?_
        -- R9.8 43 := laws.go:250 fieldAddr
        refine QL.v (fun w st => by exact r_field ty_fld33_4 rfl) rfl rfl rfl ?_
        -- R9.9 44 := laws.go:250 load
        refine QL.v (fun w st => by exact r_load1 ty_one29 rfl (by first | assumption | exact st.c0 (by first | decide | omega) | exact st.c1 (by first | decide | omega) | exact st.c2 (by first | decide | omega) | exact st.c3 (by first | decide | omega) | exact st.c4 (by first | decide | omega) | exact st.c5 (by first | decide | omega) | exact st.c6 (by first | decide | omega) | exact st.c7 (by first | decide | omega) | exact st.c8 (by first | decide | omega))) rfl rfl rfl ?_
        -- R9.10 45 := laws.go:250 call
        refine QL.v (fun w st => by exact r_len ty_usl29 rfl) rfl rfl rfl ?_
        -- R9.11 46 := laws.go:250 binOp
        refine QL.v (fun w st => by exact r_rem (r := (((op i).dat.bs.length % 512 : Nat) : Int)) rfl rfl (by omega) rfl) rfl rfl rfl ?_
        -- R9.12 47 := laws.go:250 binOp
        refine QL.v (fun w st => by first | exact r_eql rfl rfl (decide_eq_true (by omega)) | exact r_eql rfl rfl (decide_eq_false (by omega)) | exact r_eql rfl rfl rfl) rfl rfl rfl ?_
        -- R9.13 48 := laws.go:250 pick
        refine QL.v (fun w st => by first | exact r_pickT (v := .bool _) rfl rfl | exact r_pickF (v := .bool _) rfl rfl) rfl rfl rfl ?_
        -- R9.14 49 := laws.go:250 move
        refine QL.v (fun w st => by first | exact r_move (v := .bool _) rfl | exact r_move rfl) rfl rfl rfl ?_
        -- R9.15 50 := laws.go:250 move
        refine QL.v (fun w st => by first | exact r_move (v := .bool _) rfl | exact r_move rfl) rfl rfl rfl ?_
        -- R9.16 51 := laws.go:250 unOp
        refine QL.v (fun w st => by first | exact r_notT rfl | exact r_notF rfl | exact r_not rfl) rfl rfl rfl ?_
        -- R9.17 52 := laws.go:250 pick
        refine QL.v (fun w st => by first | exact r_pickT (v := .bool _) rfl rfl | exact r_pickF (v := .bool _) rfl rfl) rfl rfl rfl ?_
        -- R9.18 53 := laws.go:250 move
        refine QL.v (fun w st => by first | exact r_move (v := .bool _) rfl | exact r_move rfl) rfl rfl rfl ?_
        -- R9.19 54 := laws.go:250 fieldAddr
        refine QL.v (fun w st => by exact r_field ty_fld33_1 rfl) rfl rfl rfl ?_
        -- R9.20 55 := laws.go:250 load
        refine QL.v (fun w st => by exact r_load1 ty_one2 rfl (by first | assumption | exact st.c0 (by first | decide | omega) | exact st.c1 (by first | decide | omega) | exact st.c2 (by first | decide | omega) | exact st.c3 (by first | decide | omega) | exact st.c4 (by first | decide | omega) | exact st.c5 (by first | decide | omega) | exact st.c6 (by first | decide | omega) | exact st.c7 (by first | decide | omega) | exact st.c8 (by first | decide | omega))) rfl rfl rfl ?_
        -- R9.21 56 := laws.go:250 binOp
        refine QL.v (fun w st => by first | exact r_lss rfl rfl (decide_eq_true (by omega)) | exact r_lss rfl rfl (decide_eq_false (by omega)) | exact r_lss rfl rfl rfl) rfl rfl rfl ?_
        -- R9.22 57 := laws.go:250 move
        refine QL.v (fun w st => by first | exact r_move (v := .bool _) rfl | exact r_move rfl) rfl rfl rfl ?_
        -- R9.23 58 := laws.go:250 fieldAddr
        refine QL.v (fun w st => by exact r_field ty_fld33_1 rfl) rfl rfl rfl ?_
        -- R9.24 59 := laws.go:250 load
        refine QL.v (fun w st => by exact r_load1 ty_one2 rfl (by first | assumption | exact st.c0 (by first | decide | omega) | exact st.c1 (by first | decide | omega) | exact st.c2 (by first | decide | omega) | exact st.c3 (by first | decide | omega) | exact st.c4 (by first | decide | omega) | exact st.c5 (by first | decide | omega) | exact st.c6 (by first | decide | omega) | exact st.c7 (by first | decide | omega) | exact st.c8 (by first | decide | omega))) rfl rfl rfl ?_
        -- R9.25 60 := laws.go:250 move
        refine QL.v (fun w st => by first | exact r_move (v := .pointer _) rfl | exact r_move rfl) rfl rfl rfl ?_
        -- R9.26 61 := laws.go:250 nilCheck
        refine QL.v (fun w st => by exact r_nilCheck rfl) rfl rfl rfl ?_
        -- R9.27 62 := laws.go:250 fieldAddr
        refine QL.v (fun w st => by exact r_field ty_fld42_0 rfl) rfl rfl rfl ?_
        -- R9.28 63 := laws.go:250 load
        refine QL.v (fun w st => by exact r_load1 ty_one40 rfl (by first | assumption | exact st.c0 (by first | decide | omega) | exact st.c1 (by first | decide | omega) | exact st.c2 (by first | decide | omega) | exact st.c3 (by first | decide | omega) | exact st.c4 (by first | decide | omega) | exact st.c5 (by first | decide | omega) | exact st.c6 (by first | decide | omega) | exact st.c7 (by first | decide | omega) | exact st.c8 (by first | decide | omega))) rfl rfl rfl ?_
        -- R9.29 64 := laws.go:251 call
        refine QL.call (val := .int .i64 (P.sec : Nat)) (fun w st => r_call ty_call19 rfl) rfl rfl rfl (fun w st => (sectors_ok (st_inF [_, _, _] st)).mono fun e w' he => by obtain ⟨v, rfl, rfl, st⟩ := he; exact ⟨_, rfl, by rw [h1.sec], st_outF [_, _, _] st⟩) ?_
        -- R9.30 65 := laws.go:250 binOp
        refine QL.v (fun w st => by first | exact r_geq rfl rfl (decide_eq_true (by omega)) | exact r_geq rfl rfl (decide_eq_false (by omega)) | exact r_geq rfl rfl rfl) rfl rfl rfl ?_
        -- R9.31 66 := laws.go:250 pick
        refine QL.v (fun w st => by first | exact r_pickT (v := .bool _) rfl rfl | exact r_pickF (v := .bool _) rfl rfl) rfl rfl rfl ?_
        -- R9.32 67 := laws.go:250 move
        refine QL.v (fun w st => by first | exact r_move (v := .bool _) rfl | exact r_move rfl) rfl rfl rfl ?_
        -- R9.33 68 := laws.go:250 move
        refine QL.v (fun w st => by first | exact r_move (v := .int _ _) rfl | exact r_move rfl) rfl rfl rfl ?_
        -- R9.34 69 := laws.go:250 move
        refine QL.v (fun w st => by first | exact r_move (v := .pointer _) rfl | exact r_move rfl) rfl rfl rfl ?_
        -- R9.35 70 := laws.go:250 nilCheck
        refine QL.v (fun w st => by exact r_nilCheck rfl) rfl rfl rfl ?_
        -- R9.36 71 := laws.go:250 fieldAddr
        refine QL.v (fun w st => by exact r_field ty_fld42_0 rfl) rfl rfl rfl ?_
        -- R9.37 72 := laws.go:250 load
        refine QL.v (fun w st => by exact r_load1 ty_one40 rfl (by first | assumption | exact st.c0 (by first | decide | omega) | exact st.c1 (by first | decide | omega) | exact st.c2 (by first | decide | omega) | exact st.c3 (by first | decide | omega) | exact st.c4 (by first | decide | omega) | exact st.c5 (by first | decide | omega) | exact st.c6 (by first | decide | omega) | exact st.c7 (by first | decide | omega) | exact st.c8 (by first | decide | omega))) rfl rfl rfl ?_
        -- R9.38 73 := laws.go:251 call
        refine QL.call (val := .int .i64 (P.sec : Nat)) (fun w st => r_call ty_call19 rfl) rfl rfl rfl (fun w st => (sectors_ok (st_inF [_, _, _] st)).mono fun e w' he => by obtain ⟨v, rfl, rfl, st⟩ := he; exact ⟨_, rfl, by rw [h1.sec], st_outF [_, _, _] st⟩) ?_
        -- R9.39 74 := laws.go:250 fieldAddr
        refine QL.v (fun w st => by exact r_field ty_fld33_1 rfl) rfl rfl rfl ?_
        -- R9.40 75 := laws.go:250 load
        refine QL.v (fun w st => by exact r_load1 ty_one2 rfl (by first | assumption | exact st.c0 (by first | decide | omega) | exact st.c1 (by first | decide | omega) | exact st.c2 (by first | decide | omega) | exact st.c3 (by first | decide | omega) | exact st.c4 (by first | decide | omega) | exact st.c5 (by first | decide | omega) | exact st.c6 (by first | decide | omega) | exact st.c7 (by first | decide | omega) | exact st.c8 (by first | decide | omega))) rfl rfl rfl ?_
        -- R9.41 76 := laws.go:250 binOp
        refine QL.v (fun w st => by first | exact r_sub rfl rfl (wi64 (by omega) (by omega)) | exact r_sub rfl rfl rfl) rfl rfl rfl ?_
        -- R9.42 77 := laws.go:250 binOp
        refine QL.v (fun w st => by first | exact r_gtr rfl rfl (decide_eq_true (by omega)) | exact r_gtr rfl rfl (decide_eq_false (by omega)) | exact r_gtr rfl rfl rfl) rfl rfl rfl ?_
        -- R9.43 78 := laws.go:250 pick
        refine QL.v (fun w st => by first | exact r_pickT (v := .bool _) rfl rfl | exact r_pickF (v := .bool _) rfl rfl) rfl rfl rfl ?_
        -- R9.44 79 := laws.go:250 pick
        refine QL.v (fun w st => by first | exact r_pickT (v := .bool _) rfl rfl | exact r_pickF (v := .bool _) rfl rfl) rfl rfl rfl ?_
        -- R9.45 9 := laws.go:250 assign
        refine QL.v (fun w st => by first | exact r_assign (v := .bool _) rfl | exact r_assign rfl) rfl rfl rfl ?_
        refine QL.wl hKq fun w st => ?_
        refine WL.join hKC (fun _ _ h => h) false ⟨(fun h => by cases h), st⟩ (by repeat (first | exact sub_nil _ | refine sub_cons rfl rfl ?_))
    rintro z w ⟨hz, st⟩
    rcases z with _ | _
    · skip
      by_cases hc : (stepP P (op i)).2 = 0
      · skip
        refine WC.seq fun K858 hK858 => ?_
        -- region 10
        refine WC.region ?_
        -- R10.0 80 := laws.go:252 move
        refine WL.v (by first | exact r_move (v := .pointer _) rfl | exact r_move rfl) rfl rfl rfl ?_
        -- R10.1 81 := laws.go:252 load
        refine WL.v (by exact r_loadL (vs := [_, _, _, _, _, _, _, _, _]) ty_agg33 rfl ⟨(by first | assumption | exact st.c0 (by first | decide | omega) | exact st.c1 (by first | decide | omega) | exact st.c2 (by first | decide | omega) | exact st.c3 (by first | decide | omega) | exact st.c4 (by first | decide | omega) | exact st.c5 (by first | decide | omega) | exact st.c6 (by first | decide | omega) | exact st.c7 (by first | decide | omega) | exact st.c8 (by first | decide | omega)), (by first | assumption | exact st.c0 (by first | decide | omega) | exact st.c1 (by first | decide | omega) | exact st.c2 (by first | decide | omega) | exact st.c3 (by first | decide | omega) | exact st.c4 (by first | decide | omega) | exact st.c5 (by first | decide | omega) | exact st.c6 (by first | decide | omega) | exact st.c7 (by first | decide | omega) | exact st.c8 (by first | decide | omega)), (by first | assumption | exact st.c0 (by first | decide | omega) | exact st.c1 (by first | decide | omega) | exact st.c2 (by first | decide | omega) | exact st.c3 (by first | decide | omega) | exact st.c4 (by first | decide | omega) | exact st.c5 (by first | decide | omega) | exact st.c6 (by first | decide | omega) | exact st.c7 (by first | decide | omega) | exact st.c8 (by first | decide | omega)), (by first | assumption | exact st.c0 (by first | decide | omega) | exact st.c1 (by first | decide | omega) | exact st.c2 (by first | decide | omega) | exact st.c3 (by first | decide | omega) | exact st.c4 (by first | decide | omega) | exact st.c5 (by first | decide | omega) | exact st.c6 (by first | decide | omega) | exact st.c7 (by first | decide | omega) | exact st.c8 (by first | decide | omega)), (by first | assumption | exact st.c0 (by first | decide | omega) | exact st.c1 (by first | decide | omega) | exact st.c2 (by first | decide | omega) | exact st.c3 (by first | decide | omega) | exact st.c4 (by first | decide | omega) | exact st.c5 (by first | decide | omega) | exact st.c6 (by first | decide | omega) | exact st.c7 (by first | decide | omega) | exact st.c8 (by first | decide | omega)), (by first | assumption | exact st.c0 (by first | decide | omega) | exact st.c1 (by first | decide | omega) | exact st.c2 (by first | decide | omega) | exact st.c3 (by first | decide | omega) | exact st.c4 (by first | decide | omega) | exact st.c5 (by first | decide | omega) | exact st.c6 (by first | decide | omega) | exact st.c7 (by first | decide | omega) | exact st.c8 (by first | decide | omega)), (by first | assumption | exact st.c0 (by first | decide | omega) | exact st.c1 (by first | decide | omega) | exact st.c2 (by first | decide | omega) | exact st.c3 (by first | decide | omega) | exact st.c4 (by first | decide | omega) | exact st.c5 (by first | decide | omega) | exact st.c6 (by first | decide | omega) | exact st.c7 (by first | decide | omega) | exact st.c8 (by first | decide | omega)), (by first | assumption | exact st.c0 (by first | decide | omega) | exact st.c1 (by first | decide | omega) | exact st.c2 (by first | decide | omega) | exact st.c3 (by first | decide | omega) | exact st.c4 (by first | decide | omega) | exact st.c5 (by first | decide | omega) | exact st.c6 (by first | decide | omega) | exact st.c7 (by first | decide | omega) | exact st.c8 (by first | decide | omega)), (by first | assumption | exact st.c0 (by first | decide | omega) | exact st.c1 (by first | decide | omega) | exact st.c2 (by first | decide | omega) | exact st.c3 (by first | decide | omega) | exact st.c4 (by first | decide | omega) | exact st.c5 (by first | decide | omega) | exact st.c6 (by first | decide | omega) | exact st.c7 (by first | decide | omega) | exact st.c8 (by first | decide | omega)), trivial⟩) rfl rfl rfl ?_
        -- R10.2 82 := laws.go:252 call
        refine WL.call (r_call ty_call14 rfl) rfl rfl rfl (step_ok (o := op i) hg h1 hok (by omega) (st_inF [_, _, _] st.front1)) ?_
        rintro _ w ⟨D1', dv, l1, h1', rfl, hrv, st⟩
        have hse := hrv.sees (w0 := w0) h1.rdr
        obtain ⟨da, dn, dc, rfl⟩ := rv_sl hrv
        have st := st_l2 st
        -- R10.3 10 := laws.go:252 alloc
        refine WL.alloc (m := 2) st ty_zero37 rfl rfl rfl ?_
        intro b10 w st
        -- R10.4 None := laws.go:252 store
        first | refine WL.storeW (vs := [_, _]) st ty_agg37 rfl rfl rfl rfl rfl rfl ?_ | refine WL.storeL (vs := [_, _]) st ty_agg37 rfl rfl rfl rfl (by first | decide | omega) rfl rfl ?_ | refine WL.storeW (vs := [_, _]) st.front1 ty_agg37 rfl rfl rfl rfl rfl rfl ?_ | refine WL.storeL (vs := [_, _]) st.front1 ty_agg37 rfl rfl rfl rfl (by first | decide | omega) rfl rfl ?_ | refine WL.storeW (vs := [_, _]) st.front2 ty_agg37 rfl rfl rfl rfl rfl rfl ?_ | refine WL.storeL (vs := [_, _]) st.front2 ty_agg37 rfl rfl rfl rfl (by first | decide | omega) rfl rfl ?_ | refine WL.storeW (vs := [_, _]) st.front3 ty_agg37 rfl rfl rfl rfl rfl rfl ?_ | refine WL.storeL (vs := [_, _]) st.front3 ty_agg37 rfl rfl rfl rfl (by first | decide | omega) rfl rfl ?_ | refine WL.storeW (vs := [_, _]) st.front4 ty_agg37 rfl rfl rfl rfl rfl rfl ?_ | refine WL.storeL (vs := [_, _]) st.front4 ty_agg37 rfl rfl rfl rfl (by first | decide | omega) rfl rfl ?_ | refine WL.storeW (vs := [_, _]) st.front5 ty_agg37 rfl rfl rfl rfl rfl rfl ?_ | refine WL.storeL (vs := [_, _]) st.front5 ty_agg37 rfl rfl rfl rfl (by first | decide | omega) rfl rfl ?_ | refine WL.storeW (vs := [_, _]) st.front6 ty_agg37 rfl rfl rfl rfl rfl rfl ?_ | refine WL.storeL (vs := [_, _]) st.front6 ty_agg37 rfl rfl rfl rfl (by first | decide | omega) rfl rfl ?_ | refine WL.storeW (vs := [_, _]) st.front7 ty_agg37 rfl rfl rfl rfl rfl rfl ?_ | refine WL.storeL (vs := [_, _]) st.front7 ty_agg37 rfl rfl rfl rfl (by first | decide | omega) rfl rfl ?_ | refine WL.storeW (vs := [_, _]) st.front8 ty_agg37 rfl rfl rfl rfl rfl rfl ?_ | refine WL.storeL (vs := [_, _]) st.front8 ty_agg37 rfl rfl rfl rfl (by first | decide | omega) rfl rfl ?_
        intro w st
        refine WL.fin hK858 (fun _ _ h => h) ?_
        refine WC.seq fun K859 hK859 => ?_
        refine WC.seq fun K860 hK860 => ?_
        -- region 11
        refine WC.region ?_
        -- R11.0 83 := laws.go:253 move
        refine WL.v (by first | exact r_move (v := .bool _) rfl | exact r_move rfl) rfl rfl rfl ?_
        -- R11.1 84 := laws.go:253 move
        refine WL.v (by first | exact r_move (v := .bool _) rfl | exact r_move rfl) rfl rfl rfl ?_
        -- R11.2 85 := laws.go:253 fieldAddr
        refine WL.no rfl rfl ?_
        -- R11.3 86 := laws.go:253 load
        refine WL.no rfl rfl ?_
        -- R11.4 87 := laws.go:253 binOp
        refine WL.no rfl rfl ?_
        -- R11.5 88 := laws.go:253 pick
        refine WL.v (by first | exact r_pickT (v := .bool _) rfl rfl | exact r_pickF (v := .bool _) rfl rfl) rfl rfl rfl ?_
        refine WL.fin hK860 (fun _ _ h => h) ?_
        refine WC.condF rfl rfl ?_
        refine WC.skipF hK859 (fun _ _ h => h) ?_
        refine WC.seq fun K861 hK861 => ?_
        refine WC.seq fun K862 hK862 => ?_
        -- region 13
        refine WC.region ?_
        -- R13.0 89 := laws.go:256 fieldAddr
        refine WL.v (by exact r_field ty_fld37_0 rfl) rfl rfl rfl ?_
        -- R13.1 90 := laws.go:256 load
        refine WL.v (by exact r_load1 ty_one35 rfl (by first | assumption | exact st.c0 (by first | decide | omega) | exact st.c1 (by first | decide | omega) | exact st.c2 (by first | decide | omega) | exact st.c3 (by first | decide | omega) | exact st.c4 (by first | decide | omega) | exact st.c5 (by first | decide | omega) | exact st.c6 (by first | decide | omega) | exact st.c7 (by first | decide | omega) | exact st.c8 (by first | decide | omega))) rfl rfl rfl ?_
        -- R13.2 91 := laws.go:256 binOp
        refine WL.v (by first | exact r_neq rfl rfl (decide_eq_true (by omega)) | exact r_neq rfl rfl (decide_eq_false (by omega)) | exact r_neq rfl rfl rfl) rfl rfl rfl ?_
        -- R13.3 92 := laws.go:256 move
        refine WL.v (by first | exact r_move (v := .bool _) rfl | exact r_move rfl) rfl rfl rfl ?_
        -- R13.4 93 := laws.go:256 fieldAddr
        refine WL.no rfl rfl ?_
        -- R13.5 94 := laws.go:256 load
        refine WL.no rfl rfl ?_
        -- R13.6 95 := laws.go:256 binOp
        refine WL.no rfl rfl ?_
        -- R13.7 96 := laws.go:256 move
        refine WL.no rfl rfl ?_
        -- R13.8 97 := laws.go:256 move
        refine WL.no rfl rfl ?_
        -- R13.9 98 := laws.go:256 pick
        refine WL.no rfl rfl ?_
        -- R13.10 99 := laws.go:256 pick
        refine WL.v (by first | exact r_pickT (v := .bool _) rfl rfl | exact r_pickF (v := .bool _) rfl rfl) rfl rfl rfl ?_
        refine WL.fin hK862 (fun _ _ h => h) ?_
        refine WC.condF rfl rfl ?_
        refine WC.skipF hK861 (fun _ _ h => h) ?_
        refine WC.seq fun K863 hK863 => ?_
        -- region 14 (draws)
        refine WC.mixS [(0, true), (1, true), (3, true), (2, false), (4, false), (5, true)] st (st_p3 st) ty_mixed (by kernel_rfl) fun w st => ?_
        -- R14.0 100 := laws.go:259 move
        refine ML.v (fun w st => by first | exact r_move (v := .pointer _) rfl | exact r_move rfl) rfl rfl rfl ?_
        -- R14.1 101 := laws.go:259 load
        refine ML.v (fun w st => by exact r_loadL (vs := [_, _, _, _, _, _, _, _, _]) ty_agg33 rfl ⟨(by first | assumption | exact st.c0 (by first | decide | omega) | exact st.c1 (by first | decide | omega) | exact st.c2 (by first | decide | omega) | exact st.c3 (by first | decide | omega) | exact st.c4 (by first | decide | omega) | exact st.c5 (by first | decide | omega) | exact st.c6 (by first | decide | omega) | exact st.c7 (by first | decide | omega) | exact st.c8 (by first | decide | omega)), (by first | assumption | exact st.c0 (by first | decide | omega) | exact st.c1 (by first | decide | omega) | exact st.c2 (by first | decide | omega) | exact st.c3 (by first | decide | omega) | exact st.c4 (by first | decide | omega) | exact st.c5 (by first | decide | omega) | exact st.c6 (by first | decide | omega) | exact st.c7 (by first | decide | omega) | exact st.c8 (by first | decide | omega)), (by first | assumption | exact st.c0 (by first | decide | omega) | exact st.c1 (by first | decide | omega) | exact st.c2 (by first | decide | omega) | exact st.c3 (by first | decide | omega) | exact st.c4 (by first | decide | omega) | exact st.c5 (by first | decide | omega) | exact st.c6 (by first | decide | omega) | exact st.c7 (by first | decide | omega) | exact st.c8 (by first | decide | omega)), (by first | assumption | exact st.c0 (by first | decide | omega) | exact st.c1 (by first | decide | omega) | exact st.c2 (by first | decide | omega) | exact st.c3 (by first | decide | omega) | exact st.c4 (by first | decide | omega) | exact st.c5 (by first | decide | omega) | exact st.c6 (by first | decide | omega) | exact st.c7 (by first | decide | omega) | exact st.c8 (by first | decide | omega)), (by first | assumption | exact st.c0 (by first | decide | omega) | exact st.c1 (by first | decide | omega) | exact st.c2 (by first | decide | omega) | exact st.c3 (by first | decide | omega) | exact st.c4 (by first | decide | omega) | exact st.c5 (by first | decide | omega) | exact st.c6 (by first | decide | omega) | exact st.c7 (by first | decide | omega) | exact st.c8 (by first | decide | omega)), (by first | assumption | exact st.c0 (by first | decide | omega) | exact st.c1 (by first | decide | omega) | exact st.c2 (by first | decide | omega) | exact st.c3 (by first | decide | omega) | exact st.c4 (by first | decide | omega) | exact st.c5 (by first | decide | omega) | exact st.c6 (by first | decide | omega) | exact st.c7 (by first | decide | omega) | exact st.c8 (by first | decide | omega)), (by first | assumption | exact st.c0 (by first | decide | omega) | exact st.c1 (by first | decide | omega) | exact st.c2 (by first | decide | omega) | exact st.c3 (by first | decide | omega) | exact st.c4 (by first | decide | omega) | exact st.c5 (by first | decide | omega) | exact st.c6 (by first | decide | omega) | exact st.c7 (by first | decide | omega) | exact st.c8 (by first | decide | omega)), (by first | assumption | exact st.c0 (by first | decide | omega) | exact st.c1 (by first | decide | omega) | exact st.c2 (by first | decide | omega) | exact st.c3 (by first | decide | omega) | exact st.c4 (by first | decide | omega) | exact st.c5 (by first | decide | omega) | exact st.c6 (by first | decide | omega) | exact st.c7 (by first | decide | omega) | exact st.c8 (by first | decide | omega)), (by first | assumption | exact st.c0 (by first | decide | omega) | exact st.c1 (by first | decide | omega) | exact st.c2 (by first | decide | omega) | exact st.c3 (by first | decide | omega) | exact st.c4 (by first | decide | omega) | exact st.c5 (by first | decide | omega) | exact st.c6 (by first | decide | omega) | exact st.c7 (by first | decide | omega) | exact st.c8 (by first | decide | omega)), trivial⟩) rfl rfl rfl ?_
        -- R14.3 103 := laws.go:259 load
        refine ML.v (fun w st => by exact r_loadL (vs := [_, _]) ty_agg37 rfl ⟨(by first | assumption | exact st.c0 (by first | decide | omega) | exact st.c1 (by first | decide | omega) | exact st.c2 (by first | decide | omega) | exact st.c3 (by first | decide | omega) | exact st.c4 (by first | decide | omega) | exact st.c5 (by first | decide | omega) | exact st.c6 (by first | decide | omega) | exact st.c7 (by first | decide | omega) | exact st.c8 (by first | decide | omega)), (by first | assumption | exact st.c0 (by first | decide | omega) | exact st.c1 (by first | decide | omega) | exact st.c2 (by first | decide | omega) | exact st.c3 (by first | decide | omega) | exact st.c4 (by first | decide | omega) | exact st.c5 (by first | decide | omega) | exact st.c6 (by first | decide | omega) | exact st.c7 (by first | decide | omega) | exact st.c8 (by first | decide | omega)), trivial⟩) rfl rfl rfl ?_
        refine ML.at ?_
        -- R14.2 102 := laws.go:259 call
        refine WL.call (r_call ty_call14 rfl) rfl rfl rfl (step_ok (o := op i) hg h2 hok (by omega) (st_inF [_, _, _, _] (st.perm ((((di_comm.cons _).cons _).cons _).cons _)).front3)) ?_
        rintro _ w ⟨D2', dv2, l2, h2', rfl, hrv2, st⟩
        have hse2 := hrv2.sees (w0 := w0) h2.rdr
        obtain ⟨da2, dn2, dc2, rfl⟩ := rv_sl hrv2
        have st := st_l1 st
        refine ML.nxt (st_p3 st.drop) ?_
        refine ML.at ?_
        -- R14.4 104 := laws.go:259 call
        refine WL.call (r_call ty_call13 rfl) rfl rfl rfl (same_ok rfl hse2 hse (fun x hx => List.mem_cons_of_mem _ (List.mem_cons_of_mem _ (List.mem_cons_of_mem _ (List.mem_cons_of_mem _ (mem_in (List.mem_append_left _ hx)))))) (fun x hx => List.mem_cons_of_mem _ (List.mem_cons_of_mem _ (List.mem_cons_of_mem _ (List.mem_cons_of_mem _ (mem_in (List.mem_append_right _ (mem_in (List.mem_append_left _ hx)))))))) st) ?_
        rintro _ w ⟨r, rfl, hr, st⟩
        obtain rfl := hr rfl
        refine ML.nxt (st_p3 st.drop) ?_
        -- R14.5 105 := laws.go:259 unOp
        refine ML.v (fun w st => by first | exact r_notT rfl | exact r_notF rfl | exact r_not rfl) rfl rfl rfl ?_
        refine ML.wl ?_
        refine WL.fin hK863 (fun _ _ h => h) ?_
        refine WC.condF rfl rfl ?_
        refine WC.skipF hK854 (fun _ _ h => h) ?_
        -- region 16
        refine WC.region ?_
        -- R16.0 106 := laws.go:247 binOp
        refine WL.v (by exact r_add (r := ((i + 1 : Nat) : Int)) rfl rfl ((wi64 (by omega) (by omega)).trans (by omega))) rfl rfl rfl ?_
        -- R16.1 22 := laws.go:247 move
        refine WL.v (by first | exact r_move (v := .int _ _) rfl | exact r_move rfl) rfl rfl rfl ?_
        refine WL.next hK1 (fun _ _ h => h) (D1', D2', (stepP P (op i)).1, i + 1) ⟨h1', h2', by show i + 1 ≤ n; omega, by show (stepP P (op i)).1.wr ≤ 128 * (i + 1); omega, fin2 st⟩ (by show n - (i + 1) < n - i; omega) (by repeat (first | exact sub_nil _ | refine sub_cons rfl rfl ?_))
      by_cases hc3 : (stepP P (op i)).2 = 3
      rotate_left
      · skip
        refine WC.seq fun K864 hK864 => ?_
        -- region 10
        refine WC.region ?_
        -- R10.0 80 := laws.go:252 move
        refine WL.v (by first | exact r_move (v := .pointer _) rfl | exact r_move rfl) rfl rfl rfl ?_
        -- R10.1 81 := laws.go:252 load
        refine WL.v (by exact r_loadL (vs := [_, _, _, _, _, _, _, _, _]) ty_agg33 rfl ⟨(by first | assumption | exact st.c0 (by first | decide | omega) | exact st.c1 (by first | decide | omega) | exact st.c2 (by first | decide | omega) | exact st.c3 (by first | decide | omega) | exact st.c4 (by first | decide | omega) | exact st.c5 (by first | decide | omega) | exact st.c6 (by first | decide | omega) | exact st.c7 (by first | decide | omega) | exact st.c8 (by first | decide | omega)), (by first | assumption | exact st.c0 (by first | decide | omega) | exact st.c1 (by first | decide | omega) | exact st.c2 (by first | decide | omega) | exact st.c3 (by first | decide | omega) | exact st.c4 (by first | decide | omega) | exact st.c5 (by first | decide | omega) | exact st.c6 (by first | decide | omega) | exact st.c7 (by first | decide | omega) | exact st.c8 (by first | decide | omega)), (by first | assumption | exact st.c0 (by first | decide | omega) | exact st.c1 (by first | decide | omega) | exact st.c2 (by first | decide | omega) | exact st.c3 (by first | decide | omega) | exact st.c4 (by first | decide | omega) | exact st.c5 (by first | decide | omega) | exact st.c6 (by first | decide | omega) | exact st.c7 (by first | decide | omega) | exact st.c8 (by first | decide | omega)), (by first | assumption | exact st.c0 (by first | decide | omega) | exact st.c1 (by first | decide | omega) | exact st.c2 (by first | decide | omega) | exact st.c3 (by first | decide | omega) | exact st.c4 (by first | decide | omega) | exact st.c5 (by first | decide | omega) | exact st.c6 (by first | decide | omega) | exact st.c7 (by first | decide | omega) | exact st.c8 (by first | decide | omega)), (by first | assumption | exact st.c0 (by first | decide | omega) | exact st.c1 (by first | decide | omega) | exact st.c2 (by first | decide | omega) | exact st.c3 (by first | decide | omega) | exact st.c4 (by first | decide | omega) | exact st.c5 (by first | decide | omega) | exact st.c6 (by first | decide | omega) | exact st.c7 (by first | decide | omega) | exact st.c8 (by first | decide | omega)), (by first | assumption | exact st.c0 (by first | decide | omega) | exact st.c1 (by first | decide | omega) | exact st.c2 (by first | decide | omega) | exact st.c3 (by first | decide | omega) | exact st.c4 (by first | decide | omega) | exact st.c5 (by first | decide | omega) | exact st.c6 (by first | decide | omega) | exact st.c7 (by first | decide | omega) | exact st.c8 (by first | decide | omega)), (by first | assumption | exact st.c0 (by first | decide | omega) | exact st.c1 (by first | decide | omega) | exact st.c2 (by first | decide | omega) | exact st.c3 (by first | decide | omega) | exact st.c4 (by first | decide | omega) | exact st.c5 (by first | decide | omega) | exact st.c6 (by first | decide | omega) | exact st.c7 (by first | decide | omega) | exact st.c8 (by first | decide | omega)), (by first | assumption | exact st.c0 (by first | decide | omega) | exact st.c1 (by first | decide | omega) | exact st.c2 (by first | decide | omega) | exact st.c3 (by first | decide | omega) | exact st.c4 (by first | decide | omega) | exact st.c5 (by first | decide | omega) | exact st.c6 (by first | decide | omega) | exact st.c7 (by first | decide | omega) | exact st.c8 (by first | decide | omega)), (by first | assumption | exact st.c0 (by first | decide | omega) | exact st.c1 (by first | decide | omega) | exact st.c2 (by first | decide | omega) | exact st.c3 (by first | decide | omega) | exact st.c4 (by first | decide | omega) | exact st.c5 (by first | decide | omega) | exact st.c6 (by first | decide | omega) | exact st.c7 (by first | decide | omega) | exact st.c8 (by first | decide | omega)), trivial⟩) rfl rfl rfl ?_
        -- R10.2 82 := laws.go:252 call
        refine WL.call (r_call ty_call14 rfl) rfl rfl rfl (step_ok (o := op i) hg h1 hok (by omega) (st_inF [_, _, _] st.front1)) ?_
        rintro _ w ⟨D1', dv, l1, h1', rfl, hrv, st⟩
        have hse := hrv.sees (w0 := w0) h1.rdr
        obtain ⟨da, dn, dc, rfl⟩ := rv_sl hrv
        have st := st_l2 st
        -- R10.3 10 := laws.go:252 alloc
        refine WL.alloc (m := 2) st ty_zero37 rfl rfl rfl ?_
        intro b10 w st
        -- R10.4 None := laws.go:252 store
        first | refine WL.storeW (vs := [_, _]) st ty_agg37 rfl rfl rfl rfl rfl rfl ?_ | refine WL.storeL (vs := [_, _]) st ty_agg37 rfl rfl rfl rfl (by first | decide | omega) rfl rfl ?_ | refine WL.storeW (vs := [_, _]) st.front1 ty_agg37 rfl rfl rfl rfl rfl rfl ?_ | refine WL.storeL (vs := [_, _]) st.front1 ty_agg37 rfl rfl rfl rfl (by first | decide | omega) rfl rfl ?_ | refine WL.storeW (vs := [_, _]) st.front2 ty_agg37 rfl rfl rfl rfl rfl rfl ?_ | refine WL.storeL (vs := [_, _]) st.front2 ty_agg37 rfl rfl rfl rfl (by first | decide | omega) rfl rfl ?_ | refine WL.storeW (vs := [_, _]) st.front3 ty_agg37 rfl rfl rfl rfl rfl rfl ?_ | refine WL.storeL (vs := [_, _]) st.front3 ty_agg37 rfl rfl rfl rfl (by first | decide | omega) rfl rfl ?_ | refine WL.storeW (vs := [_, _]) st.front4 ty_agg37 rfl rfl rfl rfl rfl rfl ?_ | refine WL.storeL (vs := [_, _]) st.front4 ty_agg37 rfl rfl rfl rfl (by first | decide | omega) rfl rfl ?_ | refine WL.storeW (vs := [_, _]) st.front5 ty_agg37 rfl rfl rfl rfl rfl rfl ?_ | refine WL.storeL (vs := [_, _]) st.front5 ty_agg37 rfl rfl rfl rfl (by first | decide | omega) rfl rfl ?_ | refine WL.storeW (vs := [_, _]) st.front6 ty_agg37 rfl rfl rfl rfl rfl rfl ?_ | refine WL.storeL (vs := [_, _]) st.front6 ty_agg37 rfl rfl rfl rfl (by first | decide | omega) rfl rfl ?_ | refine WL.storeW (vs := [_, _]) st.front7 ty_agg37 rfl rfl rfl rfl rfl rfl ?_ | refine WL.storeL (vs := [_, _]) st.front7 ty_agg37 rfl rfl rfl rfl (by first | decide | omega) rfl rfl ?_ | refine WL.storeW (vs := [_, _]) st.front8 ty_agg37 rfl rfl rfl rfl rfl rfl ?_ | refine WL.storeL (vs := [_, _]) st.front8 ty_agg37 rfl rfl rfl rfl (by first | decide | omega) rfl rfl ?_
        intro w st
        refine WL.fin hK864 (fun _ _ h => h) ?_
        refine WC.seq fun K865 hK865 => ?_
        refine WC.seq fun K866 hK866 => ?_
        -- region 11
        refine WC.region ?_
        -- R11.0 83 := laws.go:253 move
        refine WL.v (by first | exact r_move (v := .bool _) rfl | exact r_move rfl) rfl rfl rfl ?_
        -- R11.1 84 := laws.go:253 move
        refine WL.v (by first | exact r_move (v := .bool _) rfl | exact r_move rfl) rfl rfl rfl ?_
        -- R11.2 85 := laws.go:253 fieldAddr
        refine WL.no rfl rfl ?_
        -- R11.3 86 := laws.go:253 load
        refine WL.no rfl rfl ?_
        -- R11.4 87 := laws.go:253 binOp
        refine WL.no rfl rfl ?_
        -- R11.5 88 := laws.go:253 pick
        refine WL.v (by first | exact r_pickT (v := .bool _) rfl rfl | exact r_pickF (v := .bool _) rfl rfl) rfl rfl rfl ?_
        refine WL.fin hK866 (fun _ _ h => h) ?_
        refine WC.condF rfl rfl ?_
        refine WC.skipF hK865 (fun _ _ h => h) ?_
        refine WC.seq fun K867 hK867 => ?_
        refine WC.seq fun K868 hK868 => ?_
        -- region 13
        refine WC.region ?_
        -- R13.0 89 := laws.go:256 fieldAddr
        refine WL.v (by exact r_field ty_fld37_0 rfl) rfl rfl rfl ?_
        -- R13.1 90 := laws.go:256 load
        refine WL.v (by exact r_load1 ty_one35 rfl (by first | assumption | exact st.c0 (by first | decide | omega) | exact st.c1 (by first | decide | omega) | exact st.c2 (by first | decide | omega) | exact st.c3 (by first | decide | omega) | exact st.c4 (by first | decide | omega) | exact st.c5 (by first | decide | omega) | exact st.c6 (by first | decide | omega) | exact st.c7 (by first | decide | omega) | exact st.c8 (by first | decide | omega))) rfl rfl rfl ?_
        -- R13.2 91 := laws.go:256 binOp
        refine WL.v (by first | exact r_neq rfl rfl (decide_eq_true (by omega)) | exact r_neq rfl rfl (decide_eq_false (by omega)) | exact r_neq rfl rfl rfl) rfl rfl rfl ?_
        -- R13.3 92 := laws.go:256 move
        refine WL.v (by first | exact r_move (v := .bool _) rfl | exact r_move rfl) rfl rfl rfl ?_
        -- R13.4 93 := laws.go:256 fieldAddr
        refine WL.v (by exact r_field ty_fld37_0 rfl) rfl rfl rfl ?_
        -- R13.5 94 := laws.go:256 load
        refine WL.v (by exact r_load1 ty_one35 rfl (by first | assumption | exact st.c0 (by first | decide | omega) | exact st.c1 (by first | decide | omega) | exact st.c2 (by first | decide | omega) | exact st.c3 (by first | decide | omega) | exact st.c4 (by first | decide | omega) | exact st.c5 (by first | decide | omega) | exact st.c6 (by first | decide | omega) | exact st.c7 (by first | decide | omega) | exact st.c8 (by first | decide | omega))) rfl rfl rfl ?_
        -- R13.6 95 := laws.go:256 binOp
        refine WL.v (by first | exact r_neq rfl rfl (decide_eq_true (by omega)) | exact r_neq rfl rfl (decide_eq_false (by omega)) | exact r_neq rfl rfl rfl) rfl rfl rfl ?_
        -- R13.7 96 := laws.go:256 move
        refine WL.v (by first | exact r_move (v := .bool _) rfl | exact r_move rfl) rfl rfl rfl ?_
        -- R13.8 97 := laws.go:256 move
        refine WL.no rfl rfl ?_
        -- R13.9 98 := laws.go:256 pick
        refine WL.v (by first | exact r_pickT (v := .bool _) rfl rfl | exact r_pickF (v := .bool _) rfl rfl) rfl rfl rfl ?_
        -- R13.10 99 := laws.go:256 pick
        refine WL.v (by first | exact r_pickT (v := .bool _) rfl rfl | exact r_pickF (v := .bool _) rfl rfl) rfl rfl rfl ?_
        refine WL.fin hK868 (fun _ _ h => h) ?_
        refine WC.condT rfl rfl ?_
        refine WC.exitF hK854 (fun _ _ h => h) ?_
        -- region 16
        refine WC.region ?_
        -- R16.0 106 := laws.go:247 binOp
        refine WL.v (by exact r_add (r := ((i + 1 : Nat) : Int)) rfl rfl ((wi64 (by omega) (by omega)).trans (by omega))) rfl rfl rfl ?_
        -- R16.1 22 := laws.go:247 move
        refine WL.v (by first | exact r_move (v := .int _ _) rfl | exact r_move rfl) rfl rfl rfl ?_
        have h1' : Rep D1' P := by rw [← step_refused hc (.inl hc3)]; exact h1'
        refine WL.next hK1 (fun _ _ h => h) (D1', D2, P, i + 1) ⟨h1', h2, by show i + 1 ≤ n; omega, by show P.wr ≤ 128 * (i + 1); omega, fin1 st⟩ (by show n - (i + 1) < n - i; omega) (by repeat (first | exact sub_nil _ | refine sub_cons rfl rfl ?_))
      rcases hdn : P.down with _ | _
      · skip
        refine WC.seq fun K869 hK869 => ?_
        -- region 10
        refine WC.region ?_
        -- R10.0 80 := laws.go:252 move
        refine WL.v (by first | exact r_move (v := .pointer _) rfl | exact r_move rfl) rfl rfl rfl ?_
        -- R10.1 81 := laws.go:252 load
        refine WL.v (by exact r_loadL (vs := [_, _, _, _, _, _, _, _, _]) ty_agg33 rfl ⟨(by first | assumption | exact st.c0 (by first | decide | omega) | exact st.c1 (by first | decide | omega) | exact st.c2 (by first | decide | omega) | exact st.c3 (by first | decide | omega) | exact st.c4 (by first | decide | omega) | exact st.c5 (by first | decide | omega) | exact st.c6 (by first | decide | omega) | exact st.c7 (by first | decide | omega) | exact st.c8 (by first | decide | omega)), (by first | assumption | exact st.c0 (by first | decide | omega) | exact st.c1 (by first | decide | omega) | exact st.c2 (by first | decide | omega) | exact st.c3 (by first | decide | omega) | exact st.c4 (by first | decide | omega) | exact st.c5 (by first | decide | omega) | exact st.c6 (by first | decide | omega) | exact st.c7 (by first | decide | omega) | exact st.c8 (by first | decide | omega)), (by first | assumption | exact st.c0 (by first | decide | omega) | exact st.c1 (by first | decide | omega) | exact st.c2 (by first | decide | omega) | exact st.c3 (by first | decide | omega) | exact st.c4 (by first | decide | omega) | exact st.c5 (by first | decide | omega) | exact st.c6 (by first | decide | omega) | exact st.c7 (by first | decide | omega) | exact st.c8 (by first | decide | omega)), (by first | assumption | exact st.c0 (by first | decide | omega) | exact st.c1 (by first | decide | omega) | exact st.c2 (by first | decide | omega) | exact st.c3 (by first | decide | omega) | exact st.c4 (by first | decide | omega) | exact st.c5 (by first | decide | omega) | exact st.c6 (by first | decide | omega) | exact st.c7 (by first | decide | omega) | exact st.c8 (by first | decide | omega)), (by first | assumption | exact st.c0 (by first | decide | omega) | exact st.c1 (by first | decide | omega) | exact st.c2 (by first | decide | omega) | exact st.c3 (by first | decide | omega) | exact st.c4 (by first | decide | omega) | exact st.c5 (by first | decide | omega) | exact st.c6 (by first | decide | omega) | exact st.c7 (by first | decide | omega) | exact st.c8 (by first | decide | omega)), (by first | assumption | exact st.c0 (by first | decide | omega) | exact st.c1 (by first | decide | omega) | exact st.c2 (by first | decide | omega) | exact st.c3 (by first | decide | omega) | exact st.c4 (by first | decide | omega) | exact st.c5 (by first | decide | omega) | exact st.c6 (by first | decide | omega) | exact st.c7 (by first | decide | omega) | exact st.c8 (by first | decide | omega)), (by first | assumption | exact st.c0 (by first | decide | omega) | exact st.c1 (by first | decide | omega) | exact st.c2 (by first | decide | omega) | exact st.c3 (by first | decide | omega) | exact st.c4 (by first | decide | omega) | exact st.c5 (by first | decide | omega) | exact st.c6 (by first | decide | omega) | exact st.c7 (by first | decide | omega) | exact st.c8 (by first | decide | omega)), (by first | assumption | exact st.c0 (by first | decide | omega) | exact st.c1 (by first | decide | omega) | exact st.c2 (by first | decide | omega) | exact st.c3 (by first | decide | omega) | exact st.c4 (by first | decide | omega) | exact st.c5 (by first | decide | omega) | exact st.c6 (by first | decide | omega) | exact st.c7 (by first | decide | omega) | exact st.c8 (by first | decide | omega)), (by first | assumption | exact st.c0 (by first | decide | omega) | exact st.c1 (by first | decide | omega) | exact st.c2 (by first | decide | omega) | exact st.c3 (by first | decide | omega) | exact st.c4 (by first | decide | omega) | exact st.c5 (by first | decide | omega) | exact st.c6 (by first | decide | omega) | exact st.c7 (by first | decide | omega) | exact st.c8 (by first | decide | omega)), trivial⟩) rfl rfl rfl ?_
        -- R10.2 82 := laws.go:252 call
        refine WL.call (r_call ty_call14 rfl) rfl rfl rfl (step_ok (o := op i) hg h1 hok (by omega) (st_inF [_, _, _] st.front1)) ?_
        rintro _ w ⟨D1', dv, l1, h1', rfl, hrv, st⟩
        have hse := hrv.sees (w0 := w0) h1.rdr
        obtain ⟨da, dn, dc, rfl⟩ := rv_sl hrv
        have st := st_l2 st
        -- R10.3 10 := laws.go:252 alloc
        refine WL.alloc (m := 2) st ty_zero37 rfl rfl rfl ?_
        intro b10 w st
        -- R10.4 None := laws.go:252 store
        first | refine WL.storeW (vs := [_, _]) st ty_agg37 rfl rfl rfl rfl rfl rfl ?_ | refine WL.storeL (vs := [_, _]) st ty_agg37 rfl rfl rfl rfl (by first | decide | omega) rfl rfl ?_ | refine WL.storeW (vs := [_, _]) st.front1 ty_agg37 rfl rfl rfl rfl rfl rfl ?_ | refine WL.storeL (vs := [_, _]) st.front1 ty_agg37 rfl rfl rfl rfl (by first | decide | omega) rfl rfl ?_ | refine WL.storeW (vs := [_, _]) st.front2 ty_agg37 rfl rfl rfl rfl rfl rfl ?_ | refine WL.storeL (vs := [_, _]) st.front2 ty_agg37 rfl rfl rfl rfl (by first | decide | omega) rfl rfl ?_ | refine WL.storeW (vs := [_, _]) st.front3 ty_agg37 rfl rfl rfl rfl rfl rfl ?_ | refine WL.storeL (vs := [_, _]) st.front3 ty_agg37 rfl rfl rfl rfl (by first | decide | omega) rfl rfl ?_ | refine WL.storeW (vs := [_, _]) st.front4 ty_agg37 rfl rfl rfl rfl rfl rfl ?_ | refine WL.storeL (vs := [_, _]) st.front4 ty_agg37 rfl rfl rfl rfl (by first | decide | omega) rfl rfl ?_ | refine WL.storeW (vs := [_, _]) st.front5 ty_agg37 rfl rfl rfl rfl rfl rfl ?_ | refine WL.storeL (vs := [_, _]) st.front5 ty_agg37 rfl rfl rfl rfl (by first | decide | omega) rfl rfl ?_ | refine WL.storeW (vs := [_, _]) st.front6 ty_agg37 rfl rfl rfl rfl rfl rfl ?_ | refine WL.storeL (vs := [_, _]) st.front6 ty_agg37 rfl rfl rfl rfl (by first | decide | omega) rfl rfl ?_ | refine WL.storeW (vs := [_, _]) st.front7 ty_agg37 rfl rfl rfl rfl rfl rfl ?_ | refine WL.storeL (vs := [_, _]) st.front7 ty_agg37 rfl rfl rfl rfl (by first | decide | omega) rfl rfl ?_ | refine WL.storeW (vs := [_, _]) st.front8 ty_agg37 rfl rfl rfl rfl rfl rfl ?_ | refine WL.storeL (vs := [_, _]) st.front8 ty_agg37 rfl rfl rfl rfl (by first | decide | omega) rfl rfl ?_
        intro w st
        refine WL.fin hK869 (fun _ _ h => h) ?_
        refine WC.seq fun K870 hK870 => ?_
        refine WC.seq fun K871 hK871 => ?_
        -- region 11
        refine WC.region ?_
        -- R11.0 83 := laws.go:253 move
        refine WL.v (by first | exact r_move (v := .bool _) rfl | exact r_move rfl) rfl rfl rfl ?_
        -- R11.1 84 := laws.go:253 move
        refine WL.v (by first | exact r_move (v := .bool _) rfl | exact r_move rfl) rfl rfl rfl ?_
        -- R11.2 85 := laws.go:253 fieldAddr
        refine WL.no rfl rfl ?_
        -- R11.3 86 := laws.go:253 load
        refine WL.no rfl rfl ?_
        -- R11.4 87 := laws.go:253 binOp
        refine WL.no rfl rfl ?_
        -- R11.5 88 := laws.go:253 pick
        refine WL.v (by first | exact r_pickT (v := .bool _) rfl rfl | exact r_pickF (v := .bool _) rfl rfl) rfl rfl rfl ?_
        refine WL.fin hK871 (fun _ _ h => h) ?_
        refine WC.condF rfl rfl ?_
        refine WC.skipF hK870 (fun _ _ h => h) ?_
        refine WC.seq fun K872 hK872 => ?_
        refine WC.seq fun K873 hK873 => ?_
        -- region 13
        refine WC.region ?_
        -- R13.0 89 := laws.go:256 fieldAddr
        refine WL.v (by exact r_field ty_fld37_0 rfl) rfl rfl rfl ?_
        -- R13.1 90 := laws.go:256 load
        refine WL.v (by exact r_load1 ty_one35 rfl (by first | assumption | exact st.c0 (by first | decide | omega) | exact st.c1 (by first | decide | omega) | exact st.c2 (by first | decide | omega) | exact st.c3 (by first | decide | omega) | exact st.c4 (by first | decide | omega) | exact st.c5 (by first | decide | omega) | exact st.c6 (by first | decide | omega) | exact st.c7 (by first | decide | omega) | exact st.c8 (by first | decide | omega))) rfl rfl rfl ?_
        -- R13.2 91 := laws.go:256 binOp
        refine WL.v (by first | exact r_neq rfl rfl (decide_eq_true (by omega)) | exact r_neq rfl rfl (decide_eq_false (by omega)) | exact r_neq rfl rfl rfl) rfl rfl rfl ?_
        -- R13.3 92 := laws.go:256 move
        refine WL.v (by first | exact r_move (v := .bool _) rfl | exact r_move rfl) rfl rfl rfl ?_
        -- R13.4 93 := laws.go:256 fieldAddr
        refine WL.v (by exact r_field ty_fld37_0 rfl) rfl rfl rfl ?_
        -- R13.5 94 := laws.go:256 load
        refine WL.v (by exact r_load1 ty_one35 rfl (by first | assumption | exact st.c0 (by first | decide | omega) | exact st.c1 (by first | decide | omega) | exact st.c2 (by first | decide | omega) | exact st.c3 (by first | decide | omega) | exact st.c4 (by first | decide | omega) | exact st.c5 (by first | decide | omega) | exact st.c6 (by first | decide | omega) | exact st.c7 (by first | decide | omega) | exact st.c8 (by first | decide | omega))) rfl rfl rfl ?_
        -- R13.6 95 := laws.go:256 binOp
        refine WL.v (by first | exact r_neq rfl rfl (decide_eq_true (by omega)) | exact r_neq rfl rfl (decide_eq_false (by omega)) | exact r_neq rfl rfl rfl) rfl rfl rfl ?_
        -- R13.7 96 := laws.go:256 move
        refine WL.v (by first | exact r_move (v := .bool _) rfl | exact r_move rfl) rfl rfl rfl ?_
        -- R13.8 97 := laws.go:256 move
        refine WL.v (by first | exact r_move (v := .bool _) rfl | exact r_move rfl) rfl rfl rfl ?_
        -- R13.9 98 := laws.go:256 pick
        refine WL.v (by first | exact r_pickT (v := .bool _) rfl rfl | exact r_pickF (v := .bool _) rfl rfl) rfl rfl rfl ?_
        -- R13.10 99 := laws.go:256 pick
        refine WL.v (by first | exact r_pickT (v := .bool _) rfl rfl | exact r_pickF (v := .bool _) rfl rfl) rfl rfl rfl ?_
        refine WL.fin hK873 (fun _ _ h => h) ?_
        refine WC.condF rfl rfl ?_
        refine WC.skipF hK872 (fun _ _ h => h) ?_
        refine WC.seq fun K874 hK874 => ?_
        -- region 14 (draws)
        refine WC.mixS [(0, true), (1, true), (3, true), (2, false), (4, false), (5, true)] st (st_p3 st) ty_mixed (by kernel_rfl) fun w st => ?_
        -- R14.0 100 := laws.go:259 move
        refine ML.v (fun w st => by first | exact r_move (v := .pointer _) rfl | exact r_move rfl) rfl rfl rfl ?_
        -- R14.1 101 := laws.go:259 load
        refine ML.v (fun w st => by exact r_loadL (vs := [_, _, _, _, _, _, _, _, _]) ty_agg33 rfl ⟨(by first | assumption | exact st.c0 (by first | decide | omega) | exact st.c1 (by first | decide | omega) | exact st.c2 (by first | decide | omega) | exact st.c3 (by first | decide | omega) | exact st.c4 (by first | decide | omega) | exact st.c5 (by first | decide | omega) | exact st.c6 (by first | decide | omega) | exact st.c7 (by first | decide | omega) | exact st.c8 (by first | decide | omega)), (by first | assumption | exact st.c0 (by first | decide | omega) | exact st.c1 (by first | decide | omega) | exact st.c2 (by first | decide | omega) | exact st.c3 (by first | decide | omega) | exact st.c4 (by first | decide | omega) | exact st.c5 (by first | decide | omega) | exact st.c6 (by first | decide | omega) | exact st.c7 (by first | decide | omega) | exact st.c8 (by first | decide | omega)), (by first | assumption | exact st.c0 (by first | decide | omega) | exact st.c1 (by first | decide | omega) | exact st.c2 (by first | decide | omega) | exact st.c3 (by first | decide | omega) | exact st.c4 (by first | decide | omega) | exact st.c5 (by first | decide | omega) | exact st.c6 (by first | decide | omega) | exact st.c7 (by first | decide | omega) | exact st.c8 (by first | decide | omega)), (by first | assumption | exact st.c0 (by first | decide | omega) | exact st.c1 (by first | decide | omega) | exact st.c2 (by first | decide | omega) | exact st.c3 (by first | decide | omega) | exact st.c4 (by first | decide | omega) | exact st.c5 (by first | decide | omega) | exact st.c6 (by first | decide | omega) | exact st.c7 (by first | decide | omega) | exact st.c8 (by first | decide | omega)), (by first | assumption | exact st.c0 (by first | decide | omega) | exact st.c1 (by first | decide | omega) | exact st.c2 (by first | decide | omega) | exact st.c3 (by first | decide | omega) | exact st.c4 (by first | decide | omega) | exact st.c5 (by first | decide | omega) | exact st.c6 (by first | decide | omega) | exact st.c7 (by first | decide | omega) | exact st.c8 (by first | decide | omega)), (by first | assumption | exact st.c0 (by first | decide | omega) | exact st.c1 (by first | decide | omega) | exact st.c2 (by first | decide | omega) | exact st.c3 (by first | decide | omega) | exact st.c4 (by first | decide | omega) | exact st.c5 (by first | decide | omega) | exact st.c6 (by first | decide | omega) | exact st.c7 (by first | decide | omega) | exact st.c8 (by first | decide | omega)), (by first | assumption | exact st.c0 (by first | decide | omega) | exact st.c1 (by first | decide | omega) | exact st.c2 (by first | decide | omega) | exact st.c3 (by first | decide | omega) | exact st.c4 (by first | decide | omega) | exact st.c5 (by first | decide | omega) | exact st.c6 (by first | decide | omega) | exact st.c7 (by first | decide | omega) | exact st.c8 (by first | decide | omega)), (by first | assumption | exact st.c0 (by first | decide | omega) | exact st.c1 (by first | decide | omega) | exact st.c2 (by first | decide | omega) | exact st.c3 (by first | decide | omega) | exact st.c4 (by first | decide | omega) | exact st.c5 (by first | decide | omega) | exact st.c6 (by first | decide | omega) | exact st.c7 (by first | decide | omega) | exact st.c8 (by first | decide | omega)), (by first | assumption | exact st.c0 (by first | decide | omega) | exact st.c1 (by first | decide | omega) | exact st.c2 (by first | decide | omega) | exact st.c3 (by first | decide | omega) | exact st.c4 (by first | decide | omega) | exact st.c5 (by first | decide | omega) | exact st.c6 (by first | decide | omega) | exact st.c7 (by first | decide | omega) | exact st.c8 (by first | decide | omega)), trivial⟩) rfl rfl rfl ?_
        -- R14.3 103 := laws.go:259 load
        refine ML.v (fun w st => by exact r_loadL (vs := [_, _]) ty_agg37 rfl ⟨(by first | assumption | exact st.c0 (by first | decide | omega) | exact st.c1 (by first | decide | omega) | exact st.c2 (by first | decide | omega) | exact st.c3 (by first | decide | omega) | exact st.c4 (by first | decide | omega) | exact st.c5 (by first | decide | omega) | exact st.c6 (by first | decide | omega) | exact st.c7 (by first | decide | omega) | exact st.c8 (by first | decide | omega)), (by first | assumption | exact st.c0 (by first | decide | omega) | exact st.c1 (by first | decide | omega) | exact st.c2 (by first | decide | omega) | exact st.c3 (by first | decide | omega) | exact st.c4 (by first | decide | omega) | exact st.c5 (by first | decide | omega) | exact st.c6 (by first | decide | omega) | exact st.c7 (by first | decide | omega) | exact st.c8 (by first | decide | omega)), trivial⟩) rfl rfl rfl ?_
        refine ML.at ?_
        -- R14.2 102 := laws.go:259 call
        refine WL.call (r_call ty_call14 rfl) rfl rfl rfl (step_ok (o := op i) hg h2 hok (by omega) (st_inF [_, _, _, _] (st.perm ((((di_comm.cons _).cons _).cons _).cons _)).front3)) ?_
        rintro _ w ⟨D2', dv2, l2, h2', rfl, hrv2, st⟩
        have hse2 := hrv2.sees (w0 := w0) h2.rdr
        obtain ⟨da2, dn2, dc2, rfl⟩ := rv_sl hrv2
        have st := st_l1 st
        refine ML.nxt (st_p3 st.drop) ?_
        refine ML.at ?_
        -- R14.4 104 := laws.go:259 call
        refine WL.call (r_call ty_call13 rfl) rfl rfl rfl (same_ok rfl hse2 hse (fun x hx => List.mem_cons_of_mem _ (List.mem_cons_of_mem _ (List.mem_cons_of_mem _ (List.mem_cons_of_mem _ (mem_in (List.mem_append_left _ hx)))))) (fun x hx => List.mem_cons_of_mem _ (List.mem_cons_of_mem _ (List.mem_cons_of_mem _ (List.mem_cons_of_mem _ (mem_in (List.mem_append_right _ (mem_in (List.mem_append_left _ hx)))))))) st) ?_
        rintro _ w ⟨r, rfl, hr, st⟩
        obtain rfl := hr rfl
        refine ML.nxt (st_p3 st.drop) ?_
        -- R14.5 105 := laws.go:259 unOp
        refine ML.v (fun w st => by first | exact r_notT rfl | exact r_notF rfl | exact r_not rfl) rfl rfl rfl ?_
        refine ML.wl ?_
        refine WL.fin hK874 (fun _ _ h => h) ?_
        refine WC.condF rfl rfl ?_
        refine WC.skipF hK854 (fun _ _ h => h) ?_
        -- region 16
        refine WC.region ?_
        -- R16.0 106 := laws.go:247 binOp
        refine WL.v (by exact r_add (r := ((i + 1 : Nat) : Int)) rfl rfl ((wi64 (by omega) (by omega)).trans (by omega))) rfl rfl rfl ?_
        -- R16.1 22 := laws.go:247 move
        refine WL.v (by first | exact r_move (v := .int _ _) rfl | exact r_move rfl) rfl rfl rfl ?_
        refine WL.next hK1 (fun _ _ h => h) (D1', D2', (stepP P (op i)).1, i + 1) ⟨h1', h2', by show i + 1 ≤ n; omega, by show (stepP P (op i)).1.wr ≤ 128 * (i + 1); omega, fin2 st⟩ (by show n - (i + 1) < n - i; omega) (by repeat (first | exact sub_nil _ | refine sub_cons rfl rfl ?_))
      · skip
        refine WC.seq fun K875 hK875 => ?_
        -- region 10
        refine WC.region ?_
        -- R10.0 80 := laws.go:252 move
        refine WL.v (by first | exact r_move (v := .pointer _) rfl | exact r_move rfl) rfl rfl rfl ?_
        -- R10.1 81 := laws.go:252 load
        refine WL.v (by exact r_loadL (vs := [_, _, _, _, _, _, _, _, _]) ty_agg33 rfl ⟨(by first | assumption | exact st.c0 (by first | decide | omega) | exact st.c1 (by first | decide | omega) | exact st.c2 (by first | decide | omega) | exact st.c3 (by first | decide | omega) | exact st.c4 (by first | decide | omega) | exact st.c5 (by first | decide | omega) | exact st.c6 (by first | decide | omega) | exact st.c7 (by first | decide | omega) | exact st.c8 (by first | decide | omega)), (by first | assumption | exact st.c0 (by first | decide | omega) | exact st.c1 (by first | decide | omega) | exact st.c2 (by first | decide | omega) | exact st.c3 (by first | decide | omega) | exact st.c4 (by first | decide | omega) | exact st.c5 (by first | decide | omega) | exact st.c6 (by first | decide | omega) | exact st.c7 (by first | decide | omega) | exact st.c8 (by first | decide | omega)), (by first | assumption | exact st.c0 (by first | decide | omega) | exact st.c1 (by first | decide | omega) | exact st.c2 (by first | decide | omega) | exact st.c3 (by first | decide | omega) | exact st.c4 (by first | decide | omega) | exact st.c5 (by first | decide | omega) | exact st.c6 (by first | decide | omega) | exact st.c7 (by first | decide | omega) | exact st.c8 (by first | decide | omega)), (by first | assumption | exact st.c0 (by first | decide | omega) | exact st.c1 (by first | decide | omega) | exact st.c2 (by first | decide | omega) | exact st.c3 (by first | decide | omega) | exact st.c4 (by first | decide | omega) | exact st.c5 (by first | decide | omega) | exact st.c6 (by first | decide | omega) | exact st.c7 (by first | decide | omega) | exact st.c8 (by first | decide | omega)), (by first | assumption | exact st.c0 (by first | decide | omega) | exact st.c1 (by first | decide | omega) | exact st.c2 (by first | decide | omega) | exact st.c3 (by first | decide | omega) | exact st.c4 (by first | decide | omega) | exact st.c5 (by first | decide | omega) | exact st.c6 (by first | decide | omega) | exact st.c7 (by first | decide | omega) | exact st.c8 (by first | decide | omega)), (by first | assumption | exact st.c0 (by first | decide | omega) | exact st.c1 (by first | decide | omega) | exact st.c2 (by first | decide | omega) | exact st.c3 (by first | decide | omega) | exact st.c4 (by first | decide | omega) | exact st.c5 (by first | decide | omega) | exact st.c6 (by first | decide | omega) | exact st.c7 (by first | decide | omega) | exact st.c8 (by first | decide | omega)), (by first | assumption | exact st.c0 (by first | decide | omega) | exact st.c1 (by first | decide | omega) | exact st.c2 (by first | decide | omega) | exact st.c3 (by first | decide | omega) | exact st.c4 (by first | decide | omega) | exact st.c5 (by first | decide | omega) | exact st.c6 (by first | decide | omega) | exact st.c7 (by first | decide | omega) | exact st.c8 (by first | decide | omega)), (by first | assumption | exact st.c0 (by first | decide | omega) | exact st.c1 (by first | decide | omega) | exact st.c2 (by first | decide | omega) | exact st.c3 (by first | decide | omega) | exact st.c4 (by first | decide | omega) | exact st.c5 (by first | decide | omega) | exact st.c6 (by first | decide | omega) | exact st.c7 (by first | decide | omega) | exact st.c8 (by first | decide | omega)), (by first | assumption | exact st.c0 (by first | decide | omega) | exact st.c1 (by first | decide | omega) | exact st.c2 (by first | decide | omega) | exact st.c3 (by first | decide | omega) | exact st.c4 (by first | decide | omega) | exact st.c5 (by first | decide | omega) | exact st.c6 (by first | decide | omega) | exact st.c7 (by first | decide | omega) | exact st.c8 (by first | decide | omega)), trivial⟩) rfl rfl rfl ?_
        -- R10.2 82 := laws.go:252 call
        refine WL.call (r_call ty_call14 rfl) rfl rfl rfl (step_ok (o := op i) hg h1 hok (by omega) (st_inF [_, _, _] st.front1)) ?_
        rintro _ w ⟨D1', dv, l1, h1', rfl, hrv, st⟩
        have hse := hrv.sees (w0 := w0) h1.rdr
        obtain ⟨da, dn, dc, rfl⟩ := rv_sl hrv
        have st := st_l2 st
        -- R10.3 10 := laws.go:252 alloc
        refine WL.alloc (m := 2) st ty_zero37 rfl rfl rfl ?_
        intro b10 w st
        -- R10.4 None := laws.go:252 store
        first | refine WL.storeW (vs := [_, _]) st ty_agg37 rfl rfl rfl rfl rfl rfl ?_ | refine WL.storeL (vs := [_, _]) st ty_agg37 rfl rfl rfl rfl (by first | decide | omega) rfl rfl ?_ | refine WL.storeW (vs := [_, _]) st.front1 ty_agg37 rfl rfl rfl rfl rfl rfl ?_ | refine WL.storeL (vs := [_, _]) st.front1 ty_agg37 rfl rfl rfl rfl (by first | decide | omega) rfl rfl ?_ | refine WL.storeW (vs := [_, _]) st.front2 ty_agg37 rfl rfl rfl rfl rfl rfl ?_ | refine WL.storeL (vs := [_, _]) st.front2 ty_agg37 rfl rfl rfl rfl (by first | decide | omega) rfl rfl ?_ | refine WL.storeW (vs := [_, _]) st.front3 ty_agg37 rfl rfl rfl rfl rfl rfl ?_ | refine WL.storeL (vs := [_, _]) st.front3 ty_agg37 rfl rfl rfl rfl (by first | decide | omega) rfl rfl ?_ | refine WL.storeW (vs := [_, _]) st.front4 ty_agg37 rfl rfl rfl rfl rfl rfl ?_ | refine WL.storeL (vs := [_, _]) st.front4 ty_agg37 rfl rfl rfl rfl (by first | decide | omega) rfl rfl ?_ | refine WL.storeW (vs := [_, _]) st.front5 ty_agg37 rfl rfl rfl rfl rfl rfl ?_ | refine WL.storeL (vs := [_, _]) st.front5 ty_agg37 rfl rfl rfl rfl (by first | decide | omega) rfl rfl ?_ | refine WL.storeW (vs := [_, _]) st.front6 ty_agg37 rfl rfl rfl rfl rfl rfl ?_ | refine WL.storeL (vs := [_, _]) st.front6 ty_agg37 rfl rfl rfl rfl (by first | decide | omega) rfl rfl ?_ | refine WL.storeW (vs := [_, _]) st.front7 ty_agg37 rfl rfl rfl rfl rfl rfl ?_ | refine WL.storeL (vs := [_, _]) st.front7 ty_agg37 rfl rfl rfl rfl (by first | decide | omega) rfl rfl ?_ | refine WL.storeW (vs := [_, _]) st.front8 ty_agg37 rfl rfl rfl rfl rfl rfl ?_ | refine WL.storeL (vs := [_, _]) st.front8 ty_agg37 rfl rfl rfl rfl (by first | decide | omega) rfl rfl ?_
        intro w st
        refine WL.fin hK875 (fun _ _ h => h) ?_
        refine WC.seq fun K876 hK876 => ?_
        refine WC.seq fun K877 hK877 => ?_
        -- region 11
        refine WC.region ?_
        -- R11.0 83 := laws.go:253 move
        refine WL.v (by first | exact r_move (v := .bool _) rfl | exact r_move rfl) rfl rfl rfl ?_
        -- R11.1 84 := laws.go:253 move
        refine WL.v (by first | exact r_move (v := .bool _) rfl | exact r_move rfl) rfl rfl rfl ?_
        -- R11.2 85 := laws.go:253 fieldAddr
        refine WL.no rfl rfl ?_
        -- R11.3 86 := laws.go:253 load
        refine WL.no rfl rfl ?_
        -- R11.4 87 := laws.go:253 binOp
        refine WL.no rfl rfl ?_
        -- R11.5 88 := laws.go:253 pick
        refine WL.v (by first | exact r_pickT (v := .bool _) rfl rfl | exact r_pickF (v := .bool _) rfl rfl) rfl rfl rfl ?_
        refine WL.fin hK877 (fun _ _ h => h) ?_
        refine WC.condF rfl rfl ?_
        refine WC.skipF hK876 (fun _ _ h => h) ?_
        refine WC.seq fun K878 hK878 => ?_
        refine WC.seq fun K879 hK879 => ?_
        -- region 13
        refine WC.region ?_
        -- R13.0 89 := laws.go:256 fieldAddr
        refine WL.v (by exact r_field ty_fld37_0 rfl) rfl rfl rfl ?_
        -- R13.1 90 := laws.go:256 load
        refine WL.v (by exact r_load1 ty_one35 rfl (by first | assumption | exact st.c0 (by first | decide | omega) | exact st.c1 (by first | decide | omega) | exact st.c2 (by first | decide | omega) | exact st.c3 (by first | decide | omega) | exact st.c4 (by first | decide | omega) | exact st.c5 (by first | decide | omega) | exact st.c6 (by first | decide | omega) | exact st.c7 (by first | decide | omega) | exact st.c8 (by first | decide | omega))) rfl rfl rfl ?_
        -- R13.2 91 := laws.go:256 binOp
        refine WL.v (by first | exact r_neq rfl rfl (decide_eq_true (by omega)) | exact r_neq rfl rfl (decide_eq_false (by omega)) | exact r_neq rfl rfl rfl) rfl rfl rfl ?_
        -- R13.3 92 := laws.go:256 move
        refine WL.v (by first | exact r_move (v := .bool _) rfl | exact r_move rfl) rfl rfl rfl ?_
        -- R13.4 93 := laws.go:256 fieldAddr
        refine WL.v (by exact r_field ty_fld37_0 rfl) rfl rfl rfl ?_
        -- R13.5 94 := laws.go:256 load
        refine WL.v (by exact r_load1 ty_one35 rfl (by first | assumption | exact st.c0 (by first | decide | omega) | exact st.c1 (by first | decide | omega) | exact st.c2 (by first | decide | omega) | exact st.c3 (by first | decide | omega) | exact st.c4 (by first | decide | omega) | exact st.c5 (by first | decide | omega) | exact st.c6 (by first | decide | omega) | exact st.c7 (by first | decide | omega) | exact st.c8 (by first | decide | omega))) rfl rfl rfl ?_
        -- R13.6 95 := laws.go:256 binOp
        refine WL.v (by first | exact r_neq rfl rfl (decide_eq_true (by omega)) | exact r_neq rfl rfl (decide_eq_false (by omega)) | exact r_neq rfl rfl rfl) rfl rfl rfl ?_
        -- R13.7 96 := laws.go:256 move
        refine WL.v (by first | exact r_move (v := .bool _) rfl | exact r_move rfl) rfl rfl rfl ?_
        -- R13.8 97 := laws.go:256 move
        refine WL.v (by first | exact r_move (v := .bool _) rfl | exact r_move rfl) rfl rfl rfl ?_
        -- R13.9 98 := laws.go:256 pick
        refine WL.v (by first | exact r_pickT (v := .bool _) rfl rfl | exact r_pickF (v := .bool _) rfl rfl) rfl rfl rfl ?_
        -- R13.10 99 := laws.go:256 pick
        refine WL.v (by first | exact r_pickT (v := .bool _) rfl rfl | exact r_pickF (v := .bool _) rfl rfl) rfl rfl rfl ?_
        refine WL.fin hK879 (fun _ _ h => h) ?_
        refine WC.condT rfl rfl ?_
        refine WC.exitF hK854 (fun _ _ h => h) ?_
        -- region 16
        refine WC.region ?_
        -- R16.0 106 := laws.go:247 binOp
        refine WL.v (by exact r_add (r := ((i + 1 : Nat) : Int)) rfl rfl ((wi64 (by omega) (by omega)).trans (by omega))) rfl rfl rfl ?_
        -- R16.1 22 := laws.go:247 move
        refine WL.v (by first | exact r_move (v := .int _ _) rfl | exact r_move rfl) rfl rfl rfl ?_
        have h1' : Rep D1' P := by rw [← step_refused hc (.inr hdn)]; exact h1'
        refine WL.next hK1 (fun _ _ h => h) (D1', D2, P, i + 1) ⟨h1', h2, by show i + 1 ≤ n; omega, by show P.wr ≤ 128 * (i + 1); omega, fin1 st⟩ (by show n - (i + 1) < n - i; omega) (by repeat (first | exact sub_nil _ | refine sub_cons rfl rfl ?_))
    · have hc2 := hz rfl
      have hc : (stepP P (op i)).2 ≠ 0 := by omega
      refine WC.seq fun K880 hK880 => ?_
      -- region 10
      refine WC.region ?_
      -- R10.0 80 := laws.go:252 move
      refine WL.v (by first | exact r_move (v := .pointer _) rfl | exact r_move rfl) rfl rfl rfl ?_
      -- R10.1 81 := laws.go:252 load
      refine WL.v (by exact r_loadL (vs := [_, _, _, _, _, _, _, _, _]) ty_agg33 rfl ⟨(by first | assumption | exact st.c0 (by first | decide | omega) | exact st.c1 (by first | decide | omega) | exact st.c2 (by first | decide | omega) | exact st.c3 (by first | decide | omega) | exact st.c4 (by first | decide | omega) | exact st.c5 (by first | decide | omega) | exact st.c6 (by first | decide | omega) | exact st.c7 (by first | decide | omega) | exact st.c8 (by first | decide | omega)), (by first | assumption | exact st.c0 (by first | decide | omega) | exact st.c1 (by first | decide | omega) | exact st.c2 (by first | decide | omega) | exact st.c3 (by first | decide | omega) | exact st.c4 (by first | decide | omega) | exact st.c5 (by first | decide | omega) | exact st.c6 (by first | decide | omega) | exact st.c7 (by first | decide | omega) | exact st.c8 (by first | decide | omega)), (by first | assumption | exact st.c0 (by first | decide | omega) | exact st.c1 (by first | decide | omega) | exact st.c2 (by first | decide | omega) | exact st.c3 (by first | decide | omega) | exact st.c4 (by first | decide | omega) | exact st.c5 (by first | decide | omega) | exact st.c6 (by first | decide | omega) | exact st.c7 (by first | decide | omega) | exact st.c8 (by first | decide | omega)), (by first | assumption | exact st.c0 (by first | decide | omega) | exact st.c1 (by first | decide | omega) | exact st.c2 (by first | decide | omega) | exact st.c3 (by first | decide | omega) | exact st.c4 (by first | decide | omega) | exact st.c5 (by first | decide | omega) | exact st.c6 (by first | decide | omega) | exact st.c7 (by first | decide | omega) | exact st.c8 (by first | decide | omega)), (by first | assumption | exact st.c0 (by first | decide | omega) | exact st.c1 (by first | decide | omega) | exact st.c2 (by first | decide | omega) | exact st.c3 (by first | decide | omega) | exact st.c4 (by first | decide | omega) | exact st.c5 (by first | decide | omega) | exact st.c6 (by first | decide | omega) | exact st.c7 (by first | decide | omega) | exact st.c8 (by first | decide | omega)), (by first | assumption | exact st.c0 (by first | decide | omega) | exact st.c1 (by first | decide | omega) | exact st.c2 (by first | decide | omega) | exact st.c3 (by first | decide | omega) | exact st.c4 (by first | decide | omega) | exact st.c5 (by first | decide | omega) | exact st.c6 (by first | decide | omega) | exact st.c7 (by first | decide | omega) | exact st.c8 (by first | decide | omega)), (by first | assumption | exact st.c0 (by first | decide | omega) | exact st.c1 (by first | decide | omega) | exact st.c2 (by first | decide | omega) | exact st.c3 (by first | decide | omega) | exact st.c4 (by first | decide | omega) | exact st.c5 (by first | decide | omega) | exact st.c6 (by first | decide | omega) | exact st.c7 (by first | decide | omega) | exact st.c8 (by first | decide | omega)), (by first | assumption | exact st.c0 (by first | decide | omega) | exact st.c1 (by first | decide | omega) | exact st.c2 (by first | decide | omega) | exact st.c3 (by first | decide | omega) | exact st.c4 (by first | decide | omega) | exact st.c5 (by first | decide | omega) | exact st.c6 (by first | decide | omega) | exact st.c7 (by first | decide | omega) | exact st.c8 (by first | decide | omega)), (by first | assumption | exact st.c0 (by first | decide | omega) | exact st.c1 (by first | decide | omega) | exact st.c2 (by first | decide | omega) | exact st.c3 (by first | decide | omega) | exact st.c4 (by first | decide | omega) | exact st.c5 (by first | decide | omega) | exact st.c6 (by first | decide | omega) | exact st.c7 (by first | decide | omega) | exact st.c8 (by first | decide | omega)), trivial⟩) rfl rfl rfl ?_
      -- R10.2 82 := laws.go:252 call
      refine WL.call (r_call ty_call14 rfl) rfl rfl rfl (step_ok (o := op i) hg h1 hok (by omega) (st_inF [_, _, _] st.front1)) ?_
      rintro _ w ⟨D1', dv, l1, h1', rfl, hrv, st⟩
      have hse := hrv.sees (w0 := w0) h1.rdr
      obtain ⟨da, dn, dc, rfl⟩ := rv_sl hrv
      have st := st_l2 st
      -- R10.3 10 := laws.go:252 alloc
      refine WL.alloc (m := 2) st ty_zero37 rfl rfl rfl ?_
      intro b10 w st
      -- R10.4 None := laws.go:252 store
      first | refine WL.storeW (vs := [_, _]) st ty_agg37 rfl rfl rfl rfl rfl rfl ?_ | refine WL.storeL (vs := [_, _]) st ty_agg37 rfl rfl rfl rfl (by first | decide | omega) rfl rfl ?_ | refine WL.storeW (vs := [_, _]) st.front1 ty_agg37 rfl rfl rfl rfl rfl rfl ?_ | refine WL.storeL (vs := [_, _]) st.front1 ty_agg37 rfl rfl rfl rfl (by first | decide | omega) rfl rfl ?_ | refine WL.storeW (vs := [_, _]) st.front2 ty_agg37 rfl rfl rfl rfl rfl rfl ?_ | refine WL.storeL (vs := [_, _]) st.front2 ty_agg37 rfl rfl rfl rfl (by first | decide | omega) rfl rfl ?_ | refine WL.storeW (vs := [_, _]) st.front3 ty_agg37 rfl rfl rfl rfl rfl rfl ?_ | refine WL.storeL (vs := [_, _]) st.front3 ty_agg37 rfl rfl rfl rfl (by first | decide | omega) rfl rfl ?_ | refine WL.storeW (vs := [_, _]) st.front4 ty_agg37 rfl rfl rfl rfl rfl rfl ?_ | refine WL.storeL (vs := [_, _]) st.front4 ty_agg37 rfl rfl rfl rfl (by first | decide | omega) rfl rfl ?_ | refine WL.storeW (vs := [_, _]) st.front5 ty_agg37 rfl rfl rfl rfl rfl rfl ?_ | refine WL.storeL (vs := [_, _]) st.front5 ty_agg37 rfl rfl rfl rfl (by first | decide | omega) rfl rfl ?_ | refine WL.storeW (vs := [_, _]) st.front6 ty_agg37 rfl rfl rfl rfl rfl rfl ?_ | refine WL.storeL (vs := [_, _]) st.front6 ty_agg37 rfl rfl rfl rfl (by first | decide | omega) rfl rfl ?_ | refine WL.storeW (vs := [_, _]) st.front7 ty_agg37 rfl rfl rfl rfl rfl rfl ?_ | refine WL.storeL (vs := [_, _]) st.front7 ty_agg37 rfl rfl rfl rfl (by first | decide | omega) rfl rfl ?_ | refine WL.storeW (vs := [_, _]) st.front8 ty_agg37 rfl rfl rfl rfl rfl rfl ?_ | refine WL.storeL (vs := [_, _]) st.front8 ty_agg37 rfl rfl rfl rfl (by first | decide | omega) rfl rfl ?_
      intro w st
      refine WL.fin hK880 (fun _ _ h => h) ?_
      refine WC.seq fun K881 hK881 => ?_
      refine WC.seq fun K882 hK882 => ?_
      -- region 11
      refine WC.region ?_
      -- R11.0 83 := laws.go:253 move
      refine WL.v (by first | exact r_move (v := .bool _) rfl | exact r_move rfl) rfl rfl rfl ?_
      -- R11.1 84 := laws.go:253 move
      refine WL.v (by first | exact r_move (v := .bool _) rfl | exact r_move rfl) rfl rfl rfl ?_
      -- R11.2 85 := laws.go:253 fieldAddr
      refine WL.v (by exact r_field ty_fld37_0 rfl) rfl rfl rfl ?_
      -- R11.3 86 := laws.go:253 load
      refine WL.v (by exact r_load1 ty_one35 rfl (by first | assumption | exact st.c0 (by first | decide | omega) | exact st.c1 (by first | decide | omega) | exact st.c2 (by first | decide | omega) | exact st.c3 (by first | decide | omega) | exact st.c4 (by first | decide | omega) | exact st.c5 (by first | decide | omega) | exact st.c6 (by first | decide | omega) | exact st.c7 (by first | decide | omega) | exact st.c8 (by first | decide | omega))) rfl rfl rfl ?_
      -- R11.4 87 := laws.go:253 binOp
      refine WL.v (by first | exact r_neq rfl rfl (decide_eq_true (by omega)) | exact r_neq rfl rfl (decide_eq_false (by omega)) | exact r_neq rfl rfl rfl) rfl rfl rfl ?_
      -- R11.5 88 := laws.go:253 pick
      refine WL.v (by first | exact r_pickT (v := .bool _) rfl rfl | exact r_pickF (v := .bool _) rfl rfl) rfl rfl rfl ?_
      refine WL.fin hK882 (fun _ _ h => h) ?_
      refine WC.condF rfl rfl ?_
      refine WC.skipF hK881 (fun _ _ h => h) ?_
      refine WC.seq fun K883 hK883 => ?_
      refine WC.seq fun K884 hK884 => ?_
      -- region 13
      refine WC.region ?_
      -- R13.0 89 := laws.go:256 fieldAddr
      refine WL.v (by exact r_field ty_fld37_0 rfl) rfl rfl rfl ?_
      -- R13.1 90 := laws.go:256 load
      refine WL.v (by exact r_load1 ty_one35 rfl (by first | assumption | exact st.c0 (by first | decide | omega) | exact st.c1 (by first | decide | omega) | exact st.c2 (by first | decide | omega) | exact st.c3 (by first | decide | omega) | exact st.c4 (by first | decide | omega) | exact st.c5 (by first | decide | omega) | exact st.c6 (by first | decide | omega) | exact st.c7 (by first | decide | omega) | exact st.c8 (by first | decide | omega))) rfl rfl rfl ?_
      -- R13.2 91 := laws.go:256 binOp
      refine WL.v (by first | exact r_neq rfl rfl (decide_eq_true (by omega)) | exact r_neq rfl rfl (decide_eq_false (by omega)) | exact r_neq rfl rfl rfl) rfl rfl rfl ?_
      -- R13.3 92 := laws.go:256 move
      refine WL.v (by first | exact r_move (v := .bool _) rfl | exact r_move rfl) rfl rfl rfl ?_
      -- R13.4 93 := laws.go:256 fieldAddr
      refine WL.v (by exact r_field ty_fld37_0 rfl) rfl rfl rfl ?_
      -- R13.5 94 := laws.go:256 load
      refine WL.v (by exact r_load1 ty_one35 rfl (by first | assumption | exact st.c0 (by first | decide | omega) | exact st.c1 (by first | decide | omega) | exact st.c2 (by first | decide | omega) | exact st.c3 (by first | decide | omega) | exact st.c4 (by first | decide | omega) | exact st.c5 (by first | decide | omega) | exact st.c6 (by first | decide | omega) | exact st.c7 (by first | decide | omega) | exact st.c8 (by first | decide | omega))) rfl rfl rfl ?_
      -- R13.6 95 := laws.go:256 binOp
      refine WL.v (by first | exact r_neq rfl rfl (decide_eq_true (by omega)) | exact r_neq rfl rfl (decide_eq_false (by omega)) | exact r_neq rfl rfl rfl) rfl rfl rfl ?_
      -- R13.7 96 := laws.go:256 move
      refine WL.v (by first | exact r_move (v := .bool _) rfl | exact r_move rfl) rfl rfl rfl ?_
      -- R13.8 97 := laws.go:256 move
      refine WL.no rfl rfl ?_
      -- R13.9 98 := laws.go:256 pick
      refine WL.v (by first | exact r_pickT (v := .bool _) rfl rfl | exact r_pickF (v := .bool _) rfl rfl) rfl rfl rfl ?_
      -- R13.10 99 := laws.go:256 pick
      refine WL.v (by first | exact r_pickT (v := .bool _) rfl rfl | exact r_pickF (v := .bool _) rfl rfl) rfl rfl rfl ?_
      refine WL.fin hK884 (fun _ _ h => h) ?_
      refine WC.condT rfl rfl ?_
      refine WC.exitF hK854 (fun _ _ h => h) ?_
      -- region 16
      refine WC.region ?_
      -- R16.0 106 := laws.go:247 binOp
      refine WL.v (by exact r_add (r := ((i + 1 : Nat) : Int)) rfl rfl ((wi64 (by omega) (by omega)).trans (by omega))) rfl rfl rfl ?_
      -- R16.1 22 := laws.go:247 move
      refine WL.v (by first | exact r_move (v := .int _ _) rfl | exact r_move rfl) rfl rfl rfl ?_
      have h1' : Rep D1' P := by rw [← step_refused hc (.inl (by omega))]; exact h1'
      refine WL.next hK1 (fun _ _ h => h) (D1', D2, P, i + 1) ⟨h1', h2, by show i + 1 ≤ n; omega, by show P.wr ≤ 128 * (i + 1); omega, fin1 st⟩ (by show n - (i + 1) < n - i; omega) (by repeat (first | exact sub_nil _ | refine sub_cons rfl rfl ?_))
  rw [hw0] at goal
  exact goal
end Go.Proofs.Qxb6500837aDoor

