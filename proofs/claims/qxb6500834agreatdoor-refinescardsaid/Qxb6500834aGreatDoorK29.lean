import Derived.Test.Qxb6500834aGreatDoorK28
set_option linter.unusedVariables false
set_option linter.unusedSimpArgs false
set_option maxRecDepth 20000
namespace Go.Proofs.Qxb6500834aGreatDoor
open Go.RowKit Go.E1 Go.Kern
variable {w0 : World} {L L' l I J K K' X Y : List HI} {w : World} {B : KA} {t r N br : Nat} {held : Nat → Nat → Nat} {queue : Nat → List (Nat × Nat)} {qv : Nat → Value} {XQ : Nat → List HI}

theorem bit65535 : ∀ i, Nat.testBit 65535 i = decide (i < 16) := fun i => by rw [show 65535 = 2 ^ 16 - 1 from rfl, Nat.testBit_two_pow_sub_one]
theorem bit_not {i : Nat} (ht : t < 16) : (65535 - 2 ^ t).testBit i = (decide (i < 16) && !(i == t)) := by
  have h : 65535 - 2 ^ t = 2 ^ 16 - (2 ^ t + 1) := by omega
  have h2 : 2 ^ t < 2 ^ 16 := Nat.pow_lt_pow_right (by decide) ht
  rw [h, Nat.testBit_two_pow_sub_succ h2, Nat.testBit_two_pow]
  congr 2
  rw [Bool.beq_eq_decide_eq, decide_eq_decide]
  exact eq_comm
theorem bit_del {m i : Nat} (ht : t < 16) : (m &&& (65535 - 2 ^ t)).testBit i = (m.testBit i && (decide (i < 16) && !(i == t))) := by rw [Nat.testBit_and, bit_not ht]
theorem tasksP_del {m : Nat} (ht : t < 16) : tasksP (m &&& (65535 - 2 ^ t)) = (tasksP m).filter fun x => !(x == t) := by
  unfold tasksP
  rw [List.filter_filter]
  refine List.filter_congr fun i hi => ?_
  rw [bit_del ht]
  have : i < 16 := List.mem_range.1 hi
  simp [this, Bool.and_comm]
theorem tasksP_nodup (m : Nat) : (tasksP m).Nodup := List.nodup_range.sublist List.filter_sublist
theorem tasksP_dec {m : Nat} (ht : t < 16) (hb : m.testBit t = true) : (tasksP (m &&& (65535 - 2 ^ t))).length + 1 = (tasksP m).length := by
  rw [tasksP_del ht, ← List.countP_eq_length_filter]
  have h1 : (tasksP m).countP (fun x => x == t) = 1 := by
    have := List.Nodup.count (a := t) (tasksP_nodup m)
    rw [if_pos (tasksP_mem.2 ⟨ht, hb⟩)] at this
    exact this
  have h2 := List.length_eq_countP_add_countP (fun x => x == t) (l := tasksP m)
  have h3 : (tasksP m).countP (fun a => decide ¬(a == t) = true) = (tasksP m).countP fun x => !(x == t) := List.countP_congr fun x _ => by simp
  rw [h3] at h2
  omega

/-! Graph reduction. -/
structure RS where
  F : Nat → Int
  m : Nat
  again : Bool
def redS (held : Nat → Nat → Nat) (S : RS) (t : Nat) : RS := ⟨fun r => S.F r + (held t r : Nat), S.m &&& (65535 - 2 ^ t), true⟩
def stT (held : Nat → Nat → Nat) (queue : Nat → List (Nat × Nat)) (S : RS) (t : Nat) : RS := match waitP queue t with
  | some p => if S.F p.1 < p.2.2 then S else redS held S t
  | none => redS held S t
def stPass (held : Nat → Nat → Nat) (queue : Nat → List (Nat × Nat)) (S : RS) : RS := (tasksP S.m).foldl (stT held queue) { S with again := false }
def stO (held : Nat → Nat → Nat) (queue : Nat → List (Nat × Nat)) : Nat → RS → Nat
  | 0, S => S.m
  | k + 1, S => if (stPass held queue S).again then stO held queue k (stPass held queue S) else (stPass held queue S).m
def stuckP (held : Nat → Nat → Nat) (queue : Nat → List (Nat × Nat)) : Nat := stO held queue 17 ⟨freeP held, 65535, true⟩
/-- What a pass keeps to. -/
structure RB (S : RS) : Prop where
  m : S.m < 65536
  f : ∀ r, -256 ≤ S.F r ∧ S.F r ≤ 16 + 16 * (16 - ((tasksP S.m).length : Int))
theorem stT_cases (held : Nat → Nat → Nat) (queue : Nat → List (Nat × Nat)) (S : RS) (t : Nat) : stT held queue S t = S ∨ stT held queue S t = redS held S t := by
  unfold stT
  split
  · split
    · exact .inl rfl
    · exact .inr rfl
  · exact .inr rfl
theorem RB.red {S : RS} (h : RB S) (hh : ∀ t r, held t r ≤ 16) (ht : t < 16) (hb : S.m.testBit t = true) : RB (redS held S t) ∧ (tasksP (redS held S t).m).length < (tasksP S.m).length := by
  have hd := tasksP_dec ht hb
  refine ⟨⟨andlt h.m, fun r => ?_⟩, ?_⟩
  · have h1 := h.f r
    have h2 := hh t r
    show -256 ≤ S.F r + (held t r : Nat) ∧ S.F r + (held t r : Nat) ≤ 16 + 16 * (16 - ((tasksP (S.m &&& (65535 - 2 ^ t))).length : Int))
    omega
  · show (tasksP (S.m &&& (65535 - 2 ^ t))).length < _
    omega

set_option maxHeartbeats 4000000 in
theorem stuck_ok (hD : gD w0) (hh : ∀ t r, held t r ≤ 16) (hqt : ∀ r p, p ∈ queue r → p.1 < 16 ∧ p.2 ≤ 16) (hm : rI br held qv ∈ l) (hq : ∀ r, r < 20 → QL0 (qv r) (queue r) (XQ r)) (hX : ∀ r, r < 20 → XQ r ⊆ l) (st : S0 w0 l w) :
    Calls Tryz.prog 150 #[.pointer (some ⟨br, 0, none⟩)] w (Ret fun v w' => v = .int .u16 (stuckP held queue : Nat) ∧ S0 w0 l w') := by
  have hfr : ∀ r, -256 ≤ freeP held r ∧ freeP held r ≤ 16 := fun r => by
    have h1 := sumP_le (f := fun t => held t r) (fun t => hh t r) 16
    have h2 := totP_le r
    unfold freeP
    omega
  refine enter [.pointer (some ⟨br, 0, none⟩)] Tryz.func150 rfl Tryz.ntmps150 rfl ?_
  show WC _ _ _ 65 [] [(0, .pointer (some ⟨br, 0, none⟩))] _
  refine WC.seq fun K1027 hK1027 => ?_
  -- region 0
  refine WC.region ?_
  -- R0.0 2 := detectm.go:44 assign
  refine WL.v (by first | exact r_assign (v := .int _ _) rfl | exact r_assign rfl) rfl rfl rfl ?_
  refine WL.fin hK1027 (fun _ _ h => h) ?_
  refine WC.seq fun K1028 hK1028 => ?_
  -- region 1
  refine WC.region ?_
  -- R1.0 3 := detectm.go:45 alloc
  refine WL.allocN (m := 20) st ty_zeroN44 rfl rfl ?_
  intro b3 w st
  refine WL.fin hK1028 (fun _ _ h => h) ?_
  refine WC.seq fun K1029 hK1029 => ?_
  refine WC.seq fun K1030 hK1030 => ?_
  -- region 2
  refine WC.region ?_
  -- R2.0 13 := detectm.go:46 move
  refine WL.v (by first | exact r_move (v := .int _ _) rfl | exact r_move rfl) rfl rfl rfl ?_
  refine WL.fin hK1030 (fun _ _ h => h) ?_
  refine WC.block ?_
  refine WC.loop (ι := Nat × (Nat → Int)) (fun y => [(0, .pointer (some ⟨br, 0, none⟩)), (3, .pointer (some ⟨b3, 0, none⟩)), (13, .int .i64 (y.1 : Nat))])
    (fun y w' => y.1 ≤ 20 ∧ (∀ r, r < y.1 → y.2 r = freeP held r) ∧ S0 w0 ((b3, Row 44 20 (iF y.2)) :: l) w') (fun y => 20 - y.1) (0, fun _ => 0) ⟨Nat.zero_le _, fun r hr => absurd hr (Nat.not_lt_zero _), st⟩ ?_ ?_
  · skip
    repeat (first | exact sub_nil _ | refine sub_cons rfl rfl ?_)
  clear st
  rintro ⟨i, F⟩ w ⟨hi, hF, st⟩ K1 hK1
  dsimp only at hi hF st ⊢
  by_cases h20 : i = 20
  rotate_left
  · have hi' : i < 20 := by omega
    refine WC.seq fun K1031 hK1031 => ?_
    -- region 3
    refine WC.region ?_
    -- R3.0 14 := detectm.go:46 binOp
    refine WL.v (by first | exact r_lss rfl rfl (decide_eq_true (by omega)) | exact r_lss rfl rfl (decide_eq_false (by omega)) | exact r_lss rfl rfl rfl) rfl rfl rfl ?_
    refine WL.fin hK1031 (fun _ _ h => h) ?_
    refine WC.seq fun K1032 hK1032 => ?_
    refine WC.condT rfl rfl ?_
    refine WC.skipF hK1032 (fun _ _ h => h) ?_
    refine WC.seq fun K1033 hK1033 => ?_
    refine WC.block ?_
    refine WC.seq fun K1034 hK1034 => ?_
    -- region 4
    refine WC.region ?_
    -- R4.0 15 := detectm.go:46 move
    refine WL.v (by first | exact r_move (v := .int _ _) rfl | exact r_move rfl) rfl rfl rfl ?_
    -- R4.1 4 := detectm.go:46 assign
    refine WL.v (by first | exact r_assign (v := .int _ _) rfl | exact r_assign rfl) rfl rfl rfl ?_
    refine WL.fin hK1034 (fun _ _ h => h) ?_
    -- region 5
    refine WC.region ?_
    -- R5.0 16 := detectm.go:47 move
    refine WL.v (by first | exact r_move (v := .int _ _) rfl | exact r_move rfl) rfl rfl rfl ?_
    -- R5.1 17 := detectm.go:47 move
    refine WL.v (by first | exact r_move (v := .pointer _) rfl | exact r_move rfl) rfl rfl rfl ?_
    -- R5.2 18 := detectm.go:47 move
    refine WL.v (by first | exact r_move (v := .int _ _) rfl | exact r_move rfl) rfl rfl rfl ?_
    -- R5.3 19 := detectm.go:47 call
    refine WL.call (r_call ty_call161 rfl) rfl rfl rfl (free_ok hh hi' (List.mem_cons_of_mem _ hm) st) ?_
    rintro _ w ⟨rfl, st⟩
    -- R5.4 20 := detectm.go:47 indexAddr
    refine WL.v (by exact r_indexA (j := i) ty_ar44 rfl rfl rfl hi') rfl rfl rfl ?_
    -- R5.5 None := detectm.go:47 store
    first | refine WL.store (v := .int _ _) st ty_one3 rfl rfl rfl (by first | decide | omega) rfl rfl ?_ | refine WL.store (v := _) st ty_one3 rfl rfl rfl (by first | decide | omega) rfl rfl ?_ | refine WL.store (v := .int _ _) st.front1 ty_one3 rfl rfl rfl (by first | decide | omega) rfl rfl ?_ | refine WL.store (v := _) st.front1 ty_one3 rfl rfl rfl (by first | decide | omega) rfl rfl ?_ | refine WL.store (v := .int _ _) st.front2 ty_one3 rfl rfl rfl (by first | decide | omega) rfl rfl ?_ | refine WL.store (v := _) st.front2 ty_one3 rfl rfl rfl (by first | decide | omega) rfl rfl ?_ | refine WL.store (v := .int _ _) st.front3 ty_one3 rfl rfl rfl (by first | decide | omega) rfl rfl ?_ | refine WL.store (v := _) st.front3 ty_one3 rfl rfl rfl (by first | decide | omega) rfl rfl ?_ | refine WL.store (v := .int _ _) st.front4 ty_one3 rfl rfl rfl (by first | decide | omega) rfl rfl ?_ | refine WL.store (v := _) st.front4 ty_one3 rfl rfl rfl (by first | decide | omega) rfl rfl ?_ | refine WL.store (v := .int _ _) st.front5 ty_one3 rfl rfl rfl (by first | decide | omega) rfl rfl ?_ | refine WL.store (v := _) st.front5 ty_one3 rfl rfl rfl (by first | decide | omega) rfl rfl ?_ | refine WL.store (v := .int _ _) st.front6 ty_one3 rfl rfl rfl (by first | decide | omega) rfl rfl ?_ | refine WL.store (v := _) st.front6 ty_one3 rfl rfl rfl (by first | decide | omega) rfl rfl ?_ | refine WL.store (v := .int _ _) st.front7 ty_one3 rfl rfl rfl (by first | decide | omega) rfl rfl ?_ | refine WL.store (v := _) st.front7 ty_one3 rfl rfl rfl (by first | decide | omega) rfl rfl ?_ | refine WL.store (v := .int _ _) st.front8 ty_one3 rfl rfl rfl (by first | decide | omega) rfl rfl ?_ | refine WL.store (v := _) st.front8 ty_one3 rfl rfl rfl (by first | decide | omega) rfl rfl ?_
    intro w st
    refine WL.fin hK1033 (fun _ _ h => h) ?_
    -- region 6
    refine WC.region ?_
    -- R6.0 21 := detectm.go:46 binOp
    refine WL.v (by first | exact r_add rfl rfl (wi64 (by omega) (by omega)) | exact r_add rfl rfl rfl) rfl rfl rfl ?_
    -- R6.1 13 := detectm.go:46 move
    refine WL.v (by first | exact r_move (v := .int _ _) rfl | exact r_move rfl) rfl rfl rfl ?_
    refine WL.next hK1 (fun _ _ h => h) (i + 1, updN F i (freeP held i)) ⟨hi', fun r hr => by { have hr : r < i + 1 := hr; by_cases hri : r = i; · { subst hri; exact updN_same }; · { show updN F i _ r = _; rw [updN_ne hri]; exact hF r (by omega) } }, stE (iF_set (n := 20)) st⟩ (by show 20 - (i + 1) < 20 - i; omega) (by repeat (first | exact sub_nil _ | refine sub_cons rfl rfl ?_))
  subst h20
  have st : S0 w0 ((b3, Row 44 20 (iF (freeP held))) :: l) w := stE (fun k hk => by unfold iF; rw [hF k hk]) st
  clear hF
  refine WC.seq fun K1035 hK1035 => ?_
  -- region 3
  refine WC.region ?_
  -- R3.0 14 := detectm.go:46 binOp
  refine WL.v (by first | exact r_lss rfl rfl (decide_eq_true (by omega)) | exact r_lss rfl rfl (decide_eq_false (by omega)) | exact r_lss rfl rfl rfl) rfl rfl rfl ?_
  refine WL.fin hK1035 (fun _ _ h => h) ?_
  refine WC.seq fun K1036 hK1036 => ?_
  refine WC.condF rfl rfl ?_
  refine WC.exitF hK1029 (fun _ _ h => h) ?_
  refine WC.seq fun K1037 hK1037 => ?_
  -- region 7
  refine WC.region ?_
  -- R7.0 5 := detectm.go:49 assign
  refine WL.v (by first | exact r_assign (v := .int _ _) rfl | exact r_assign rfl) rfl rfl rfl ?_
  refine WL.fin hK1037 (fun _ _ h => h) ?_
  refine WC.seq fun K1038 hK1038 => ?_
  refine WC.seq fun K1039 hK1039 => ?_
  -- region 8
  refine WC.region ?_
  -- R8.0 6 := detectm.go:50 assign
  refine WL.v (by first | exact r_assign (v := .bool _) rfl | exact r_assign rfl) rfl rfl rfl ?_
  refine WL.fin hK1039 (fun _ _ h => h) ?_
  refine WC.block ?_
  have hl16 : (tasksP 65535).length = 16 := by decide
  refine WC.loop (ι := RS × Nat) (fun y => [(0, .pointer (some ⟨br, 0, none⟩)), (3, .pointer (some ⟨b3, 0, none⟩)), (5, .int .u16 (y.1.m : Nat)), (6, .bool y.1.again)])
    (fun y w' => RB y.1 ∧ (if y.1.again then (tasksP y.1.m).length < y.2 ∧ stO held queue y.2 y.1 = stuckP held queue else y.1.m = stuckP held queue) ∧ S0 w0 ((b3, Row 44 20 (iF y.1.F)) :: l) w') (fun y => if y.1.again then y.2 + 1 else 0)
    (⟨freeP held, 65535, true⟩, 17) ⟨⟨by show 65535 < 65536; decide, fun r => by have := hfr r; show -256 ≤ freeP held r ∧ freeP held r ≤ 16 + 16 * (16 - ((tasksP 65535).length : Int)); rw [hl16]; omega⟩, ⟨by show (tasksP 65535).length < 17; rw [hl16]; decide, rfl⟩, st⟩ ?_ ?_
  · skip
    repeat (first | exact sub_nil _ | refine sub_cons rfl rfl ?_)
  clear st
  rintro ⟨S, k⟩ w ⟨hRB, hk, st⟩ K2 hK2
  dsimp only at hRB hk st ⊢
  rcases Bool.eq_false_or_eq_true S.again with hag | hag
  rotate_left
  · rw [hag] at hk ⊢
    obtain hk : S.m = stuckP held queue := hk
    refine WC.seq fun K1040 hK1040 => ?_
    refine WC.seq fun K1041 hK1041 => ?_
    -- region 9
    refine WC.region ?_
    -- R9.0 22 := detectm.go:50 move
    refine WL.v (by first | exact r_move (v := .bool _) rfl | exact r_move rfl) rfl rfl rfl ?_
    refine WL.fin hK1041 (fun _ _ h => h) ?_
    refine WC.condF rfl rfl ?_
    refine WC.exitF hK1038 (fun _ _ h => h) ?_
    refine WC.seq fun K1042 hK1042 => ?_
    -- region 24
    refine WC.region ?_
    -- R24.0 64 := detectm.go:63 move
    refine WL.v (by first | exact r_move (v := .int _ _) rfl | exact r_move rfl) rfl rfl rfl ?_
    -- R24.1 2 := detectm.go:63 assign
    refine WL.v (by first | exact r_assign (v := .int _ _) rfl | exact r_assign rfl) rfl rfl rfl ?_
    refine WL.fin hK1042 (fun _ _ h => h) ?_
    refine WC.ret1 Tryz.results150 (fun _ _ h => h) rfl ?_
    exact ⟨_, rfl, by rw [← hk]; rfl, st.drop⟩
  rw [hag] at hk ⊢
  obtain ⟨hk, hwk⟩ : (tasksP S.m).length < k ∧ stO held queue k S = stuckP held queue := hk
  obtain ⟨k, rfl⟩ : ∃ m, k = m + 1 := ⟨k - 1, by omega⟩
  have hwk : (if (stPass held queue S).again then stO held queue k (stPass held queue S) else (stPass held queue S).m) = stuckP held queue := hwk
  obtain ⟨Ts, hTs⟩ : ∃ Ts, Ts = tasksP S.m := ⟨_, rfl⟩
  obtain ⟨σ, hσ⟩ : ∃ σ : Nat → RS, σ = fun i => (Ts.take i).foldl (stT held queue) { S with again := false } := ⟨_, rfl⟩
  have hσ0 : σ 0 = { S with again := false } := by rw [hσ]; rfl
  have hσs : ∀ i o, Ts[i]? = some o → σ (i + 1) = stT held queue (σ i) o := fun i o h => by rw [hσ]; exact foldl_snoc h
  have hσe : stPass held queue S = σ Ts.length := by rw [hσ]; show _ = (Ts.take Ts.length).foldl _ _; rw [List.take_length, hTs]; rfl
  rw [hσe] at hwk
  clear hσ hσe
  have hnd : Ts.Nodup := by rw [hTs]; exact tasksP_nodup _
  have hT16 : ∀ o, o ∈ Ts → o < 16 := fun o h => by rw [hTs] at h; exact tasksP_lt h
  have hTb : ∀ j o, Ts[j]? = some o → S.m.testBit o = true := fun j o h => by have := List.mem_of_getElem? h; rw [hTs] at this; exact (tasksP_mem.1 this).2
  refine WC.seq fun K1043 hK1043 => ?_
  refine WC.seq fun K1044 hK1044 => ?_
  -- region 9
  refine WC.region ?_
  -- R9.0 22 := detectm.go:50 move
  refine WL.v (by first | exact r_move (v := .bool _) rfl | exact r_move rfl) rfl rfl rfl ?_
  refine WL.fin hK1044 (fun _ _ h => h) ?_
  refine WC.condT rfl rfl ?_
  refine WC.skipF hK1043 (fun _ _ h => h) ?_
  refine WC.block ?_
  refine WC.seq fun K1045 hK1045 => ?_
  -- region 10
  refine WC.region ?_
  -- R10.0 6 := detectm.go:51 assign
  refine WL.v (by first | exact r_assign (v := .bool _) rfl | exact r_assign rfl) rfl rfl rfl ?_
  refine WL.fin hK1045 (fun _ _ h => h) ?_
  refine WC.seq fun K1046 hK1046 => ?_
  -- region 11
  refine WC.region ?_
  -- R11.0 23 := detectm.go:52 move
  refine WL.v (by first | exact r_move (v := .int _ _) rfl | exact r_move rfl) rfl rfl rfl ?_
  -- R11.1 24 := detectm.go:52 call
  refine WL.call (r_call ty_call31 rfl) rfl rfl rfl (tasks_ok hD hRB.m st) ?_
  rintro _ w ⟨X, ho, st⟩
  rw [← hTs] at ho
  obtain ⟨a, c, b, rfl, hc1, hc2, ha, hcell⟩ := ho.form
  have st : S0 w0 ((b3, Row 44 20 (iF S.F)) :: (X ++ l)) w := st.perm (by classical exact List.perm_iff_count.2 fun x => by simp only [List.count_append, List.count_cons, List.count_nil, List.append_eq, List.cons_append, List.nil_append, List.append_assoc, Nat.add_zero, Nat.zero_add] <;> ac_rfl)
  -- R11.2 25 := detectm.go:52 call
  refine WL.v (by exact r_len ty_usl54 rfl) rfl rfl rfl ?_
  -- R11.3 26 := detectm.go:52 move
  refine WL.v (by first | exact r_move (v := .int _ _) rfl | exact r_move rfl) rfl rfl rfl ?_
  refine WL.fin hK1046 (fun _ _ h => h) ?_
  refine WC.block ?_
  refine WC.loop (ι := Nat) (fun i => [(0, .pointer (some ⟨br, 0, none⟩)), (3, .pointer (some ⟨b3, 0, none⟩)), (5, .int .u16 ((σ i).m : Nat)), (6, .bool (σ i).again), (24, .slice a Ts.length c), (25, .int .i64 (Ts.length : Nat)), (26, .int .i64 (i : Nat))])
    (fun i w' => i ≤ Ts.length ∧ RB (σ i) ∧ (tasksP (σ i).m).length + (if (σ i).again then 1 else 0) ≤ (tasksP S.m).length ∧ (∀ j o, i ≤ j → Ts[j]? = some o → (σ i).m.testBit o = true) ∧ S0 w0 ((b3, Row 44 20 (iF (σ i).F)) :: (X ++ l)) w') (fun i => Ts.length - i)
    0 ⟨Nat.zero_le _, by rw [hσ0]; exact ⟨hRB.m, hRB.f⟩, by rw [hσ0]; exact Nat.le_refl _, fun j o _ h => by rw [hσ0]; exact hTb j o h, by rw [hσ0]; exact st⟩ (by rw [hσ0]; repeat (first | exact sub_nil _ | refine sub_cons rfl rfl ?_)) ?_
  clear st
  rintro i w ⟨hi, hRi, hci, hbi, st⟩ K3 hK3
  by_cases hil : i = Ts.length
  · subst hil
    obtain ⟨Z, hZ⟩ : ∃ Z, Z = σ Ts.length := ⟨_, rfl⟩
    rw [← hZ] at st hRi hci hwk ⊢
    have st : S0 w0 ((b3, Row 44 20 (iF Z.F)) :: l) w := st.sublist ((List.sublist_append_right X l).cons_cons _)
    have hn : (if Z.again then (tasksP Z.m).length < k ∧ stO held queue k Z = stuckP held queue else Z.m = stuckP held queue) := by
      revert hwk hci
      cases Z.again
      · intro h _; exact h
      · intro h1 h2; exact ⟨by have : (tasksP Z.m).length + 1 ≤ (tasksP S.m).length := h2; omega, h1⟩
    refine WC.seq fun K1047 hK1047 => ?_
    -- region 12
    refine WC.region ?_
    -- R12.0 27 := detectm.go:52 binOp
    refine WL.v (by first | exact r_lss rfl rfl (decide_eq_true (by omega)) | exact r_lss rfl rfl (decide_eq_false (by omega)) | exact r_lss rfl rfl rfl) rfl rfl rfl ?_
    refine WL.fin hK1047 (fun _ _ h => h) ?_
    refine WC.seq fun K1048 hK1048 => ?_
    refine WC.condF rfl rfl ?_
    refine WC.exitN hK2 (fun _ _ h => h) (Z, k) ⟨hRi, hn, st⟩ (by rw [hag]; show (if Z.again then k + 1 else 0) < k + 1 + 1; split <;> omega) (by repeat (first | exact sub_nil _ | refine sub_cons rfl rfl ?_))
  have hil' : i < Ts.length := by omega
  obtain ⟨o, hoi⟩ : ∃ o, Ts[i]? = some o := ⟨Ts[i], List.getElem?_eq_getElem hil'⟩
  have ho16 := hT16 o (List.mem_of_getElem? hoi)
  have hbo := hbi i o (Nat.le_refl _) hoi
  have hsi := hσs i o hoi
  obtain rfl := ha (by omega)
  have hce := hcell st (fun x hx => List.mem_cons_of_mem _ (List.mem_append_left _ hx)) i o hoi 0 (by decide)
  have hm' : rI br held qv ∈ (b3, Row 44 20 (iF (σ i).F)) :: (X ++ l) := List.mem_cons_of_mem _ (List.mem_append_right _ hm)
  rcases hwe : waitP queue o with _ | p
  · have hw : waitP queue o = none := hwe
    have hsr : σ (i + 1) = redS held (σ i) o := by rw [hsi]; unfold stT; rw [hw]
    refine WC.seq fun K1049 hK1049 => ?_
    -- region 12
    refine WC.region ?_
    -- R12.0 27 := detectm.go:52 binOp
    refine WL.v (by first | exact r_lss rfl rfl (decide_eq_true (by omega)) | exact r_lss rfl rfl (decide_eq_false (by omega)) | exact r_lss rfl rfl rfl) rfl rfl rfl ?_
    refine WL.fin hK1049 (fun _ _ h => h) ?_
    refine WC.seq fun K1050 hK1050 => ?_
    refine WC.condT rfl rfl ?_
    refine WC.skipF hK1050 (fun _ _ h => h) ?_
    refine WC.seq fun K1051 hK1051 => ?_
    refine WC.block ?_
    refine WC.seq fun K1052 hK1052 => ?_
    -- region 13
    refine WC.region ?_
    -- R13.0 28 := detectm.go:52 indexAddr
    refine WL.v (by exact r_indexS (j := i) ty_sl54 rfl rfl rfl (by omega)) rfl rfl rfl ?_
    -- R13.1 29 := detectm.go:52 load
    refine WL.v (by exact r_load1 (v := .int .i64 (o : Nat)) ty_one31 rfl (by rw [Nat.zero_add]; exact hce)) rfl rfl rfl ?_
    -- R13.2 8 := detectm.go:52 assign
    refine WL.v (by first | exact r_assign (v := .int _ _) rfl | exact r_assign rfl) rfl rfl rfl ?_
    refine WL.fin hK1052 (fun _ _ h => h) ?_
    refine WC.seq fun K1053 hK1053 => ?_
    refine WC.seq fun K1054 hK1054 => ?_
    -- region 14
    refine WC.region ?_
    -- R14.0 31 := detectm.go:53 move
    refine WL.v (by first | exact r_move (v := .pointer _) rfl | exact r_move rfl) rfl rfl rfl ?_
    -- R14.1 32 := detectm.go:53 move
    refine WL.v (by first | exact r_move (v := .int _ _) rfl | exact r_move rfl) rfl rfl rfl ?_
    -- R14.2 33 := detectm.go:53 call
    refine WL.call (r_call ty_call167 rfl) rfl rfl rfl (waitingOn_ok (t := o) hm' hq (fun r hr x hx => List.mem_cons_of_mem _ (List.mem_append_right _ (hX r hr hx))) st) ?_
    rintro _ w ⟨he, st⟩
    rw [hw] at he
    subst he
    -- R14.3 30 := detectm.go:53 move
    refine WL.v (by first | exact r_move (v := .tuple _) rfl | exact r_move rfl) rfl rfl rfl ?_
    -- R14.4 34 := detectm.go:53 extract
    refine WL.v (by first | exact r_extract (v := .int _ _) rfl rfl | exact r_extract rfl rfl) rfl rfl rfl ?_
    -- R14.5 35 := detectm.go:53 extract
    refine WL.v (by first | exact r_extract (v := .agg _) rfl rfl | exact r_extract rfl rfl) rfl rfl rfl ?_
    -- R14.6 36 := detectm.go:53 extract
    refine WL.v (by first | exact r_extract (v := .bool _) rfl rfl | exact r_extract rfl rfl) rfl rfl rfl ?_
    -- R14.7 10 := detectm.go:53 alloc
    refine WL.alloc (m := 2) st ty_zero61 rfl rfl rfl ?_
    intro b10 w st
    -- R14.8 9 := detectm.go:53 assign
    refine WL.v (by first | exact r_assign (v := .int _ _) rfl | exact r_assign rfl) rfl rfl rfl ?_
    -- R14.9 None := detectm.go:53 store
    first | refine WL.storeW (vs := [_, _]) st ty_agg61 rfl rfl rfl rfl rfl rfl ?_ | refine WL.storeL (vs := [_, _]) st ty_agg61 rfl rfl rfl rfl (by first | decide | omega) rfl rfl ?_ | refine WL.storeW (vs := [_, _]) st.front1 ty_agg61 rfl rfl rfl rfl rfl rfl ?_ | refine WL.storeL (vs := [_, _]) st.front1 ty_agg61 rfl rfl rfl rfl (by first | decide | omega) rfl rfl ?_ | refine WL.storeW (vs := [_, _]) st.front2 ty_agg61 rfl rfl rfl rfl rfl rfl ?_ | refine WL.storeL (vs := [_, _]) st.front2 ty_agg61 rfl rfl rfl rfl (by first | decide | omega) rfl rfl ?_ | refine WL.storeW (vs := [_, _]) st.front3 ty_agg61 rfl rfl rfl rfl rfl rfl ?_ | refine WL.storeL (vs := [_, _]) st.front3 ty_agg61 rfl rfl rfl rfl (by first | decide | omega) rfl rfl ?_ | refine WL.storeW (vs := [_, _]) st.front4 ty_agg61 rfl rfl rfl rfl rfl rfl ?_ | refine WL.storeL (vs := [_, _]) st.front4 ty_agg61 rfl rfl rfl rfl (by first | decide | omega) rfl rfl ?_ | refine WL.storeW (vs := [_, _]) st.front5 ty_agg61 rfl rfl rfl rfl rfl rfl ?_ | refine WL.storeL (vs := [_, _]) st.front5 ty_agg61 rfl rfl rfl rfl (by first | decide | omega) rfl rfl ?_ | refine WL.storeW (vs := [_, _]) st.front6 ty_agg61 rfl rfl rfl rfl rfl rfl ?_ | refine WL.storeL (vs := [_, _]) st.front6 ty_agg61 rfl rfl rfl rfl (by first | decide | omega) rfl rfl ?_ | refine WL.storeW (vs := [_, _]) st.front7 ty_agg61 rfl rfl rfl rfl rfl rfl ?_ | refine WL.storeL (vs := [_, _]) st.front7 ty_agg61 rfl rfl rfl rfl (by first | decide | omega) rfl rfl ?_ | refine WL.storeW (vs := [_, _]) st.front8 ty_agg61 rfl rfl rfl rfl rfl rfl ?_ | refine WL.storeL (vs := [_, _]) st.front8 ty_agg61 rfl rfl rfl rfl (by first | decide | omega) rfl rfl ?_
    intro w st
    -- R14.10 11 := detectm.go:53 assign
    refine WL.v (by first | exact r_assign (v := .bool _) rfl | exact r_assign rfl) rfl rfl rfl ?_
    refine WL.fin hK1054 (fun _ _ h => h) ?_
    refine WC.seq fun K1055 hK1055 => ?_
    -- region 15 (draws)
    refine WC.quietS st ty_mixed (by kernel_rfl) fun Kq hKq => ?_
    -- R15.0 37 := detectm.go:53 move
    refine QL.v (fun w st => by first | exact r_move (v := .bool _) rfl | exact r_move rfl) rfl rfl rfl ?_
    -- R15.1 38 := detectm.go:53 move
    refine QL.v (fun w st => by first | exact r_move (v := .bool _) rfl | exact r_move rfl) rfl rfl rfl ?_
    -- R15.2 39 := detectm.go:53 fieldAddr
    refine QL.no rfl rfl ?_
    -- R15.3 40 := detectm.go:53 load
    refine QL.no rfl rfl ?_
    -- R15.4 41 := detectm.go:53 move
    refine QL.no rfl rfl ?_
    -- R15.5 42 := detectm.go:53 indexAddr
    refine QL.no rfl rfl ?_
    -- R15.6 43 := detectm.go:53 load
    refine QL.no rfl rfl ?_
    -- R15.7 44 := detectm.go:53 binOp
    refine QL.no rfl rfl ?_
    -- R15.8 45 := detectm.go:53 pick
    refine QL.v (fun w st => by first | exact r_pickT (v := .bool _) rfl rfl | exact r_pickF (v := .bool _) rfl rfl) rfl rfl rfl ?_
    refine QL.wl hKq fun w st => ?_
    refine WL.fin hK1055 (fun _ _ h => h) ?_
    refine WC.condF rfl rfl ?_
    refine WC.skipF hK1053 (fun _ _ h => h) ?_
    refine WC.seq fun K1056 hK1056 => ?_
    refine WC.seq fun K1057 hK1057 => ?_
    -- region 16
    refine WC.region ?_
    -- R16.0 46 := detectm.go:56 move
    refine WL.v (by first | exact r_move (v := .int _ _) rfl | exact r_move rfl) rfl rfl rfl ?_
    refine WL.fin hK1057 (fun _ _ h => h) ?_
    refine WC.block ?_
    have hred := hRi.red hh ho16 hbo
    refine WC.loop (ι := Nat × (Nat → Int)) (fun y => [(0, .pointer (some ⟨br, 0, none⟩)), (3, .pointer (some ⟨b3, 0, none⟩)), (5, .int .u16 ((σ i).m : Nat)), (6, .bool (σ i).again), (8, .int .i64 (o : Nat)), (24, .slice (some ⟨b, 0, none⟩) Ts.length c), (25, .int .i64 (Ts.length : Nat)), (26, .int .i64 (i : Nat)), (46, .int .i64 (y.1 : Nat))])
      (fun y w' => y.1 ≤ 20 ∧ (∀ r, r < y.1 → y.2 r = (σ i).F r + (held o r : Nat)) ∧ (∀ r, y.1 ≤ r → y.2 r = (σ i).F r) ∧ S0 w0 ((b3, Row 44 20 (iF y.2)) :: (X ++ l)) w') (fun y => 20 - y.1)
      (0, (σ i).F) ⟨Nat.zero_le _, fun r hr => absurd hr (Nat.not_lt_zero _), fun _ _ => rfl, st.drop⟩ ?_ ?_
    · skip
      repeat (first | exact sub_nil _ | refine sub_cons rfl rfl ?_)
    clear st
    rintro ⟨j, F'⟩ w ⟨hj, hFa, hFc, st⟩ K4 hK4
    dsimp only at hj hFa hFc st ⊢
    by_cases hj20 : j = 20
    · subst hj20
      have st : S0 w0 ((b3, Row 44 20 (iF fun r => (σ i).F r + (held o r : Nat))) :: (X ++ l)) w := stE (fun k hk => by unfold iF; rw [hFa k hk]) st
      refine WC.seq fun K1058 hK1058 => ?_
      -- region 17
      refine WC.region ?_
      -- R17.0 47 := detectm.go:56 binOp
      refine WL.v (by first | exact r_lss rfl rfl (decide_eq_true (by omega)) | exact r_lss rfl rfl (decide_eq_false (by omega)) | exact r_lss rfl rfl rfl) rfl rfl rfl ?_
      refine WL.fin hK1058 (fun _ _ h => h) ?_
      refine WC.seq fun K1059 hK1059 => ?_
      refine WC.condF rfl rfl ?_
      refine WC.exitF hK1056 (fun _ _ h => h) ?_
      refine WC.seq fun K1060 hK1060 => ?_
      -- region 21
      refine WC.region ?_
      -- R21.0 59 := detectm.go:59 move
      refine WL.v (by first | exact r_move (v := .int _ _) rfl | exact r_move rfl) rfl rfl rfl ?_
      -- R21.1 60 := detectm.go:59 move
      refine WL.v (by first | exact r_move (v := .int _ _) rfl | exact r_move rfl) rfl rfl rfl ?_
      -- R21.2 61 := detectm.go:59 call
      refine WL.call (r_call ty_call30 rfl) rfl rfl rfl (bit_ok ho16 st) ?_
      rintro _ w ⟨rfl, st⟩
      -- R21.3 62 := detectm.go:59 binOp
      refine WL.v (by exact r_andNot (r := (((redS held (σ i) o).m : Nat) : Int)) rfl rfl (andNot16 hRi.m (pow16 ho16))) rfl rfl rfl ?_
      -- R21.4 5 := detectm.go:59 assign
      refine WL.v (by first | exact r_assign (v := .int _ _) rfl | exact r_assign rfl) rfl rfl rfl ?_
      refine WL.fin hK1060 (fun _ _ h => h) ?_
      -- region 22
      refine WC.region ?_
      -- R22.0 6 := detectm.go:60 assign
      refine WL.v (by first | exact r_assign (v := .bool _) rfl | exact r_assign rfl) rfl rfl rfl ?_
      refine WL.fin hK1051 (fun _ _ h => h) ?_
      -- region 23
      refine WC.region ?_
      -- R23.0 63 := detectm.go:52 binOp
      refine WL.v (by first | exact r_add rfl rfl (wi64 (by omega) (by omega)) | exact r_add rfl rfl rfl) rfl rfl rfl ?_
      -- R23.1 26 := detectm.go:52 move
      refine WL.v (by first | exact r_move (v := .int _ _) rfl | exact r_move rfl) rfl rfl rfl ?_
      have hnx : i + 1 ≤ Ts.length ∧ RB (σ (i + 1)) ∧ (tasksP (σ (i + 1)).m).length + (if (σ (i + 1)).again then 1 else 0) ≤ (tasksP S.m).length ∧ (∀ j o, i + 1 ≤ j → Ts[j]? = some o → (σ (i + 1)).m.testBit o = true) ∧ S0 w0 ((b3, Row 44 20 (iF (σ (i + 1)).F)) :: (X ++ l)) w := by
        rw [hsr]
        refine ⟨hil', hred.1, ?_, fun j o' hj ho' => ?_, st⟩
        · have h1 := hred.2
          have h2 : (tasksP (σ i).m).length ≤ (tasksP S.m).length := Nat.le_trans (Nat.le_add_right _ _) hci
          show (tasksP (redS held (σ i) o).m).length + 1 ≤ _
          omega
        · show ((σ i).m &&& (65535 - 2 ^ o)).testBit o' = true
          have hne : o' ≠ o := fun e => by
            subst e
            have hji := (List.getElem?_inj (i := i) (j := j) hil' hnd).1 (hoi.trans ho'.symm)
            omega
          have ho2 := hT16 o' (List.mem_of_getElem? ho')
          rw [bit_del ho16, hbi j o' (by omega) ho']
          simp [hne, ho2]
      refine WL.next hK3 (fun _ _ h => h) (i + 1) hnx (by omega) (by rw [hsr]; repeat (first | exact sub_nil _ | refine sub_cons rfl rfl ?_))
    have hj' : j < 20 := by omega
    have h1 := hRi.f j
    have h2 := hh o j
    have hFj := hFc j (Nat.le_refl _)
    refine WC.seq fun K1061 hK1061 => ?_
    -- region 17
    refine WC.region ?_
    -- R17.0 47 := detectm.go:56 binOp
    refine WL.v (by first | exact r_lss rfl rfl (decide_eq_true (by omega)) | exact r_lss rfl rfl (decide_eq_false (by omega)) | exact r_lss rfl rfl rfl) rfl rfl rfl ?_
    refine WL.fin hK1061 (fun _ _ h => h) ?_
    refine WC.seq fun K1062 hK1062 => ?_
    refine WC.condT rfl rfl ?_
    refine WC.skipF hK1062 (fun _ _ h => h) ?_
    refine WC.seq fun K1063 hK1063 => ?_
    refine WC.block ?_
    refine WC.seq fun K1064 hK1064 => ?_
    -- region 18
    refine WC.region ?_
    -- R18.0 48 := detectm.go:56 move
    refine WL.v (by first | exact r_move (v := .int _ _) rfl | exact r_move rfl) rfl rfl rfl ?_
    -- R18.1 12 := detectm.go:56 assign
    refine WL.v (by first | exact r_assign (v := .int _ _) rfl | exact r_assign rfl) rfl rfl rfl ?_
    refine WL.fin hK1064 (fun _ _ h => h) ?_
    -- region 19 (draws)
    refine WC.mixLS [8, 9] [(0, true), (1, true), (2, true), (3, true), (4, true), (5, false), (6, false), (7, false), (8, false), (9, false)] st (st) ty_mixed (by kernel_rfl) fun w st => ?_
    -- R19.0 49 := detectm.go:57 move
    refine MLL.v (fun w st => by first | exact r_move (v := .int _ _) rfl | exact r_move rfl) rfl rfl rfl ?_
    -- R19.1 50 := detectm.go:57 indexAddr
    refine MLL.v (fun w st => by exact r_indexA (j := j) ty_ar44 rfl rfl rfl hj') rfl rfl rfl ?_
    -- R19.2 51 := detectm.go:57 load
    refine MLL.v (fun w st => by exact r_load1 (v := .int .i64 (F' j)) ty_one3 rfl (c_iF (F := F') List.mem_cons_self hj' st)) rfl rfl rfl ?_
    -- R19.3 52 := detectm.go:57 move
    refine MLL.v (fun w st => by first | exact r_move (v := .pointer _) rfl | exact r_move rfl) rfl rfl rfl ?_
    -- R19.4 53 := detectm.go:57 move
    refine MLL.v (fun w st => by first | exact r_move (v := .int _ _) rfl | exact r_move rfl) rfl rfl rfl ?_
    refine MLL.at ?_
    -- R19.5 54 := detectm.go:57 move
    refine WL.v (by first | exact r_move (v := .int _ _) rfl | exact r_move rfl) rfl rfl rfl ?_
    refine MLL.nxt (st) ?_
    refine MLL.at ?_
    -- R19.6 55 := detectm.go:57 call
    refine WL.call (r_call ty_call104 rfl) rfl rfl rfl (held_ok (t := o) (r := j) ho16 hj' (List.mem_cons_of_mem _ (List.mem_append_right _ hm)) st) ?_
    rintro _ w ⟨rfl, st⟩
    refine MLL.nxt (st) ?_
    refine MLL.at ?_
    -- R19.7 56 := detectm.go:57 binOp
    refine WL.v (by first | exact r_add rfl rfl (wi64 (by omega) (by omega)) | exact r_add rfl rfl rfl) rfl rfl rfl ?_
    refine MLL.nxt (st) ?_
    refine MLL.at ?_
    -- R19.8 57 := detectm.go:57 indexAddr
    refine WL.v (by exact r_indexA (j := j) ty_ar44 rfl rfl rfl hj') rfl rfl rfl ?_
    refine MLL.nxt' rfl ?_
    refine MLL.at ?_
    -- R19.9 None := detectm.go:57 store
    first | refine WL.store (v := .int _ _) st ty_one3 rfl rfl rfl (by first | decide | omega) rfl rfl ?_ | refine WL.store (v := _) st ty_one3 rfl rfl rfl (by first | decide | omega) rfl rfl ?_ | refine WL.store (v := .int _ _) st.front1 ty_one3 rfl rfl rfl (by first | decide | omega) rfl rfl ?_ | refine WL.store (v := _) st.front1 ty_one3 rfl rfl rfl (by first | decide | omega) rfl rfl ?_ | refine WL.store (v := .int _ _) st.front2 ty_one3 rfl rfl rfl (by first | decide | omega) rfl rfl ?_ | refine WL.store (v := _) st.front2 ty_one3 rfl rfl rfl (by first | decide | omega) rfl rfl ?_ | refine WL.store (v := .int _ _) st.front3 ty_one3 rfl rfl rfl (by first | decide | omega) rfl rfl ?_ | refine WL.store (v := _) st.front3 ty_one3 rfl rfl rfl (by first | decide | omega) rfl rfl ?_ | refine WL.store (v := .int _ _) st.front4 ty_one3 rfl rfl rfl (by first | decide | omega) rfl rfl ?_ | refine WL.store (v := _) st.front4 ty_one3 rfl rfl rfl (by first | decide | omega) rfl rfl ?_ | refine WL.store (v := .int _ _) st.front5 ty_one3 rfl rfl rfl (by first | decide | omega) rfl rfl ?_ | refine WL.store (v := _) st.front5 ty_one3 rfl rfl rfl (by first | decide | omega) rfl rfl ?_ | refine WL.store (v := .int _ _) st.front6 ty_one3 rfl rfl rfl (by first | decide | omega) rfl rfl ?_ | refine WL.store (v := _) st.front6 ty_one3 rfl rfl rfl (by first | decide | omega) rfl rfl ?_ | refine WL.store (v := .int _ _) st.front7 ty_one3 rfl rfl rfl (by first | decide | omega) rfl rfl ?_ | refine WL.store (v := _) st.front7 ty_one3 rfl rfl rfl (by first | decide | omega) rfl rfl ?_ | refine WL.store (v := .int _ _) st.front8 ty_one3 rfl rfl rfl (by first | decide | omega) rfl rfl ?_ | refine WL.store (v := _) st.front8 ty_one3 rfl rfl rfl (by first | decide | omega) rfl rfl ?_
    intro w st
    refine MLL.nxt' rfl ?_
    refine MLL.wl ?_
    refine WL.fin hK1063 (fun _ _ h => h) ?_
    -- region 20
    refine WC.region ?_
    -- R20.0 58 := detectm.go:56 binOp
    refine WL.v (by first | exact r_add rfl rfl (wi64 (by omega) (by omega)) | exact r_add rfl rfl rfl) rfl rfl rfl ?_
    -- R20.1 46 := detectm.go:56 move
    refine WL.v (by first | exact r_move (v := .int _ _) rfl | exact r_move rfl) rfl rfl rfl ?_
    refine WL.next hK4 (fun _ _ h => h) (j + 1, updN F' j (F' j + (held o j : Nat))) ⟨hj', fun r hr => by { have hr : r < j + 1 := hr; by_cases hrj : r = j; · { subst hrj; show updN F' r _ r = _; rw [updN_same, hFj] }; · { show updN F' j _ r = _; rw [updN_ne hrj]; exact hFa r (by omega) } }, fun r hr => by { have hr : j + 1 ≤ r := hr; show updN F' j _ r = _; rw [updN_ne (by omega)]; exact hFc r (by omega) }, stE (iF_set (n := 20)) st⟩ (by show 20 - (j + 1) < 20 - j; omega) (by repeat (first | exact sub_nil _ | refine sub_cons rfl rfl ?_))
  · have hw : waitP queue o = some p := hwe
    have hp := waitP_spec hw
    have hpu := hqt p.1 p.2 hp.2.1
    by_cases hlt : (σ i).F p.1 < p.2.2
    · have hsr : σ (i + 1) = σ i := by rw [hsi]; unfold stT; rw [hw]; exact if_pos hlt
      refine WC.seq fun K1065 hK1065 => ?_
      -- region 12
      refine WC.region ?_
      -- R12.0 27 := detectm.go:52 binOp
      refine WL.v (by first | exact r_lss rfl rfl (decide_eq_true (by omega)) | exact r_lss rfl rfl (decide_eq_false (by omega)) | exact r_lss rfl rfl rfl) rfl rfl rfl ?_
      refine WL.fin hK1065 (fun _ _ h => h) ?_
      refine WC.seq fun K1066 hK1066 => ?_
      refine WC.condT rfl rfl ?_
      refine WC.skipF hK1066 (fun _ _ h => h) ?_
      refine WC.seq fun K1067 hK1067 => ?_
      refine WC.block ?_
      refine WC.seq fun K1068 hK1068 => ?_
      -- region 13
      refine WC.region ?_
      -- R13.0 28 := detectm.go:52 indexAddr
      refine WL.v (by exact r_indexS (j := i) ty_sl54 rfl rfl rfl (by omega)) rfl rfl rfl ?_
      -- R13.1 29 := detectm.go:52 load
      refine WL.v (by exact r_load1 (v := .int .i64 (o : Nat)) ty_one31 rfl (by rw [Nat.zero_add]; exact hce)) rfl rfl rfl ?_
      -- R13.2 8 := detectm.go:52 assign
      refine WL.v (by first | exact r_assign (v := .int _ _) rfl | exact r_assign rfl) rfl rfl rfl ?_
      refine WL.fin hK1068 (fun _ _ h => h) ?_
      refine WC.seq fun K1069 hK1069 => ?_
      refine WC.seq fun K1070 hK1070 => ?_
      -- region 14
      refine WC.region ?_
      -- R14.0 31 := detectm.go:53 move
      refine WL.v (by first | exact r_move (v := .pointer _) rfl | exact r_move rfl) rfl rfl rfl ?_
      -- R14.1 32 := detectm.go:53 move
      refine WL.v (by first | exact r_move (v := .int _ _) rfl | exact r_move rfl) rfl rfl rfl ?_
      -- R14.2 33 := detectm.go:53 call
      refine WL.call (r_call ty_call167 rfl) rfl rfl rfl (waitingOn_ok (t := o) hm' hq (fun r hr x hx => List.mem_cons_of_mem _ (List.mem_append_right _ (hX r hr hx))) st) ?_
      rintro _ w ⟨he, st⟩
      rw [hw] at he
      subst he
      -- R14.3 30 := detectm.go:53 move
      refine WL.v (by first | exact r_move (v := .tuple _) rfl | exact r_move rfl) rfl rfl rfl ?_
      -- R14.4 34 := detectm.go:53 extract
      refine WL.v (by first | exact r_extract (v := .int _ _) rfl rfl | exact r_extract rfl rfl) rfl rfl rfl ?_
      -- R14.5 35 := detectm.go:53 extract
      refine WL.v (by first | exact r_extract (v := .agg _) rfl rfl | exact r_extract rfl rfl) rfl rfl rfl ?_
      -- R14.6 36 := detectm.go:53 extract
      refine WL.v (by first | exact r_extract (v := .bool _) rfl rfl | exact r_extract rfl rfl) rfl rfl rfl ?_
      -- R14.7 10 := detectm.go:53 alloc
      refine WL.alloc (m := 2) st ty_zero61 rfl rfl rfl ?_
      intro b10 w st
      -- R14.8 9 := detectm.go:53 assign
      refine WL.v (by first | exact r_assign (v := .int _ _) rfl | exact r_assign rfl) rfl rfl rfl ?_
      -- R14.9 None := detectm.go:53 store
      first | refine WL.storeW (vs := [_, _]) st ty_agg61 rfl rfl rfl rfl rfl rfl ?_ | refine WL.storeL (vs := [_, _]) st ty_agg61 rfl rfl rfl rfl (by first | decide | omega) rfl rfl ?_ | refine WL.storeW (vs := [_, _]) st.front1 ty_agg61 rfl rfl rfl rfl rfl rfl ?_ | refine WL.storeL (vs := [_, _]) st.front1 ty_agg61 rfl rfl rfl rfl (by first | decide | omega) rfl rfl ?_ | refine WL.storeW (vs := [_, _]) st.front2 ty_agg61 rfl rfl rfl rfl rfl rfl ?_ | refine WL.storeL (vs := [_, _]) st.front2 ty_agg61 rfl rfl rfl rfl (by first | decide | omega) rfl rfl ?_ | refine WL.storeW (vs := [_, _]) st.front3 ty_agg61 rfl rfl rfl rfl rfl rfl ?_ | refine WL.storeL (vs := [_, _]) st.front3 ty_agg61 rfl rfl rfl rfl (by first | decide | omega) rfl rfl ?_ | refine WL.storeW (vs := [_, _]) st.front4 ty_agg61 rfl rfl rfl rfl rfl rfl ?_ | refine WL.storeL (vs := [_, _]) st.front4 ty_agg61 rfl rfl rfl rfl (by first | decide | omega) rfl rfl ?_ | refine WL.storeW (vs := [_, _]) st.front5 ty_agg61 rfl rfl rfl rfl rfl rfl ?_ | refine WL.storeL (vs := [_, _]) st.front5 ty_agg61 rfl rfl rfl rfl (by first | decide | omega) rfl rfl ?_ | refine WL.storeW (vs := [_, _]) st.front6 ty_agg61 rfl rfl rfl rfl rfl rfl ?_ | refine WL.storeL (vs := [_, _]) st.front6 ty_agg61 rfl rfl rfl rfl (by first | decide | omega) rfl rfl ?_ | refine WL.storeW (vs := [_, _]) st.front7 ty_agg61 rfl rfl rfl rfl rfl rfl ?_ | refine WL.storeL (vs := [_, _]) st.front7 ty_agg61 rfl rfl rfl rfl (by first | decide | omega) rfl rfl ?_ | refine WL.storeW (vs := [_, _]) st.front8 ty_agg61 rfl rfl rfl rfl rfl rfl ?_ | refine WL.storeL (vs := [_, _]) st.front8 ty_agg61 rfl rfl rfl rfl (by first | decide | omega) rfl rfl ?_
      intro w st
      -- R14.10 11 := detectm.go:53 assign
      refine WL.v (by first | exact r_assign (v := .bool _) rfl | exact r_assign rfl) rfl rfl rfl ?_
      refine WL.fin hK1070 (fun _ _ h => h) ?_
      refine WC.seq fun K1071 hK1071 => ?_
      -- region 15 (draws)
      refine WC.quietS st ty_mixed (by kernel_rfl) fun Kq hKq => ?_
      -- R15.0 37 := detectm.go:53 move
      refine QL.v (fun w st => by first | exact r_move (v := .bool _) rfl | exact r_move rfl) rfl rfl rfl ?_
      -- R15.1 38 := detectm.go:53 move
      refine QL.v (fun w st => by first | exact r_move (v := .bool _) rfl | exact r_move rfl) rfl rfl rfl ?_
      -- R15.2 39 := detectm.go:53 fieldAddr
      refine QL.v (fun w st => by exact r_field ty_fld61_1 rfl) rfl rfl rfl ?_
      -- R15.3 40 := detectm.go:53 load
      refine QL.v (fun w st => by exact r_load1 ty_one3 rfl (by first | assumption | exact st.c0 (by first | decide | omega) | exact st.c1 (by first | decide | omega) | exact st.c2 (by first | decide | omega) | exact st.c3 (by first | decide | omega) | exact st.c4 (by first | decide | omega) | exact st.c5 (by first | decide | omega) | exact st.c6 (by first | decide | omega) | exact st.c7 (by first | decide | omega) | exact st.c8 (by first | decide | omega))) rfl rfl rfl ?_
      -- R15.4 41 := detectm.go:53 move
      refine QL.v (fun w st => by first | exact r_move (v := .int _ _) rfl | exact r_move rfl) rfl rfl rfl ?_
      -- R15.5 42 := detectm.go:53 indexAddr
      refine QL.v (fun w st => by exact r_indexA (j := p.1) ty_ar44 rfl rfl rfl hp.1) rfl rfl rfl ?_
      -- R15.6 43 := detectm.go:53 load
      refine QL.v (fun w st => by exact r_load1 (v := .int .i64 ((σ i).F p.1)) ty_one3 rfl (c_iF (F := (σ i).F) (List.mem_cons_of_mem _ List.mem_cons_self) hp.1 st)) rfl rfl rfl ?_
      -- R15.7 44 := detectm.go:53 binOp
      refine QL.v (fun w st => by first | exact r_gtr rfl rfl (decide_eq_true (by omega)) | exact r_gtr rfl rfl (decide_eq_false (by omega)) | exact r_gtr rfl rfl rfl) rfl rfl rfl ?_
      -- R15.8 45 := detectm.go:53 pick
      refine QL.v (fun w st => by first | exact r_pickT (v := .bool _) rfl rfl | exact r_pickF (v := .bool _) rfl rfl) rfl rfl rfl ?_
      refine QL.wl hKq fun w st => ?_
      refine WL.fin hK1071 (fun _ _ h => h) ?_
      refine WC.condT rfl rfl ?_
      refine WC.exitF hK1067 (fun _ _ h => h) ?_
      -- region 23
      refine WC.region ?_
      -- R23.0 63 := detectm.go:52 binOp
      refine WL.v (by first | exact r_add rfl rfl (wi64 (by omega) (by omega)) | exact r_add rfl rfl rfl) rfl rfl rfl ?_
      -- R23.1 26 := detectm.go:52 move
      refine WL.v (by first | exact r_move (v := .int _ _) rfl | exact r_move rfl) rfl rfl rfl ?_
      refine WL.next hK3 (fun _ _ h => h) (i + 1) ⟨hil', by rw [hsr]; exact hRi, by rw [hsr]; exact hci, fun j o' hj ho' => by rw [hsr]; exact hbi j o' (by omega) ho', by rw [hsr]; exact st.drop⟩ (by omega) (by rw [hsr]; repeat (first | exact sub_nil _ | refine sub_cons rfl rfl ?_))
    · have hsr : σ (i + 1) = redS held (σ i) o := by rw [hsi]; unfold stT; rw [hw]; exact if_neg hlt
      refine WC.seq fun K1072 hK1072 => ?_
      -- region 12
      refine WC.region ?_
      -- R12.0 27 := detectm.go:52 binOp
      refine WL.v (by first | exact r_lss rfl rfl (decide_eq_true (by omega)) | exact r_lss rfl rfl (decide_eq_false (by omega)) | exact r_lss rfl rfl rfl) rfl rfl rfl ?_
      refine WL.fin hK1072 (fun _ _ h => h) ?_
      refine WC.seq fun K1073 hK1073 => ?_
      refine WC.condT rfl rfl ?_
      refine WC.skipF hK1073 (fun _ _ h => h) ?_
      refine WC.seq fun K1074 hK1074 => ?_
      refine WC.block ?_
      refine WC.seq fun K1075 hK1075 => ?_
      -- region 13
      refine WC.region ?_
      -- R13.0 28 := detectm.go:52 indexAddr
      refine WL.v (by exact r_indexS (j := i) ty_sl54 rfl rfl rfl (by omega)) rfl rfl rfl ?_
      -- R13.1 29 := detectm.go:52 load
      refine WL.v (by exact r_load1 (v := .int .i64 (o : Nat)) ty_one31 rfl (by rw [Nat.zero_add]; exact hce)) rfl rfl rfl ?_
      -- R13.2 8 := detectm.go:52 assign
      refine WL.v (by first | exact r_assign (v := .int _ _) rfl | exact r_assign rfl) rfl rfl rfl ?_
      refine WL.fin hK1075 (fun _ _ h => h) ?_
      refine WC.seq fun K1076 hK1076 => ?_
      refine WC.seq fun K1077 hK1077 => ?_
      -- region 14
      refine WC.region ?_
      -- R14.0 31 := detectm.go:53 move
      refine WL.v (by first | exact r_move (v := .pointer _) rfl | exact r_move rfl) rfl rfl rfl ?_
      -- R14.1 32 := detectm.go:53 move
      refine WL.v (by first | exact r_move (v := .int _ _) rfl | exact r_move rfl) rfl rfl rfl ?_
      -- R14.2 33 := detectm.go:53 call
      refine WL.call (r_call ty_call167 rfl) rfl rfl rfl (waitingOn_ok (t := o) hm' hq (fun r hr x hx => List.mem_cons_of_mem _ (List.mem_append_right _ (hX r hr hx))) st) ?_
      rintro _ w ⟨he, st⟩
      rw [hw] at he
      subst he
      -- R14.3 30 := detectm.go:53 move
      refine WL.v (by first | exact r_move (v := .tuple _) rfl | exact r_move rfl) rfl rfl rfl ?_
      -- R14.4 34 := detectm.go:53 extract
      refine WL.v (by first | exact r_extract (v := .int _ _) rfl rfl | exact r_extract rfl rfl) rfl rfl rfl ?_
      -- R14.5 35 := detectm.go:53 extract
      refine WL.v (by first | exact r_extract (v := .agg _) rfl rfl | exact r_extract rfl rfl) rfl rfl rfl ?_
      -- R14.6 36 := detectm.go:53 extract
      refine WL.v (by first | exact r_extract (v := .bool _) rfl rfl | exact r_extract rfl rfl) rfl rfl rfl ?_
      -- R14.7 10 := detectm.go:53 alloc
      refine WL.alloc (m := 2) st ty_zero61 rfl rfl rfl ?_
      intro b10 w st
      -- R14.8 9 := detectm.go:53 assign
      refine WL.v (by first | exact r_assign (v := .int _ _) rfl | exact r_assign rfl) rfl rfl rfl ?_
      -- R14.9 None := detectm.go:53 store
      first | refine WL.storeW (vs := [_, _]) st ty_agg61 rfl rfl rfl rfl rfl rfl ?_ | refine WL.storeL (vs := [_, _]) st ty_agg61 rfl rfl rfl rfl (by first | decide | omega) rfl rfl ?_ | refine WL.storeW (vs := [_, _]) st.front1 ty_agg61 rfl rfl rfl rfl rfl rfl ?_ | refine WL.storeL (vs := [_, _]) st.front1 ty_agg61 rfl rfl rfl rfl (by first | decide | omega) rfl rfl ?_ | refine WL.storeW (vs := [_, _]) st.front2 ty_agg61 rfl rfl rfl rfl rfl rfl ?_ | refine WL.storeL (vs := [_, _]) st.front2 ty_agg61 rfl rfl rfl rfl (by first | decide | omega) rfl rfl ?_ | refine WL.storeW (vs := [_, _]) st.front3 ty_agg61 rfl rfl rfl rfl rfl rfl ?_ | refine WL.storeL (vs := [_, _]) st.front3 ty_agg61 rfl rfl rfl rfl (by first | decide | omega) rfl rfl ?_ | refine WL.storeW (vs := [_, _]) st.front4 ty_agg61 rfl rfl rfl rfl rfl rfl ?_ | refine WL.storeL (vs := [_, _]) st.front4 ty_agg61 rfl rfl rfl rfl (by first | decide | omega) rfl rfl ?_ | refine WL.storeW (vs := [_, _]) st.front5 ty_agg61 rfl rfl rfl rfl rfl rfl ?_ | refine WL.storeL (vs := [_, _]) st.front5 ty_agg61 rfl rfl rfl rfl (by first | decide | omega) rfl rfl ?_ | refine WL.storeW (vs := [_, _]) st.front6 ty_agg61 rfl rfl rfl rfl rfl rfl ?_ | refine WL.storeL (vs := [_, _]) st.front6 ty_agg61 rfl rfl rfl rfl (by first | decide | omega) rfl rfl ?_ | refine WL.storeW (vs := [_, _]) st.front7 ty_agg61 rfl rfl rfl rfl rfl rfl ?_ | refine WL.storeL (vs := [_, _]) st.front7 ty_agg61 rfl rfl rfl rfl (by first | decide | omega) rfl rfl ?_ | refine WL.storeW (vs := [_, _]) st.front8 ty_agg61 rfl rfl rfl rfl rfl rfl ?_ | refine WL.storeL (vs := [_, _]) st.front8 ty_agg61 rfl rfl rfl rfl (by first | decide | omega) rfl rfl ?_
      intro w st
      -- R14.10 11 := detectm.go:53 assign
      refine WL.v (by first | exact r_assign (v := .bool _) rfl | exact r_assign rfl) rfl rfl rfl ?_
      refine WL.fin hK1077 (fun _ _ h => h) ?_
      refine WC.seq fun K1078 hK1078 => ?_
      -- region 15 (draws)
      refine WC.quietS st ty_mixed (by kernel_rfl) fun Kq hKq => ?_
      -- R15.0 37 := detectm.go:53 move
      refine QL.v (fun w st => by first | exact r_move (v := .bool _) rfl | exact r_move rfl) rfl rfl rfl ?_
      -- R15.1 38 := detectm.go:53 move
      refine QL.v (fun w st => by first | exact r_move (v := .bool _) rfl | exact r_move rfl) rfl rfl rfl ?_
      -- R15.2 39 := detectm.go:53 fieldAddr
      refine QL.v (fun w st => by exact r_field ty_fld61_1 rfl) rfl rfl rfl ?_
      -- R15.3 40 := detectm.go:53 load
      refine QL.v (fun w st => by exact r_load1 ty_one3 rfl (by first | assumption | exact st.c0 (by first | decide | omega) | exact st.c1 (by first | decide | omega) | exact st.c2 (by first | decide | omega) | exact st.c3 (by first | decide | omega) | exact st.c4 (by first | decide | omega) | exact st.c5 (by first | decide | omega) | exact st.c6 (by first | decide | omega) | exact st.c7 (by first | decide | omega) | exact st.c8 (by first | decide | omega))) rfl rfl rfl ?_
      -- R15.4 41 := detectm.go:53 move
      refine QL.v (fun w st => by first | exact r_move (v := .int _ _) rfl | exact r_move rfl) rfl rfl rfl ?_
      -- R15.5 42 := detectm.go:53 indexAddr
      refine QL.v (fun w st => by exact r_indexA (j := p.1) ty_ar44 rfl rfl rfl hp.1) rfl rfl rfl ?_
      -- R15.6 43 := detectm.go:53 load
      refine QL.v (fun w st => by exact r_load1 (v := .int .i64 ((σ i).F p.1)) ty_one3 rfl (c_iF (F := (σ i).F) (List.mem_cons_of_mem _ List.mem_cons_self) hp.1 st)) rfl rfl rfl ?_
      -- R15.7 44 := detectm.go:53 binOp
      refine QL.v (fun w st => by first | exact r_gtr rfl rfl (decide_eq_true (by omega)) | exact r_gtr rfl rfl (decide_eq_false (by omega)) | exact r_gtr rfl rfl rfl) rfl rfl rfl ?_
      -- R15.8 45 := detectm.go:53 pick
      refine QL.v (fun w st => by first | exact r_pickT (v := .bool _) rfl rfl | exact r_pickF (v := .bool _) rfl rfl) rfl rfl rfl ?_
      refine QL.wl hKq fun w st => ?_
      refine WL.fin hK1078 (fun _ _ h => h) ?_
      refine WC.condF rfl rfl ?_
      refine WC.skipF hK1076 (fun _ _ h => h) ?_
      refine WC.seq fun K1079 hK1079 => ?_
      refine WC.seq fun K1080 hK1080 => ?_
      -- region 16
      refine WC.region ?_
      -- R16.0 46 := detectm.go:56 move
      refine WL.v (by first | exact r_move (v := .int _ _) rfl | exact r_move rfl) rfl rfl rfl ?_
      refine WL.fin hK1080 (fun _ _ h => h) ?_
      refine WC.block ?_
      have hred := hRi.red hh ho16 hbo
      refine WC.loop (ι := Nat × (Nat → Int)) (fun y => [(0, .pointer (some ⟨br, 0, none⟩)), (3, .pointer (some ⟨b3, 0, none⟩)), (5, .int .u16 ((σ i).m : Nat)), (6, .bool (σ i).again), (8, .int .i64 (o : Nat)), (24, .slice (some ⟨b, 0, none⟩) Ts.length c), (25, .int .i64 (Ts.length : Nat)), (26, .int .i64 (i : Nat)), (46, .int .i64 (y.1 : Nat))])
        (fun y w' => y.1 ≤ 20 ∧ (∀ r, r < y.1 → y.2 r = (σ i).F r + (held o r : Nat)) ∧ (∀ r, y.1 ≤ r → y.2 r = (σ i).F r) ∧ S0 w0 ((b3, Row 44 20 (iF y.2)) :: (X ++ l)) w') (fun y => 20 - y.1)
        (0, (σ i).F) ⟨Nat.zero_le _, fun r hr => absurd hr (Nat.not_lt_zero _), fun _ _ => rfl, st.drop⟩ ?_ ?_
      · skip
        repeat (first | exact sub_nil _ | refine sub_cons rfl rfl ?_)
      clear st
      rintro ⟨j, F'⟩ w ⟨hj, hFa, hFc, st⟩ K4 hK4
      dsimp only at hj hFa hFc st ⊢
      by_cases hj20 : j = 20
      · subst hj20
        have st : S0 w0 ((b3, Row 44 20 (iF fun r => (σ i).F r + (held o r : Nat))) :: (X ++ l)) w := stE (fun k hk => by unfold iF; rw [hFa k hk]) st
        refine WC.seq fun K1081 hK1081 => ?_
        -- region 17
        refine WC.region ?_
        -- R17.0 47 := detectm.go:56 binOp
        refine WL.v (by first | exact r_lss rfl rfl (decide_eq_true (by omega)) | exact r_lss rfl rfl (decide_eq_false (by omega)) | exact r_lss rfl rfl rfl) rfl rfl rfl ?_
        refine WL.fin hK1081 (fun _ _ h => h) ?_
        refine WC.seq fun K1082 hK1082 => ?_
        refine WC.condF rfl rfl ?_
        refine WC.exitF hK1079 (fun _ _ h => h) ?_
        refine WC.seq fun K1083 hK1083 => ?_
        -- region 21
        refine WC.region ?_
        -- R21.0 59 := detectm.go:59 move
        refine WL.v (by first | exact r_move (v := .int _ _) rfl | exact r_move rfl) rfl rfl rfl ?_
        -- R21.1 60 := detectm.go:59 move
        refine WL.v (by first | exact r_move (v := .int _ _) rfl | exact r_move rfl) rfl rfl rfl ?_
        -- R21.2 61 := detectm.go:59 call
        refine WL.call (r_call ty_call30 rfl) rfl rfl rfl (bit_ok ho16 st) ?_
        rintro _ w ⟨rfl, st⟩
        -- R21.3 62 := detectm.go:59 binOp
        refine WL.v (by exact r_andNot (r := (((redS held (σ i) o).m : Nat) : Int)) rfl rfl (andNot16 hRi.m (pow16 ho16))) rfl rfl rfl ?_
        -- R21.4 5 := detectm.go:59 assign
        refine WL.v (by first | exact r_assign (v := .int _ _) rfl | exact r_assign rfl) rfl rfl rfl ?_
        refine WL.fin hK1083 (fun _ _ h => h) ?_
        -- region 22
        refine WC.region ?_
        -- R22.0 6 := detectm.go:60 assign
        refine WL.v (by first | exact r_assign (v := .bool _) rfl | exact r_assign rfl) rfl rfl rfl ?_
        refine WL.fin hK1074 (fun _ _ h => h) ?_
        -- region 23
        refine WC.region ?_
        -- R23.0 63 := detectm.go:52 binOp
        refine WL.v (by first | exact r_add rfl rfl (wi64 (by omega) (by omega)) | exact r_add rfl rfl rfl) rfl rfl rfl ?_
        -- R23.1 26 := detectm.go:52 move
        refine WL.v (by first | exact r_move (v := .int _ _) rfl | exact r_move rfl) rfl rfl rfl ?_
        have hnx : i + 1 ≤ Ts.length ∧ RB (σ (i + 1)) ∧ (tasksP (σ (i + 1)).m).length + (if (σ (i + 1)).again then 1 else 0) ≤ (tasksP S.m).length ∧ (∀ j o, i + 1 ≤ j → Ts[j]? = some o → (σ (i + 1)).m.testBit o = true) ∧ S0 w0 ((b3, Row 44 20 (iF (σ (i + 1)).F)) :: (X ++ l)) w := by
          rw [hsr]
          refine ⟨hil', hred.1, ?_, fun j o' hj ho' => ?_, st⟩
          · have h1 := hred.2
            have h2 : (tasksP (σ i).m).length ≤ (tasksP S.m).length := Nat.le_trans (Nat.le_add_right _ _) hci
            show (tasksP (redS held (σ i) o).m).length + 1 ≤ _
            omega
          · show ((σ i).m &&& (65535 - 2 ^ o)).testBit o' = true
            have hne : o' ≠ o := fun e => by
              subst e
              have hji := (List.getElem?_inj (i := i) (j := j) hil' hnd).1 (hoi.trans ho'.symm)
              omega
            have ho2 := hT16 o' (List.mem_of_getElem? ho')
            rw [bit_del ho16, hbi j o' (by omega) ho']
            simp [hne, ho2]
        refine WL.next hK3 (fun _ _ h => h) (i + 1) hnx (by omega) (by rw [hsr]; repeat (first | exact sub_nil _ | refine sub_cons rfl rfl ?_))
      have hj' : j < 20 := by omega
      have h1 := hRi.f j
      have h2 := hh o j
      have hFj := hFc j (Nat.le_refl _)
      refine WC.seq fun K1084 hK1084 => ?_
      -- region 17
      refine WC.region ?_
      -- R17.0 47 := detectm.go:56 binOp
      refine WL.v (by first | exact r_lss rfl rfl (decide_eq_true (by omega)) | exact r_lss rfl rfl (decide_eq_false (by omega)) | exact r_lss rfl rfl rfl) rfl rfl rfl ?_
      refine WL.fin hK1084 (fun _ _ h => h) ?_
      refine WC.seq fun K1085 hK1085 => ?_
      refine WC.condT rfl rfl ?_
      refine WC.skipF hK1085 (fun _ _ h => h) ?_
      refine WC.seq fun K1086 hK1086 => ?_
      refine WC.block ?_
      refine WC.seq fun K1087 hK1087 => ?_
      -- region 18
      refine WC.region ?_
      -- R18.0 48 := detectm.go:56 move
      refine WL.v (by first | exact r_move (v := .int _ _) rfl | exact r_move rfl) rfl rfl rfl ?_
      -- R18.1 12 := detectm.go:56 assign
      refine WL.v (by first | exact r_assign (v := .int _ _) rfl | exact r_assign rfl) rfl rfl rfl ?_
      refine WL.fin hK1087 (fun _ _ h => h) ?_
      -- region 19 (draws)
      refine WC.mixLS [8, 9] [(0, true), (1, true), (2, true), (3, true), (4, true), (5, false), (6, false), (7, false), (8, false), (9, false)] st (st) ty_mixed (by kernel_rfl) fun w st => ?_
      -- R19.0 49 := detectm.go:57 move
      refine MLL.v (fun w st => by first | exact r_move (v := .int _ _) rfl | exact r_move rfl) rfl rfl rfl ?_
      -- R19.1 50 := detectm.go:57 indexAddr
      refine MLL.v (fun w st => by exact r_indexA (j := j) ty_ar44 rfl rfl rfl hj') rfl rfl rfl ?_
      -- R19.2 51 := detectm.go:57 load
      refine MLL.v (fun w st => by exact r_load1 (v := .int .i64 (F' j)) ty_one3 rfl (c_iF (F := F') List.mem_cons_self hj' st)) rfl rfl rfl ?_
      -- R19.3 52 := detectm.go:57 move
      refine MLL.v (fun w st => by first | exact r_move (v := .pointer _) rfl | exact r_move rfl) rfl rfl rfl ?_
      -- R19.4 53 := detectm.go:57 move
      refine MLL.v (fun w st => by first | exact r_move (v := .int _ _) rfl | exact r_move rfl) rfl rfl rfl ?_
      refine MLL.at ?_
      -- R19.5 54 := detectm.go:57 move
      refine WL.v (by first | exact r_move (v := .int _ _) rfl | exact r_move rfl) rfl rfl rfl ?_
      refine MLL.nxt (st) ?_
      refine MLL.at ?_
      -- R19.6 55 := detectm.go:57 call
      refine WL.call (r_call ty_call104 rfl) rfl rfl rfl (held_ok (t := o) (r := j) ho16 hj' (List.mem_cons_of_mem _ (List.mem_append_right _ hm)) st) ?_
      rintro _ w ⟨rfl, st⟩
      refine MLL.nxt (st) ?_
      refine MLL.at ?_
      -- R19.7 56 := detectm.go:57 binOp
      refine WL.v (by first | exact r_add rfl rfl (wi64 (by omega) (by omega)) | exact r_add rfl rfl rfl) rfl rfl rfl ?_
      refine MLL.nxt (st) ?_
      refine MLL.at ?_
      -- R19.8 57 := detectm.go:57 indexAddr
      refine WL.v (by exact r_indexA (j := j) ty_ar44 rfl rfl rfl hj') rfl rfl rfl ?_
      refine MLL.nxt' rfl ?_
      refine MLL.at ?_
      -- R19.9 None := detectm.go:57 store
      first | refine WL.store (v := .int _ _) st ty_one3 rfl rfl rfl (by first | decide | omega) rfl rfl ?_ | refine WL.store (v := _) st ty_one3 rfl rfl rfl (by first | decide | omega) rfl rfl ?_ | refine WL.store (v := .int _ _) st.front1 ty_one3 rfl rfl rfl (by first | decide | omega) rfl rfl ?_ | refine WL.store (v := _) st.front1 ty_one3 rfl rfl rfl (by first | decide | omega) rfl rfl ?_ | refine WL.store (v := .int _ _) st.front2 ty_one3 rfl rfl rfl (by first | decide | omega) rfl rfl ?_ | refine WL.store (v := _) st.front2 ty_one3 rfl rfl rfl (by first | decide | omega) rfl rfl ?_ | refine WL.store (v := .int _ _) st.front3 ty_one3 rfl rfl rfl (by first | decide | omega) rfl rfl ?_ | refine WL.store (v := _) st.front3 ty_one3 rfl rfl rfl (by first | decide | omega) rfl rfl ?_ | refine WL.store (v := .int _ _) st.front4 ty_one3 rfl rfl rfl (by first | decide | omega) rfl rfl ?_ | refine WL.store (v := _) st.front4 ty_one3 rfl rfl rfl (by first | decide | omega) rfl rfl ?_ | refine WL.store (v := .int _ _) st.front5 ty_one3 rfl rfl rfl (by first | decide | omega) rfl rfl ?_ | refine WL.store (v := _) st.front5 ty_one3 rfl rfl rfl (by first | decide | omega) rfl rfl ?_ | refine WL.store (v := .int _ _) st.front6 ty_one3 rfl rfl rfl (by first | decide | omega) rfl rfl ?_ | refine WL.store (v := _) st.front6 ty_one3 rfl rfl rfl (by first | decide | omega) rfl rfl ?_ | refine WL.store (v := .int _ _) st.front7 ty_one3 rfl rfl rfl (by first | decide | omega) rfl rfl ?_ | refine WL.store (v := _) st.front7 ty_one3 rfl rfl rfl (by first | decide | omega) rfl rfl ?_ | refine WL.store (v := .int _ _) st.front8 ty_one3 rfl rfl rfl (by first | decide | omega) rfl rfl ?_ | refine WL.store (v := _) st.front8 ty_one3 rfl rfl rfl (by first | decide | omega) rfl rfl ?_
      intro w st
      refine MLL.nxt' rfl ?_
      refine MLL.wl ?_
      refine WL.fin hK1086 (fun _ _ h => h) ?_
      -- region 20
      refine WC.region ?_
      -- R20.0 58 := detectm.go:56 binOp
      refine WL.v (by first | exact r_add rfl rfl (wi64 (by omega) (by omega)) | exact r_add rfl rfl rfl) rfl rfl rfl ?_
      -- R20.1 46 := detectm.go:56 move
      refine WL.v (by first | exact r_move (v := .int _ _) rfl | exact r_move rfl) rfl rfl rfl ?_
      refine WL.next hK4 (fun _ _ h => h) (j + 1, updN F' j (F' j + (held o j : Nat))) ⟨hj', fun r hr => by { have hr : r < j + 1 := hr; by_cases hrj : r = j; · { subst hrj; show updN F' r _ r = _; rw [updN_same, hFj] }; · { show updN F' j _ r = _; rw [updN_ne hrj]; exact hFa r (by omega) } }, fun r hr => by { have hr : j + 1 ≤ r := hr; show updN F' j _ r = _; rw [updN_ne (by omega)]; exact hFc r (by omega) }, stE (iF_set (n := 20)) st⟩ (by show 20 - (j + 1) < 20 - j; omega) (by repeat (first | exact sub_nil _ | refine sub_cons rfl rfl ?_))
end Go.Proofs.Qxb6500834aGreatDoor

