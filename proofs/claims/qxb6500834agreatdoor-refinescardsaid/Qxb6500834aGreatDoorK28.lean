import Derived.Test.Qxb6500834aGreatDoorK27
set_option linter.unusedVariables false
set_option linter.unusedSimpArgs false
set_option maxRecDepth 20000
namespace Go.Proofs.Qxb6500834aGreatDoor
open Go.RowKit Go.E1 Go.Kern
variable {w0 : World} {L L' l I J K K' X Y : List HI} {w : World} {B : KA} {t r N br : Nat} {held : Nat → Nat → Nat} {queue : Nat → List (Nat × Nat)} {qv : Nat → Value} {XQ : Nat → List HI}

/-! The detector. -/
theorem waitF_spec : ∀ (n r : Nat) {p : Nat × Nat × Nat}, waitF queue t n r = some p → r ≤ p.1 ∧ p.1 < r + n ∧ p.2 ∈ queue p.1 ∧ p.2.1 = t
  | 0, r, p, h => by cases h
  | n + 1, r, p, h => by
    unfold waitF at h
    split at h
    · rename_i q hq
      cases h
      exact ⟨Nat.le_refl _, by omega, List.mem_of_find?_eq_some hq, by simpa using List.find?_some hq⟩
    · have := waitF_spec n (r + 1) h
      exact ⟨by omega, by omega, this.2.2⟩
theorem waitP_spec {p : Nat × Nat × Nat} (h : waitP queue t = some p) : p.1 < 20 ∧ p.2 ∈ queue p.1 ∧ p.2.1 = t := by
  have := waitF_spec 20 0 h
  exact ⟨by omega, this.2.2⟩
def mF (F : Nat → Nat) (i : Nat) : Value := .int .u16 (F i : Nat)
theorem mF_set {F : Nat → Nat} {i n x : Nat} : ∀ k, k < n → upd (mF F) (0 + i * 1) (.int .u16 (x : Nat)) k = mF (updN F i x) k := fun k _ => by
  rw [upd_eq]
  unfold mF updN
  rw [show 0 + i * 1 = i by omega]
  split <;> rfl
theorem c_mF {F : Nat → Nat} {b T n i : Nat} (hm : (b, Row T n (mF F)) ∈ l) (hi : i < n) (st : S0 w0 l w) : w.cell? ⟨b, 0 + i * 1, none⟩ = some (.int .u16 (F i : Nat)) := by
  rw [st.cell hm (by omega), show 0 + i * 1 = i by omega]; rfl
def waitsP (held : Nat → Nat → Nat) (queue : Nat → List (Nat × Nat)) (t : Nat) : Nat := match waitP queue t with | some p => holdersP held p.1 &&& (65535 - 2 ^ t) | none => 0
theorem waitsP_lt : waitsP held queue t < 65536 := by
  unfold waitsP
  split
  · exact andlt (maskP_lt _ 16 (Nat.le_refl _))
  · decide
set_option maxHeartbeats 2000000 in
theorem waitsFor_ok (hm : rI br held qv ∈ l) (hq : ∀ r, r < 20 → QL0 (qv r) (queue r) (XQ r)) (hX : ∀ r, r < 20 → XQ r ⊆ l) (st : S0 w0 l w) :
    Calls Tryz.prog 149 #[.pointer (some ⟨br, 0, none⟩)] w (Ret fun v w' => v = .agg (mkA 16 (mF (waitsP held queue))) ∧ S0 w0 l w') := by
  refine enter [.pointer (some ⟨br, 0, none⟩)] Tryz.func149 rfl Tryz.ntmps149 rfl ?_
  show WC _ _ _ 29 [] [(0, .pointer (some ⟨br, 0, none⟩))] _
  refine WC.seq fun K971 hK971 => ?_
  -- region 0
  refine WC.region ?_
  -- R0.0 2 := detectm.go:12 alloc
  refine WL.allocN (m := 16) st ty_zeroN195 rfl rfl ?_
  intro b2 w st
  refine WL.fin hK971 (fun _ _ h => h) ?_
  refine WC.seq fun K972 hK972 => ?_
  -- region 1
  refine WC.region ?_
  -- R1.0 3 := detectm.go:13 alloc
  refine WL.allocN (m := 16) st ty_zeroN195 rfl rfl ?_
  intro b3 w st
  refine WL.fin hK972 (fun _ _ h => h) ?_
  refine WC.seq fun K973 hK973 => ?_
  refine WC.seq fun K974 hK974 => ?_
  -- region 2
  refine WC.region ?_
  -- R2.0 4 := detectm.go:14 assign
  refine WL.v (by first | exact r_assign (v := .int _ _) rfl | exact r_assign rfl) rfl rfl rfl ?_
  refine WL.fin hK974 (fun _ _ h => h) ?_
  refine WC.block ?_
  refine WC.loop (ι := Nat × (Nat → Nat)) (fun y => [(0, .pointer (some ⟨br, 0, none⟩)), (2, .pointer (some ⟨b2, 0, none⟩)), (3, .pointer (some ⟨b3, 0, none⟩)), (4, .int .i64 (y.1 : Nat))])
    (fun y w' => y.1 ≤ 16 ∧ (∀ i, i < y.1 → y.2 i = waitsP held queue i) ∧ (∀ i, y.1 ≤ i → y.2 i = 0) ∧ S0 w0 ((b3, Row 195 16 (mF y.2)) :: (b2, Row 195 16 (fun _ => .int .u16 0)) :: l) w') (fun y => 16 - y.1) (0, fun _ => 0) ⟨Nat.zero_le _, fun i hi => absurd hi (Nat.not_lt_zero _), fun _ _ => rfl, st⟩ ?_ ?_
  · skip
    repeat (first | exact sub_nil _ | refine sub_cons rfl rfl ?_)
  clear st
  rintro ⟨i, F⟩ w ⟨hi, hF, hF0, st⟩ K1 hK1
  dsimp only at hi hF hF0 st ⊢
  by_cases h16 : i = 16
  · subst h16
    have st : S0 w0 ((b3, Row 195 16 (mF (waitsP held queue))) :: (b2, Row 195 16 (fun _ => .int .u16 0)) :: l) w := stE (fun k hk => by unfold mF; rw [hF k hk]) st
    refine WC.seq fun K975 hK975 => ?_
    refine WC.seq fun K976 hK976 => ?_
    -- region 3
    refine WC.region ?_
    -- R3.0 8 := detectm.go:14 move
    refine WL.v (by first | exact r_move (v := .int _ _) rfl | exact r_move rfl) rfl rfl rfl ?_
    -- R3.1 9 := detectm.go:14 binOp
    refine WL.v (by first | exact r_lss rfl rfl (decide_eq_true (by omega)) | exact r_lss rfl rfl (decide_eq_false (by omega)) | exact r_lss rfl rfl rfl) rfl rfl rfl ?_
    refine WL.fin hK976 (fun _ _ h => h) ?_
    refine WC.condF rfl rfl ?_
    refine WC.exitF hK973 (fun _ _ h => h) ?_
    refine WC.seq fun K977 hK977 => ?_
    -- region 8
    refine WC.region ?_
    -- R8.0 28 := detectm.go:19 load
    refine WL.v (by exact r_loadN (f := mF (waitsP held queue)) ty_agg195 rfl (fun i hi => by have := c_mF (i := i) List.mem_cons_self hi st; rw [Nat.mul_one] at this; exact this)) rfl rfl rfl ?_
    -- R8.1 None := detectm.go:19 store
    refine WL.storeN (st.front1) ty_agg195 rfl rfl (fun _ _ => rfl) (by omega) rfl rfl ?_
    intro w st
    refine WL.fin hK977 (fun _ _ h => h) ?_
    refine WC.retCN (f := mF (waitsP held queue)) Tryz.results149 (fun _ _ h => h) rfl ty_agg195 rfl (fun i hi => by rw [st.c0 (by omega), upds_eq, if_pos (by omega), show 0 + i - 0 = i by omega]) ?_
    exact ⟨_, rfl, rfl, st.drop.drop⟩
  have hi' : i < 16 := by omega
  have hm' : rI br held qv ∈ (b3, Row 195 16 (mF F)) :: (b2, Row 195 16 (fun _ => .int .u16 0)) :: l := List.mem_cons_of_mem _ (List.mem_cons_of_mem _ hm)
  rcases hwe : waitP queue i with _ | p
  · have hw : waitP queue i = none := hwe
    have e : waitsP held queue i = 0 := by unfold waitsP; rw [hw]
    refine WC.seq fun K978 hK978 => ?_
    refine WC.seq fun K979 hK979 => ?_
    -- region 3
    refine WC.region ?_
    -- R3.0 8 := detectm.go:14 move
    refine WL.v (by first | exact r_move (v := .int _ _) rfl | exact r_move rfl) rfl rfl rfl ?_
    -- R3.1 9 := detectm.go:14 binOp
    refine WL.v (by first | exact r_lss rfl rfl (decide_eq_true (by omega)) | exact r_lss rfl rfl (decide_eq_false (by omega)) | exact r_lss rfl rfl rfl) rfl rfl rfl ?_
    refine WL.fin hK979 (fun _ _ h => h) ?_
    refine WC.condT rfl rfl ?_
    refine WC.skipF hK978 (fun _ _ h => h) ?_
    refine WC.seq fun K980 hK980 => ?_
    refine WC.block ?_
    refine WC.seq fun K981 hK981 => ?_
    -- region 5
    refine WC.region ?_
    -- R5.0 13 := detectm.go:15 move
    refine WL.v (by first | exact r_move (v := .pointer _) rfl | exact r_move rfl) rfl rfl rfl ?_
    -- R5.1 14 := detectm.go:15 move
    refine WL.v (by first | exact r_move (v := .int _ _) rfl | exact r_move rfl) rfl rfl rfl ?_
    -- R5.2 15 := detectm.go:15 call
    refine WL.call (r_call ty_call167 rfl) rfl rfl rfl (waitingOn_ok (t := i) hm' hq (fun r hr x hx => List.mem_cons_of_mem _ (List.mem_cons_of_mem _ (hX r hr hx))) st) ?_
    rintro _ w ⟨he, st⟩
    rw [hw] at he
    subst he
    -- R5.3 12 := detectm.go:15 move
    refine WL.v (by first | exact r_move (v := .tuple _) rfl | exact r_move rfl) rfl rfl rfl ?_
    -- R5.4 16 := detectm.go:15 extract
    refine WL.v (by first | exact r_extract (v := .int _ _) rfl rfl | exact r_extract rfl rfl) rfl rfl rfl ?_
    -- R5.5 17 := detectm.go:15 extract
    refine WL.v (by first | exact r_extract (v := .agg _) rfl rfl | exact r_extract rfl rfl) rfl rfl rfl ?_
    -- R5.6 18 := detectm.go:15 extract
    refine WL.v (by first | exact r_extract (v := .bool _) rfl rfl | exact r_extract rfl rfl) rfl rfl rfl ?_
    -- R5.7 6 := detectm.go:15 alloc
    refine WL.alloc (m := 2) st ty_zero61 rfl rfl rfl ?_
    intro b6 w st
    -- R5.8 5 := detectm.go:15 assign
    refine WL.v (by first | exact r_assign (v := .int _ _) rfl | exact r_assign rfl) rfl rfl rfl ?_
    -- R5.9 None := detectm.go:15 store
    first | refine WL.storeW (vs := [_, _]) st ty_agg61 rfl rfl rfl rfl rfl rfl ?_ | refine WL.storeL (vs := [_, _]) st ty_agg61 rfl rfl rfl rfl (by first | decide | omega) rfl rfl ?_ | refine WL.storeW (vs := [_, _]) st.front1 ty_agg61 rfl rfl rfl rfl rfl rfl ?_ | refine WL.storeL (vs := [_, _]) st.front1 ty_agg61 rfl rfl rfl rfl (by first | decide | omega) rfl rfl ?_ | refine WL.storeW (vs := [_, _]) st.front2 ty_agg61 rfl rfl rfl rfl rfl rfl ?_ | refine WL.storeL (vs := [_, _]) st.front2 ty_agg61 rfl rfl rfl rfl (by first | decide | omega) rfl rfl ?_ | refine WL.storeW (vs := [_, _]) st.front3 ty_agg61 rfl rfl rfl rfl rfl rfl ?_ | refine WL.storeL (vs := [_, _]) st.front3 ty_agg61 rfl rfl rfl rfl (by first | decide | omega) rfl rfl ?_ | refine WL.storeW (vs := [_, _]) st.front4 ty_agg61 rfl rfl rfl rfl rfl rfl ?_ | refine WL.storeL (vs := [_, _]) st.front4 ty_agg61 rfl rfl rfl rfl (by first | decide | omega) rfl rfl ?_ | refine WL.storeW (vs := [_, _]) st.front5 ty_agg61 rfl rfl rfl rfl rfl rfl ?_ | refine WL.storeL (vs := [_, _]) st.front5 ty_agg61 rfl rfl rfl rfl (by first | decide | omega) rfl rfl ?_ | refine WL.storeW (vs := [_, _]) st.front6 ty_agg61 rfl rfl rfl rfl rfl rfl ?_ | refine WL.storeL (vs := [_, _]) st.front6 ty_agg61 rfl rfl rfl rfl (by first | decide | omega) rfl rfl ?_ | refine WL.storeW (vs := [_, _]) st.front7 ty_agg61 rfl rfl rfl rfl rfl rfl ?_ | refine WL.storeL (vs := [_, _]) st.front7 ty_agg61 rfl rfl rfl rfl (by first | decide | omega) rfl rfl ?_ | refine WL.storeW (vs := [_, _]) st.front8 ty_agg61 rfl rfl rfl rfl rfl rfl ?_ | refine WL.storeL (vs := [_, _]) st.front8 ty_agg61 rfl rfl rfl rfl (by first | decide | omega) rfl rfl ?_
    intro w st
    -- R5.10 7 := detectm.go:15 assign
    refine WL.v (by first | exact r_assign (v := .bool _) rfl | exact r_assign rfl) rfl rfl rfl ?_
    refine WL.fin hK981 (fun _ _ h => h) ?_
    refine WC.seq fun K982 hK982 => ?_
    -- region 6
    refine WC.region ?_
    -- R6.0 19 := detectm.go:15 move
    refine WL.v (by first | exact r_move (v := .bool _) rfl | exact r_move rfl) rfl rfl rfl ?_
    refine WL.fin hK982 (fun _ _ h => h) ?_
    refine WC.condF rfl rfl ?_
    refine WC.skipF hK980 (fun _ _ h => h) ?_
    -- region 4
    refine WC.region ?_
    -- R4.0 10 := detectm.go:14 move
    refine WL.v (by first | exact r_move (v := .int _ _) rfl | exact r_move rfl) rfl rfl rfl ?_
    -- R4.1 11 := detectm.go:14 binOp
    refine WL.v (by first | exact r_add rfl rfl (wi64 (by omega) (by omega)) | exact r_add rfl rfl rfl) rfl rfl rfl ?_
    -- R4.2 4 := detectm.go:14 assign
    refine WL.v (by first | exact r_assign (v := .int _ _) rfl | exact r_assign rfl) rfl rfl rfl ?_
    refine WL.next hK1 (fun _ _ h => h) (i + 1, F) ⟨hi', fun j hj => by { have hj : j < i + 1 := hj; by_cases hji : j = i; · { subst hji; rw [e]; exact hF0 j (Nat.le_refl _) }; · exact hF j (by omega) }, fun j hj => by { have hj : i + 1 ≤ j := hj; exact hF0 j (by omega) }, st.drop⟩ (by show 16 - (i + 1) < 16 - i; omega) (by repeat (first | exact sub_nil _ | refine sub_cons rfl rfl ?_))
  · have hw : waitP queue i = some p := hwe
    have hp := waitP_spec hw
    have e : waitsP held queue i = holdersP held p.1 &&& (65535 - 2 ^ i) := by unfold waitsP; rw [hw]
    refine WC.seq fun K983 hK983 => ?_
    refine WC.seq fun K984 hK984 => ?_
    -- region 3
    refine WC.region ?_
    -- R3.0 8 := detectm.go:14 move
    refine WL.v (by first | exact r_move (v := .int _ _) rfl | exact r_move rfl) rfl rfl rfl ?_
    -- R3.1 9 := detectm.go:14 binOp
    refine WL.v (by first | exact r_lss rfl rfl (decide_eq_true (by omega)) | exact r_lss rfl rfl (decide_eq_false (by omega)) | exact r_lss rfl rfl rfl) rfl rfl rfl ?_
    refine WL.fin hK984 (fun _ _ h => h) ?_
    refine WC.condT rfl rfl ?_
    refine WC.skipF hK983 (fun _ _ h => h) ?_
    refine WC.seq fun K985 hK985 => ?_
    refine WC.block ?_
    refine WC.seq fun K986 hK986 => ?_
    -- region 5
    refine WC.region ?_
    -- R5.0 13 := detectm.go:15 move
    refine WL.v (by first | exact r_move (v := .pointer _) rfl | exact r_move rfl) rfl rfl rfl ?_
    -- R5.1 14 := detectm.go:15 move
    refine WL.v (by first | exact r_move (v := .int _ _) rfl | exact r_move rfl) rfl rfl rfl ?_
    -- R5.2 15 := detectm.go:15 call
    refine WL.call (r_call ty_call167 rfl) rfl rfl rfl (waitingOn_ok (t := i) hm' hq (fun r hr x hx => List.mem_cons_of_mem _ (List.mem_cons_of_mem _ (hX r hr hx))) st) ?_
    rintro _ w ⟨he, st⟩
    rw [hw] at he
    subst he
    -- R5.3 12 := detectm.go:15 move
    refine WL.v (by first | exact r_move (v := .tuple _) rfl | exact r_move rfl) rfl rfl rfl ?_
    -- R5.4 16 := detectm.go:15 extract
    refine WL.v (by first | exact r_extract (v := .int _ _) rfl rfl | exact r_extract rfl rfl) rfl rfl rfl ?_
    -- R5.5 17 := detectm.go:15 extract
    refine WL.v (by first | exact r_extract (v := .agg _) rfl rfl | exact r_extract rfl rfl) rfl rfl rfl ?_
    -- R5.6 18 := detectm.go:15 extract
    refine WL.v (by first | exact r_extract (v := .bool _) rfl rfl | exact r_extract rfl rfl) rfl rfl rfl ?_
    -- R5.7 6 := detectm.go:15 alloc
    refine WL.alloc (m := 2) st ty_zero61 rfl rfl rfl ?_
    intro b6 w st
    -- R5.8 5 := detectm.go:15 assign
    refine WL.v (by first | exact r_assign (v := .int _ _) rfl | exact r_assign rfl) rfl rfl rfl ?_
    -- R5.9 None := detectm.go:15 store
    first | refine WL.storeW (vs := [_, _]) st ty_agg61 rfl rfl rfl rfl rfl rfl ?_ | refine WL.storeL (vs := [_, _]) st ty_agg61 rfl rfl rfl rfl (by first | decide | omega) rfl rfl ?_ | refine WL.storeW (vs := [_, _]) st.front1 ty_agg61 rfl rfl rfl rfl rfl rfl ?_ | refine WL.storeL (vs := [_, _]) st.front1 ty_agg61 rfl rfl rfl rfl (by first | decide | omega) rfl rfl ?_ | refine WL.storeW (vs := [_, _]) st.front2 ty_agg61 rfl rfl rfl rfl rfl rfl ?_ | refine WL.storeL (vs := [_, _]) st.front2 ty_agg61 rfl rfl rfl rfl (by first | decide | omega) rfl rfl ?_ | refine WL.storeW (vs := [_, _]) st.front3 ty_agg61 rfl rfl rfl rfl rfl rfl ?_ | refine WL.storeL (vs := [_, _]) st.front3 ty_agg61 rfl rfl rfl rfl (by first | decide | omega) rfl rfl ?_ | refine WL.storeW (vs := [_, _]) st.front4 ty_agg61 rfl rfl rfl rfl rfl rfl ?_ | refine WL.storeL (vs := [_, _]) st.front4 ty_agg61 rfl rfl rfl rfl (by first | decide | omega) rfl rfl ?_ | refine WL.storeW (vs := [_, _]) st.front5 ty_agg61 rfl rfl rfl rfl rfl rfl ?_ | refine WL.storeL (vs := [_, _]) st.front5 ty_agg61 rfl rfl rfl rfl (by first | decide | omega) rfl rfl ?_ | refine WL.storeW (vs := [_, _]) st.front6 ty_agg61 rfl rfl rfl rfl rfl rfl ?_ | refine WL.storeL (vs := [_, _]) st.front6 ty_agg61 rfl rfl rfl rfl (by first | decide | omega) rfl rfl ?_ | refine WL.storeW (vs := [_, _]) st.front7 ty_agg61 rfl rfl rfl rfl rfl rfl ?_ | refine WL.storeL (vs := [_, _]) st.front7 ty_agg61 rfl rfl rfl rfl (by first | decide | omega) rfl rfl ?_ | refine WL.storeW (vs := [_, _]) st.front8 ty_agg61 rfl rfl rfl rfl rfl rfl ?_ | refine WL.storeL (vs := [_, _]) st.front8 ty_agg61 rfl rfl rfl rfl (by first | decide | omega) rfl rfl ?_
    intro w st
    -- R5.10 7 := detectm.go:15 assign
    refine WL.v (by first | exact r_assign (v := .bool _) rfl | exact r_assign rfl) rfl rfl rfl ?_
    refine WL.fin hK986 (fun _ _ h => h) ?_
    refine WC.seq fun K987 hK987 => ?_
    -- region 6
    refine WC.region ?_
    -- R6.0 19 := detectm.go:15 move
    refine WL.v (by first | exact r_move (v := .bool _) rfl | exact r_move rfl) rfl rfl rfl ?_
    refine WL.fin hK987 (fun _ _ h => h) ?_
    refine WC.condT rfl rfl ?_
    -- region 7
    refine WC.region ?_
    -- R7.0 20 := detectm.go:16 move
    refine WL.v (by first | exact r_move (v := .int _ _) rfl | exact r_move rfl) rfl rfl rfl ?_
    -- R7.1 21 := detectm.go:16 move
    refine WL.v (by first | exact r_move (v := .pointer _) rfl | exact r_move rfl) rfl rfl rfl ?_
    -- R7.2 22 := detectm.go:16 move
    refine WL.v (by first | exact r_move (v := .int _ _) rfl | exact r_move rfl) rfl rfl rfl ?_
    -- R7.3 23 := detectm.go:16 call
    refine WL.call (r_call ty_call134 rfl) rfl rfl rfl (holders_ok hp.1 (List.mem_cons_of_mem _ hm') st) ?_
    rintro _ w ⟨rfl, st⟩
    -- R7.4 24 := detectm.go:16 move
    refine WL.v (by first | exact r_move (v := .int _ _) rfl | exact r_move rfl) rfl rfl rfl ?_
    -- R7.5 25 := detectm.go:16 call
    refine WL.call (r_call ty_call30 rfl) rfl rfl rfl (bit_ok hi' st) ?_
    rintro _ w ⟨rfl, st⟩
    -- R7.6 26 := detectm.go:16 binOp
    refine WL.v (by exact r_andNot (r := ((waitsP held queue i : Nat) : Int)) rfl rfl (by rw [e]; exact andNot16 (x := holdersP held p.1) (maskP_lt _ 16 (Nat.le_refl _)) (pow16 hi'))) rfl rfl rfl ?_
    -- R7.7 27 := detectm.go:16 indexAddr
    refine WL.v (by exact r_indexA (j := i) ty_ar195 rfl rfl rfl hi') rfl rfl rfl ?_
    -- R7.8 None := detectm.go:16 store
    first | refine WL.store (v := .int _ _) st ty_one38 rfl rfl rfl (by first | decide | omega) rfl rfl ?_ | refine WL.store (v := _) st ty_one38 rfl rfl rfl (by first | decide | omega) rfl rfl ?_ | refine WL.store (v := .int _ _) st.front1 ty_one38 rfl rfl rfl (by first | decide | omega) rfl rfl ?_ | refine WL.store (v := _) st.front1 ty_one38 rfl rfl rfl (by first | decide | omega) rfl rfl ?_ | refine WL.store (v := .int _ _) st.front2 ty_one38 rfl rfl rfl (by first | decide | omega) rfl rfl ?_ | refine WL.store (v := _) st.front2 ty_one38 rfl rfl rfl (by first | decide | omega) rfl rfl ?_ | refine WL.store (v := .int _ _) st.front3 ty_one38 rfl rfl rfl (by first | decide | omega) rfl rfl ?_ | refine WL.store (v := _) st.front3 ty_one38 rfl rfl rfl (by first | decide | omega) rfl rfl ?_ | refine WL.store (v := .int _ _) st.front4 ty_one38 rfl rfl rfl (by first | decide | omega) rfl rfl ?_ | refine WL.store (v := _) st.front4 ty_one38 rfl rfl rfl (by first | decide | omega) rfl rfl ?_ | refine WL.store (v := .int _ _) st.front5 ty_one38 rfl rfl rfl (by first | decide | omega) rfl rfl ?_ | refine WL.store (v := _) st.front5 ty_one38 rfl rfl rfl (by first | decide | omega) rfl rfl ?_ | refine WL.store (v := .int _ _) st.front6 ty_one38 rfl rfl rfl (by first | decide | omega) rfl rfl ?_ | refine WL.store (v := _) st.front6 ty_one38 rfl rfl rfl (by first | decide | omega) rfl rfl ?_ | refine WL.store (v := .int _ _) st.front7 ty_one38 rfl rfl rfl (by first | decide | omega) rfl rfl ?_ | refine WL.store (v := _) st.front7 ty_one38 rfl rfl rfl (by first | decide | omega) rfl rfl ?_ | refine WL.store (v := .int _ _) st.front8 ty_one38 rfl rfl rfl (by first | decide | omega) rfl rfl ?_ | refine WL.store (v := _) st.front8 ty_one38 rfl rfl rfl (by first | decide | omega) rfl rfl ?_
    intro w st
    refine WL.fin hK985 (fun _ _ h => h) ?_
    -- region 4
    refine WC.region ?_
    -- R4.0 10 := detectm.go:14 move
    refine WL.v (by first | exact r_move (v := .int _ _) rfl | exact r_move rfl) rfl rfl rfl ?_
    -- R4.1 11 := detectm.go:14 binOp
    refine WL.v (by first | exact r_add rfl rfl (wi64 (by omega) (by omega)) | exact r_add rfl rfl rfl) rfl rfl rfl ?_
    -- R4.2 4 := detectm.go:14 assign
    refine WL.v (by first | exact r_assign (v := .int _ _) rfl | exact r_assign rfl) rfl rfl rfl ?_
    refine WL.next hK1 (fun _ _ h => h) (i + 1, updN F i (waitsP held queue i)) ⟨hi', fun j hj => by { have hj : j < i + 1 := hj; by_cases hji : j = i; · { subst hji; exact updN_same }; · { show updN F i _ j = _; rw [updN_ne hji]; exact hF j (by omega) } }, fun j hj => by { have hj : i + 1 ≤ j := hj; show updN F i _ j = _; rw [updN_ne (by omega)]; exact hF0 j (by omega) }, (stE (mF_set (n := 16)) st).drop1⟩ (by show 16 - (i + 1) < 16 - i; omega) (by repeat (first | exact sub_nil _ | refine sub_cons rfl rfl ?_))

def ocT (R : Nat → Nat) (t : Nat) : Nat → Nat := (tasksP (R t)).foldl (fun R via => updN R t (R t ||| R via)) R
def ocN (R : Nat → Nat) : Nat → Nat → Nat
  | 0 => R
  | n + 1 => ocT (ocN R n) n
def ocR (R : Nat → Nat) : Nat → Nat → Nat
  | 0 => R
  | n + 1 => ocN (ocR R n) 16
def cycleP (R : Nat → Nat) : Nat := maskP (fun t => (ocR R 16 t).testBit t) 16
theorem or_step {R : Nat → Nat} {v : Nat} (h : ∀ i, R i < 65536) : ∀ i, updN R t (R t ||| R v) i < 65536 := fun i => by unfold updN; split; exact orlt (h _) (h _); exact h i
theorem ocF_lt {Ts : List Nat} : ∀ {R : Nat → Nat}, (∀ i, R i < 65536) → ∀ i, Ts.foldl (fun R via => updN R t (R t ||| R via)) R i < 65536 := by
  induction Ts with
  | nil => exact fun h => h
  | cons a Ts ih => exact fun h => ih (or_step h)
theorem ocN_lt {R : Nat → Nat} (h : ∀ i, R i < 65536) : ∀ n i, ocN R n i < 65536
  | 0 => h
  | n + 1 => ocF_lt (ocN_lt h n)
theorem ocR_lt {R : Nat → Nat} (h : ∀ i, R i < 65536) : ∀ n i, ocR R n i < 65536
  | 0 => h
  | n + 1 => ocN_lt (ocR_lt h n) 16
set_option maxHeartbeats 2000000 in
theorem onCycle_ok {R : Nat → Nat} (hD : gD w0) (hR : ∀ i, R i < 65536) (st : S0 w0 l w) :
    Calls Tryz.prog 148 #[.agg (mkA 16 (mF R))] w (Ret fun v w' => v = .int .u16 (cycleP R : Nat) ∧ S0 w0 l w') := by
  obtain ⟨σ, hσ⟩ : ∃ σ, σ = ocR R := ⟨_, rfl⟩
  have hσ0 : σ 0 = R := by rw [hσ]; rfl
  have hσs : ∀ n, σ (n + 1) = ocN (σ n) 16 := fun n => by rw [hσ]; rfl
  have hσl : ∀ n i, σ n i < 65536 := fun n => by rw [hσ]; exact ocR_lt hR n
  have hcy : cycleP R = maskP (fun t => (σ 16 t).testBit t) 16 := by rw [hσ]; rfl
  clear hσ
  rw [hcy]
  refine enter [.agg (mkA 16 (mF R))] Tryz.func148 rfl Tryz.ntmps148 rfl ?_
  show WC _ _ _ 51 [] [(0, .agg (mkA 16 (mF R)))] _
  refine WC.seq fun K988 hK988 => ?_
  -- region 0
  refine WC.region ?_
  -- R0.0 1 := detectm.go:23 box
  refine WL.boxN (m := 16) (v := mF R) st rfl rfl rfl rfl ?_
  intro b1 w st
  -- R0.1 2 := detectm.go:23 assign
  refine WL.v (by first | exact r_assign (v := .int _ _) rfl | exact r_assign rfl) rfl rfl rfl ?_
  refine WL.fin hK988 (fun _ _ h => h) ?_
  refine WC.seq fun K989 hK989 => ?_
  -- region 1
  refine WC.region ?_
  -- R1.0 10 := detectm.go:24 load
  refine WL.v (by exact r_loadN (f := mF R) ty_agg195 rfl (fun i hi => by rw [st.c0 (by omega), Nat.zero_add])) rfl rfl rfl ?_
  -- R1.1 3 := detectm.go:24 alloc
  refine WL.allocN (m := 16) st ty_zeroN195 rfl rfl ?_
  intro b3 w st
  -- R1.2 None := detectm.go:24 store
  refine WL.storeN (v := mF R) st ty_agg195 rfl rfl (fun _ _ => rfl) (by decide) rfl rfl ?_
  intro w st
  have st : S0 w0 ((b3, Row 195 16 (mF (σ 0))) :: l) w := by rw [hσ0]; exact (stE (fun k hk => by rw [upds_eq, if_pos (by omega), Nat.sub_zero]) st).drop1
  refine WL.fin hK989 (fun _ _ h => h) ?_
  refine WC.seq fun K990 hK990 => ?_
  refine WC.seq fun K991 hK991 => ?_
  -- region 2
  refine WC.region ?_
  -- R2.0 4 := detectm.go:25 assign
  refine WL.v (by first | exact r_assign (v := .int _ _) rfl | exact r_assign rfl) rfl rfl rfl ?_
  refine WL.fin hK991 (fun _ _ h => h) ?_
  refine WC.block ?_
  refine WC.loop (ι := Nat) (fun n => [(3, .pointer (some ⟨b3, 0, none⟩)), (4, .int .i64 (n : Nat))])
    (fun n w' => n ≤ 16 ∧ S0 w0 ((b3, Row 195 16 (mF (σ n))) :: l) w') (fun n => 16 - n) 0 ⟨Nat.zero_le _, st⟩ ?_ ?_
  · skip
    repeat (first | exact sub_nil _ | refine sub_cons rfl rfl ?_)
  clear st
  rintro n w ⟨hn, st⟩ K1 hK1
  by_cases h16 : n = 16
  · subst h16
    obtain ⟨S, hS⟩ : ∃ S, S = σ 16 := ⟨_, rfl⟩
    have hSl := hσl 16
    rw [← hS] at st hSl hcy ⊢
    refine WC.seq fun K992 hK992 => ?_
    refine WC.seq fun K993 hK993 => ?_
    -- region 3
    refine WC.region ?_
    -- R3.0 11 := detectm.go:25 move
    refine WL.v (by first | exact r_move (v := .int _ _) rfl | exact r_move rfl) rfl rfl rfl ?_
    -- R3.1 12 := detectm.go:25 binOp
    refine WL.v (by first | exact r_lss rfl rfl (decide_eq_true (by omega)) | exact r_lss rfl rfl (decide_eq_false (by omega)) | exact r_lss rfl rfl rfl) rfl rfl rfl ?_
    refine WL.fin hK993 (fun _ _ h => h) ?_
    refine WC.condF rfl rfl ?_
    refine WC.exitF hK990 (fun _ _ h => h) ?_
    refine WC.seq fun K994 hK994 => ?_
    -- region 14
    refine WC.region ?_
    -- R14.0 8 := detectm.go:32 assign
    refine WL.v (by first | exact r_assign (v := .int _ _) rfl | exact r_assign rfl) rfl rfl rfl ?_
    refine WL.fin hK994 (fun _ _ h => h) ?_
    refine WC.seq fun K995 hK995 => ?_
    refine WC.seq fun K996 hK996 => ?_
    -- region 15
    refine WC.region ?_
    -- R15.0 37 := detectm.go:33 move
    refine WL.v (by first | exact r_move (v := .int _ _) rfl | exact r_move rfl) rfl rfl rfl ?_
    refine WL.fin hK996 (fun _ _ h => h) ?_
    refine WC.block ?_
    refine WC.loop (ι := Nat) (fun i => [(3, .pointer (some ⟨b3, 0, none⟩)), (8, .int .u16 (maskP (fun t => (S t).testBit t) i : Nat)), (37, .int .i64 (i : Nat))])
      (fun i w' => i ≤ 16 ∧ S0 w0 ((b3, Row 195 16 (mF S)) :: l) w') (fun i => 16 - i) 0 ⟨Nat.zero_le _, st⟩ ?_ ?_
    · skip
      repeat (first | exact sub_nil _ | refine sub_cons rfl rfl ?_)
    clear st
    rintro i w ⟨hi, st⟩ K2 hK2
    by_cases hi16 : i = 16
    · subst hi16
      refine WC.seq fun K997 hK997 => ?_
      -- region 16
      refine WC.region ?_
      -- R16.0 38 := detectm.go:33 binOp
      refine WL.v (by first | exact r_lss rfl rfl (decide_eq_true (by omega)) | exact r_lss rfl rfl (decide_eq_false (by omega)) | exact r_lss rfl rfl rfl) rfl rfl rfl ?_
      refine WL.fin hK997 (fun _ _ h => h) ?_
      refine WC.seq fun K998 hK998 => ?_
      refine WC.condF rfl rfl ?_
      refine WC.exitF hK995 (fun _ _ h => h) ?_
      refine WC.seq fun K999 hK999 => ?_
      -- region 21
      refine WC.region ?_
      -- R21.0 50 := detectm.go:38 move
      refine WL.v (by first | exact r_move (v := .int _ _) rfl | exact r_move rfl) rfl rfl rfl ?_
      -- R21.1 2 := detectm.go:38 assign
      refine WL.v (by first | exact r_assign (v := .int _ _) rfl | exact r_assign rfl) rfl rfl rfl ?_
      refine WL.fin hK999 (fun _ _ h => h) ?_
      refine WC.ret1 Tryz.results148 (fun _ _ h => h) rfl ?_
      exact ⟨_, rfl, by rw [← hS]; rfl, st.drop⟩
    have hi' : i < 16 := by omega
    rcases Bool.eq_false_or_eq_true ((S i).testBit i) with hb | hb
    · have e : maskP (fun t => (S t).testBit t) (i + 1) = maskP (fun t => (S t).testBit t) i ||| 2 ^ i := if_pos hb
      refine WC.seq fun K1000 hK1000 => ?_
      -- region 16
      refine WC.region ?_
      -- R16.0 38 := detectm.go:33 binOp
      refine WL.v (by first | exact r_lss rfl rfl (decide_eq_true (by omega)) | exact r_lss rfl rfl (decide_eq_false (by omega)) | exact r_lss rfl rfl rfl) rfl rfl rfl ?_
      refine WL.fin hK1000 (fun _ _ h => h) ?_
      refine WC.seq fun K1001 hK1001 => ?_
      refine WC.condT rfl rfl ?_
      refine WC.skipF hK1001 (fun _ _ h => h) ?_
      refine WC.seq fun K1002 hK1002 => ?_
      refine WC.block ?_
      refine WC.seq fun K1003 hK1003 => ?_
      -- region 17
      refine WC.region ?_
      -- R17.0 39 := detectm.go:33 move
      refine WL.v (by first | exact r_move (v := .int _ _) rfl | exact r_move rfl) rfl rfl rfl ?_
      -- R17.1 9 := detectm.go:33 assign
      refine WL.v (by first | exact r_assign (v := .int _ _) rfl | exact r_assign rfl) rfl rfl rfl ?_
      refine WL.fin hK1003 (fun _ _ h => h) ?_
      refine WC.seq fun K1004 hK1004 => ?_
      -- region 18
      refine WC.region ?_
      -- R18.0 40 := detectm.go:34 move
      refine WL.v (by first | exact r_move (v := .int _ _) rfl | exact r_move rfl) rfl rfl rfl ?_
      -- R18.1 41 := detectm.go:34 indexAddr
      refine WL.v (by exact r_indexA (j := i) ty_ar195 rfl rfl rfl hi') rfl rfl rfl ?_
      -- R18.2 42 := detectm.go:34 load
      refine WL.v (by exact r_load1 (v := .int .u16 (S i : Nat)) ty_one38 rfl (c_mF List.mem_cons_self hi' st)) rfl rfl rfl ?_
      -- R18.3 43 := detectm.go:34 move
      refine WL.v (by first | exact r_move (v := .int _ _) rfl | exact r_move rfl) rfl rfl rfl ?_
      -- R18.4 44 := detectm.go:34 call
      refine WL.call (r_call ty_call28 rfl) rfl rfl rfl (has_ok (hSl i) hi' st) ?_
      rintro _ w ⟨he, st⟩
      rw [hb] at he
      subst he
      refine WL.fin hK1004 (fun _ _ h => h) ?_
      refine WC.condT rfl rfl ?_
      -- region 19
      refine WC.region ?_
      -- R19.0 45 := detectm.go:35 move
      refine WL.v (by first | exact r_move (v := .int _ _) rfl | exact r_move rfl) rfl rfl rfl ?_
      -- R19.1 46 := detectm.go:35 move
      refine WL.v (by first | exact r_move (v := .int _ _) rfl | exact r_move rfl) rfl rfl rfl ?_
      -- R19.2 47 := detectm.go:35 call
      refine WL.call (r_call ty_call30 rfl) rfl rfl rfl (bit_ok hi' st) ?_
      rintro _ w ⟨rfl, st⟩
      -- R19.3 48 := detectm.go:35 binOp
      refine WL.v (by exact r_or (r := ((maskP (fun t => (S t).testBit t) (i + 1) : Nat) : Int)) rfl rfl (by rw [or16 (maskP_lt _ i hi) (pow16 hi'), e])) rfl rfl rfl ?_
      -- R19.4 8 := detectm.go:35 assign
      refine WL.v (by first | exact r_assign (v := .int _ _) rfl | exact r_assign rfl) rfl rfl rfl ?_
      refine WL.fin hK1002 (fun _ _ h => h) ?_
      -- region 20
      refine WC.region ?_
      -- R20.0 49 := detectm.go:33 binOp
      refine WL.v (by first | exact r_add rfl rfl (wi64 (by omega) (by omega)) | exact r_add rfl rfl rfl) rfl rfl rfl ?_
      -- R20.1 37 := detectm.go:33 move
      refine WL.v (by first | exact r_move (v := .int _ _) rfl | exact r_move rfl) rfl rfl rfl ?_
      refine WL.next hK2 (fun _ _ h => h) (i + 1) ⟨hi', st⟩ (by omega) (by repeat (first | exact sub_nil _ | refine sub_cons rfl rfl ?_))
    · have e : maskP (fun t => (S t).testBit t) (i + 1) = maskP (fun t => (S t).testBit t) i := if_neg (by show ¬ (S i).testBit i = true; rw [hb]; decide)
      refine WC.seq fun K1005 hK1005 => ?_
      -- region 16
      refine WC.region ?_
      -- R16.0 38 := detectm.go:33 binOp
      refine WL.v (by first | exact r_lss rfl rfl (decide_eq_true (by omega)) | exact r_lss rfl rfl (decide_eq_false (by omega)) | exact r_lss rfl rfl rfl) rfl rfl rfl ?_
      refine WL.fin hK1005 (fun _ _ h => h) ?_
      refine WC.seq fun K1006 hK1006 => ?_
      refine WC.condT rfl rfl ?_
      refine WC.skipF hK1006 (fun _ _ h => h) ?_
      refine WC.seq fun K1007 hK1007 => ?_
      refine WC.block ?_
      refine WC.seq fun K1008 hK1008 => ?_
      -- region 17
      refine WC.region ?_
      -- R17.0 39 := detectm.go:33 move
      refine WL.v (by first | exact r_move (v := .int _ _) rfl | exact r_move rfl) rfl rfl rfl ?_
      -- R17.1 9 := detectm.go:33 assign
      refine WL.v (by first | exact r_assign (v := .int _ _) rfl | exact r_assign rfl) rfl rfl rfl ?_
      refine WL.fin hK1008 (fun _ _ h => h) ?_
      refine WC.seq fun K1009 hK1009 => ?_
      -- region 18
      refine WC.region ?_
      -- R18.0 40 := detectm.go:34 move
      refine WL.v (by first | exact r_move (v := .int _ _) rfl | exact r_move rfl) rfl rfl rfl ?_
      -- R18.1 41 := detectm.go:34 indexAddr
      refine WL.v (by exact r_indexA (j := i) ty_ar195 rfl rfl rfl hi') rfl rfl rfl ?_
      -- R18.2 42 := detectm.go:34 load
      refine WL.v (by exact r_load1 (v := .int .u16 (S i : Nat)) ty_one38 rfl (c_mF List.mem_cons_self hi' st)) rfl rfl rfl ?_
      -- R18.3 43 := detectm.go:34 move
      refine WL.v (by first | exact r_move (v := .int _ _) rfl | exact r_move rfl) rfl rfl rfl ?_
      -- R18.4 44 := detectm.go:34 call
      refine WL.call (r_call ty_call28 rfl) rfl rfl rfl (has_ok (hSl i) hi' st) ?_
      rintro _ w ⟨he, st⟩
      rw [hb] at he
      subst he
      refine WL.fin hK1009 (fun _ _ h => h) ?_
      refine WC.condF rfl rfl ?_
      refine WC.skipF hK1007 (fun _ _ h => h) ?_
      -- region 20
      refine WC.region ?_
      -- R20.0 49 := detectm.go:33 binOp
      refine WL.v (by first | exact r_add rfl rfl (wi64 (by omega) (by omega)) | exact r_add rfl rfl rfl) rfl rfl rfl ?_
      -- R20.1 37 := detectm.go:33 move
      refine WL.v (by first | exact r_move (v := .int _ _) rfl | exact r_move rfl) rfl rfl rfl ?_
      refine WL.next hK2 (fun _ _ h => h) (i + 1) ⟨hi', st⟩ (by omega) (by rw [e]; repeat (first | exact sub_nil _ | refine sub_cons rfl rfl ?_))
  have hn' : n < 16 := by omega
  obtain ⟨τ, hτ⟩ : ∃ τ, τ = ocN (σ n) := ⟨_, rfl⟩
  have hτ0 : τ 0 = σ n := by rw [hτ]; rfl
  have hτs : ∀ i, τ (i + 1) = ocT (τ i) i := fun i => by rw [hτ]; rfl
  have hτl : ∀ i j, τ i j < 65536 := fun i => by rw [hτ]; exact ocN_lt (hσl n) i
  have hτe : σ (n + 1) = τ 16 := by rw [hσs, hτ]
  clear hτ
  refine WC.seq fun K1010 hK1010 => ?_
  refine WC.seq fun K1011 hK1011 => ?_
  -- region 3
  refine WC.region ?_
  -- R3.0 11 := detectm.go:25 move
  refine WL.v (by first | exact r_move (v := .int _ _) rfl | exact r_move rfl) rfl rfl rfl ?_
  -- R3.1 12 := detectm.go:25 binOp
  refine WL.v (by first | exact r_lss rfl rfl (decide_eq_true (by omega)) | exact r_lss rfl rfl (decide_eq_false (by omega)) | exact r_lss rfl rfl rfl) rfl rfl rfl ?_
  refine WL.fin hK1011 (fun _ _ h => h) ?_
  refine WC.condT rfl rfl ?_
  refine WC.skipF hK1010 (fun _ _ h => h) ?_
  refine WC.seq fun K1012 hK1012 => ?_
  refine WC.block ?_
  refine WC.seq fun K1013 hK1013 => ?_
  -- region 5
  refine WC.region ?_
  -- R5.0 15 := detectm.go:26 move
  refine WL.v (by first | exact r_move (v := .int _ _) rfl | exact r_move rfl) rfl rfl rfl ?_
  refine WL.fin hK1013 (fun _ _ h => h) ?_
  refine WC.block ?_
  refine WC.loop (ι := Nat) (fun i => [(3, .pointer (some ⟨b3, 0, none⟩)), (4, .int .i64 (n : Nat)), (15, .int .i64 (i : Nat))])
    (fun i w' => i ≤ 16 ∧ S0 w0 ((b3, Row 195 16 (mF (τ i))) :: l) w') (fun i => 16 - i) 0 ⟨Nat.zero_le _, by rw [hτ0]; exact st⟩ ?_ ?_
  · skip
    repeat (first | exact sub_nil _ | refine sub_cons rfl rfl ?_)
  clear st
  rintro i w ⟨hi, st⟩ K2 hK2
  by_cases hi16 : i = 16
  · subst hi16
    rw [← hτe] at st
    refine WC.seq fun K1014 hK1014 => ?_
    -- region 6
    refine WC.region ?_
    -- R6.0 16 := detectm.go:26 binOp
    refine WL.v (by first | exact r_lss rfl rfl (decide_eq_true (by omega)) | exact r_lss rfl rfl (decide_eq_false (by omega)) | exact r_lss rfl rfl rfl) rfl rfl rfl ?_
    refine WL.fin hK1014 (fun _ _ h => h) ?_
    refine WC.seq fun K1015 hK1015 => ?_
    refine WC.condF rfl rfl ?_
    refine WC.exitF hK1012 (fun _ _ h => h) ?_
    -- region 4
    refine WC.region ?_
    -- R4.0 13 := detectm.go:25 move
    refine WL.v (by first | exact r_move (v := .int _ _) rfl | exact r_move rfl) rfl rfl rfl ?_
    -- R4.1 14 := detectm.go:25 binOp
    refine WL.v (by first | exact r_add rfl rfl (wi64 (by omega) (by omega)) | exact r_add rfl rfl rfl) rfl rfl rfl ?_
    -- R4.2 4 := detectm.go:25 assign
    refine WL.v (by first | exact r_assign (v := .int _ _) rfl | exact r_assign rfl) rfl rfl rfl ?_
    refine WL.next hK1 (fun _ _ h => h) (n + 1) ⟨hn', st⟩ (by omega) (by repeat (first | exact sub_nil _ | refine sub_cons rfl rfl ?_))
  have hi' : i < 16 := by omega
  obtain ⟨Q, hQ⟩ : ∃ Q, Q = τ i := ⟨_, rfl⟩
  have hQl := hτl i
  have hQs := hτs i
  rw [← hQ] at hQl hQs st
  obtain ⟨Ts, hTs⟩ : ∃ Ts, Ts = tasksP (Q i) := ⟨_, rfl⟩
  have hT16 : ∀ o, o ∈ Ts → o < 16 := fun o h => by rw [hTs] at h; exact tasksP_lt h
  have hQs : τ (i + 1) = Ts.foldl (fun R via => updN R i (R i ||| R via)) Q := by rw [hQs, hTs]; rfl
  refine WC.seq fun K1016 hK1016 => ?_
  -- region 6
  refine WC.region ?_
  -- R6.0 16 := detectm.go:26 binOp
  refine WL.v (by first | exact r_lss rfl rfl (decide_eq_true (by omega)) | exact r_lss rfl rfl (decide_eq_false (by omega)) | exact r_lss rfl rfl rfl) rfl rfl rfl ?_
  refine WL.fin hK1016 (fun _ _ h => h) ?_
  refine WC.seq fun K1017 hK1017 => ?_
  refine WC.condT rfl rfl ?_
  refine WC.skipF hK1017 (fun _ _ h => h) ?_
  refine WC.seq fun K1018 hK1018 => ?_
  refine WC.block ?_
  refine WC.seq fun K1019 hK1019 => ?_
  -- region 7
  refine WC.region ?_
  -- R7.0 17 := detectm.go:26 move
  refine WL.v (by first | exact r_move (v := .int _ _) rfl | exact r_move rfl) rfl rfl rfl ?_
  -- R7.1 5 := detectm.go:26 assign
  refine WL.v (by first | exact r_assign (v := .int _ _) rfl | exact r_assign rfl) rfl rfl rfl ?_
  refine WL.fin hK1019 (fun _ _ h => h) ?_
  refine WC.seq fun K1020 hK1020 => ?_
  -- region 8
  refine WC.region ?_
  -- R8.0 18 := detectm.go:27 move
  refine WL.v (by first | exact r_move (v := .int _ _) rfl | exact r_move rfl) rfl rfl rfl ?_
  -- R8.1 19 := detectm.go:27 indexAddr
  refine WL.v (by exact r_indexA (j := i) ty_ar195 rfl rfl rfl hi') rfl rfl rfl ?_
  -- R8.2 20 := detectm.go:27 load
  refine WL.v (by exact r_load1 (v := .int .u16 (Q i : Nat)) ty_one38 rfl (c_mF List.mem_cons_self hi' st)) rfl rfl rfl ?_
  -- R8.3 21 := detectm.go:27 call
  refine WL.call (r_call ty_call31 rfl) rfl rfl rfl (tasks_ok hD (hQl i) st) ?_
  rintro _ w ⟨X, ho, st⟩
  rw [← hTs] at ho
  obtain ⟨a, c, b, rfl, hc1, hc2, ha, hcell⟩ := ho.form
  have st : S0 w0 ((b3, Row 195 16 (mF Q)) :: (X ++ l)) w := st.perm (by classical exact List.perm_iff_count.2 fun x => by simp only [List.count_append, List.count_cons, List.count_nil, List.append_eq, List.cons_append, List.nil_append, List.append_assoc, Nat.add_zero, Nat.zero_add] <;> ac_rfl)
  -- R8.4 22 := detectm.go:27 call
  refine WL.v (by exact r_len ty_usl54 rfl) rfl rfl rfl ?_
  -- R8.5 23 := detectm.go:27 move
  refine WL.v (by first | exact r_move (v := .int _ _) rfl | exact r_move rfl) rfl rfl rfl ?_
  refine WL.fin hK1020 (fun _ _ h => h) ?_
  refine WC.block ?_
  refine WC.loop (ι := Nat) (fun j => [(3, .pointer (some ⟨b3, 0, none⟩)), (4, .int .i64 (n : Nat)), (5, .int .i64 (i : Nat)), (15, .int .i64 (i : Nat)), (21, .slice a Ts.length c), (22, .int .i64 (Ts.length : Nat)), (23, .int .i64 (j : Nat))])
    (fun j w' => j ≤ Ts.length ∧ S0 w0 ((b3, Row 195 16 (mF ((Ts.take j).foldl (fun R via => updN R i (R i ||| R via)) Q))) :: (X ++ l)) w') (fun j => Ts.length - j) 0 ⟨Nat.zero_le _, st⟩ ?_ ?_
  · skip
    repeat (first | exact sub_nil _ | refine sub_cons rfl rfl ?_)
  clear st
  rintro j w ⟨hj, st⟩ K3 hK3
  by_cases hjl : j = Ts.length
  · subst hjl
    rw [List.take_length, ← hQs] at st
    have st : S0 w0 ((b3, Row 195 16 (mF (τ (i + 1)))) :: l) w := st.sublist ((List.sublist_append_right X l).cons_cons _)
    refine WC.seq fun K1021 hK1021 => ?_
    -- region 9
    refine WC.region ?_
    -- R9.0 24 := detectm.go:27 binOp
    refine WL.v (by first | exact r_lss rfl rfl (decide_eq_true (by omega)) | exact r_lss rfl rfl (decide_eq_false (by omega)) | exact r_lss rfl rfl rfl) rfl rfl rfl ?_
    refine WL.fin hK1021 (fun _ _ h => h) ?_
    refine WC.seq fun K1022 hK1022 => ?_
    refine WC.condF rfl rfl ?_
    refine WC.exitF hK1018 (fun _ _ h => h) ?_
    -- region 13
    refine WC.region ?_
    -- R13.0 36 := detectm.go:26 binOp
    refine WL.v (by first | exact r_add rfl rfl (wi64 (by omega) (by omega)) | exact r_add rfl rfl rfl) rfl rfl rfl ?_
    -- R13.1 15 := detectm.go:26 move
    refine WL.v (by first | exact r_move (v := .int _ _) rfl | exact r_move rfl) rfl rfl rfl ?_
    refine WL.next hK2 (fun _ _ h => h) (i + 1) ⟨hi', st⟩ (by omega) (by repeat (first | exact sub_nil _ | refine sub_cons rfl rfl ?_))
  have hjl' : j < Ts.length := by omega
  obtain ⟨o, hoj⟩ : ∃ o, Ts[j]? = some o := ⟨Ts[j], List.getElem?_eq_getElem hjl'⟩
  have ho16 := hT16 o (List.mem_of_getElem? hoj)
  have hfs := foldl_snoc (f := fun (R : Nat → Nat) via => updN R i (R i ||| R via)) (b := Q) hoj
  have hSl : ∀ k, (Ts.take j).foldl (fun R via => updN R i (R i ||| R via)) Q k < 65536 := ocF_lt hQl
  obtain ⟨S, hS⟩ : ∃ S, S = (Ts.take j).foldl (fun R via => updN R i (R i ||| R via)) Q := ⟨_, rfl⟩
  rw [← hS] at st hfs hSl
  obtain rfl := ha (by omega)
  have hce := hcell st (fun x hx => List.mem_cons_of_mem _ (List.mem_append_left _ hx)) j o hoj 0 (by decide)
  refine WC.seq fun K1023 hK1023 => ?_
  -- region 9
  refine WC.region ?_
  -- R9.0 24 := detectm.go:27 binOp
  refine WL.v (by first | exact r_lss rfl rfl (decide_eq_true (by omega)) | exact r_lss rfl rfl (decide_eq_false (by omega)) | exact r_lss rfl rfl rfl) rfl rfl rfl ?_
  refine WL.fin hK1023 (fun _ _ h => h) ?_
  refine WC.seq fun K1024 hK1024 => ?_
  refine WC.condT rfl rfl ?_
  refine WC.skipF hK1024 (fun _ _ h => h) ?_
  refine WC.seq fun K1025 hK1025 => ?_
  refine WC.block ?_
  refine WC.seq fun K1026 hK1026 => ?_
  -- region 10
  refine WC.region ?_
  -- R10.0 25 := detectm.go:27 indexAddr
  refine WL.v (by exact r_indexS (j := j) ty_sl54 rfl rfl rfl (by omega)) rfl rfl rfl ?_
  -- R10.1 26 := detectm.go:27 load
  refine WL.v (by exact r_load1 (v := .int .i64 (o : Nat)) ty_one31 rfl (by rw [Nat.zero_add]; exact hce)) rfl rfl rfl ?_
  -- R10.2 7 := detectm.go:27 assign
  refine WL.v (by first | exact r_assign (v := .int _ _) rfl | exact r_assign rfl) rfl rfl rfl ?_
  refine WL.fin hK1026 (fun _ _ h => h) ?_
  -- region 11 (draws)
  refine WC.tailS 8 st ty_mixed (by kernel_rfl) fun w st Kq hKq => ?_
  -- R11.0 27 := detectm.go:28 move
  refine SL.v (by first | exact r_move (v := .int _ _) rfl | exact r_move rfl) rfl rfl rfl ?_
  -- R11.1 28 := detectm.go:28 indexAddr
  refine SL.v (by exact r_indexA (j := i) ty_ar195 rfl rfl rfl hi') rfl rfl rfl ?_
  -- R11.2 29 := detectm.go:28 load
  refine SL.v (by exact r_load1 (v := .int .u16 (S i : Nat)) ty_one38 rfl (c_mF List.mem_cons_self hi' st)) rfl rfl rfl ?_
  -- R11.3 30 := detectm.go:28 move
  refine SL.v (by first | exact r_move (v := .int _ _) rfl | exact r_move rfl) rfl rfl rfl ?_
  -- R11.4 31 := detectm.go:28 indexAddr
  refine SL.v (by exact r_indexA (j := o) ty_ar195 rfl rfl rfl ho16) rfl rfl rfl ?_
  -- R11.5 32 := detectm.go:28 load
  refine SL.v (by exact r_load1 (v := .int .u16 (S o : Nat)) ty_one38 rfl (c_mF List.mem_cons_self ho16 st)) rfl rfl rfl ?_
  -- R11.6 33 := detectm.go:28 binOp
  refine SL.v (by exact r_or (r := ((S i ||| S o : Nat) : Int)) rfl rfl (or16 (hSl i) (hSl o))) rfl rfl rfl ?_
  -- R11.7 34 := detectm.go:28 indexAddr
  refine SL.v (by exact r_indexA (j := i) ty_ar195 rfl rfl rfl hi') rfl rfl rfl ?_
  refine SL.fin hKq ?_
  -- R11.8 None := detectm.go:28 store
  first | refine WL.store (v := .int _ _) st ty_one38 rfl rfl rfl (by first | decide | omega) rfl rfl ?_ | refine WL.store (v := _) st ty_one38 rfl rfl rfl (by first | decide | omega) rfl rfl ?_ | refine WL.store (v := .int _ _) st.front1 ty_one38 rfl rfl rfl (by first | decide | omega) rfl rfl ?_ | refine WL.store (v := _) st.front1 ty_one38 rfl rfl rfl (by first | decide | omega) rfl rfl ?_ | refine WL.store (v := .int _ _) st.front2 ty_one38 rfl rfl rfl (by first | decide | omega) rfl rfl ?_ | refine WL.store (v := _) st.front2 ty_one38 rfl rfl rfl (by first | decide | omega) rfl rfl ?_ | refine WL.store (v := .int _ _) st.front3 ty_one38 rfl rfl rfl (by first | decide | omega) rfl rfl ?_ | refine WL.store (v := _) st.front3 ty_one38 rfl rfl rfl (by first | decide | omega) rfl rfl ?_ | refine WL.store (v := .int _ _) st.front4 ty_one38 rfl rfl rfl (by first | decide | omega) rfl rfl ?_ | refine WL.store (v := _) st.front4 ty_one38 rfl rfl rfl (by first | decide | omega) rfl rfl ?_ | refine WL.store (v := .int _ _) st.front5 ty_one38 rfl rfl rfl (by first | decide | omega) rfl rfl ?_ | refine WL.store (v := _) st.front5 ty_one38 rfl rfl rfl (by first | decide | omega) rfl rfl ?_ | refine WL.store (v := .int _ _) st.front6 ty_one38 rfl rfl rfl (by first | decide | omega) rfl rfl ?_ | refine WL.store (v := _) st.front6 ty_one38 rfl rfl rfl (by first | decide | omega) rfl rfl ?_ | refine WL.store (v := .int _ _) st.front7 ty_one38 rfl rfl rfl (by first | decide | omega) rfl rfl ?_ | refine WL.store (v := _) st.front7 ty_one38 rfl rfl rfl (by first | decide | omega) rfl rfl ?_ | refine WL.store (v := .int _ _) st.front8 ty_one38 rfl rfl rfl (by first | decide | omega) rfl rfl ?_ | refine WL.store (v := _) st.front8 ty_one38 rfl rfl rfl (by first | decide | omega) rfl rfl ?_
  intro w st
  refine WL.fin hK1025 (fun _ _ h => h) ?_
  -- region 12
  refine WC.region ?_
  -- R12.0 35 := detectm.go:27 binOp
  refine WL.v (by first | exact r_add rfl rfl (wi64 (by omega) (by omega)) | exact r_add rfl rfl rfl) rfl rfl rfl ?_
  -- R12.1 23 := detectm.go:27 move
  refine WL.v (by first | exact r_move (v := .int _ _) rfl | exact r_move rfl) rfl rfl rfl ?_
  refine WL.next hK3 (fun _ _ h => h) (j + 1) ⟨hjl', by rw [hfs]; exact stE (mF_set (n := 16)) st⟩ (by omega) (by repeat (first | exact sub_nil _ | refine sub_cons rfl rfl ?_))
end Go.Proofs.Qxb6500834aGreatDoor

