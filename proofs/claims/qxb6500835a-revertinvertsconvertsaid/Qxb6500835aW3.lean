import Derived.Test.Qxb6500835aW2
set_option linter.unusedVariables false
set_option linter.unusedSimpArgs false
namespace Go.Proofs.Qxb6500835a
open Go.RowKit Go.E1 Go.Conv

def GR (g : Nat → Value) (db q : Nat) (S : Nat → Nat) (A : Nat → Pr) : Prop :=
  ∀ t, t < q → g (0 + t * 2) = .int .u8 (A (S t)).2 ∧ ∃ c, g (0 + t * 2 + 1) = .slice (some ⟨db, S t, none⟩) (S (t + 1) - S t) c
def DR (fd : Nat → Value) (n : Nat) (A : Nat → Pr) : Prop := ∀ k, k < n → fd (0 + k * 1) = .int .u32 (A k).1

/-- What the two makers of groups leave. -/
def Grouped (w0 : World) (M : Nat → Prop) (L : List HI) (cb n : Nat) (X : Nat → Pr) (v : Value) (w' : World) : Prop :=
  ∃ gb gc db q S A g fd F' fv' FI', v = .slice (some ⟨gb, 0, none⟩) q gc ∧ Out n X A q S ∧ GR g db q S A ∧ DR fd n A ∧ q ≤ gc ∧ ConvF F' fv' ∧ FewOk fv' FI' ∧
    St w0 M ((gb, Row 60 (gc * 2) g) :: (db, Row 50 (n * 1) fd) :: (cb, Row 27 513 F') :: (FI' ++ L)) w'

theorem DR.set {fd : Nat → Value} {n i : Nat} {A : Nat → Pr} (h : ∀ k, k < i → fd (0 + k * 1) = .int .u32 (A k).1) : ∀ k, k < i + 1 → upd fd (0 + i * 1) (.int .u32 (A i).1) (0 + k * 1) = .int .u32 (A k).1 := by
  intro k hk
  simp only [upd_eq]
  by_cases hki : k = i
  · subst hki; rw [if_pos rfl]
  · rw [if_neg (by omega)]; exact h k (by omega)

theorem ConvF.few_set {F : Nat → Value} {fv : Value} (h : ConvF F fv) (s : Value) : ConvF (upd F (0 + 512) s) s :=
  ⟨fun i hi => by simp only [upd_eq]; rw [if_neg (by omega)]; exact h.cnt i hi, fun i hi => by
    obtain ⟨g, hg⟩ := h.grp i hi
    exact ⟨g, by simp only [upd_eq]; rw [if_neg (by omega)]; exact hg⟩, by simp [upd_eq]⟩

theorem GR.closes {g : Nat → Value} {db q i : Nat} {S : Nat → Nat} {A : Nat → Pr} {news : Nat → Value} {c : Nat} (h : GR g db q S A) (hcur : (A i).2 = (A (S q)).2) (h0 : news 0 = .int .u8 (A i).2) (h1 : news 1 = .slice (some ⟨db, 0 + S q * 1, none⟩) (i + 1 - S q) c) :
    GR (upds g (0 + q * 2) (1 * 2) news) db (q + 1) (fun t => if t ≤ q then S t else i + 1) A := by
  intro t ht
  simp only [upds_eq]
  by_cases htq : t = q
  · subst htq
    refine ⟨?_, c, ?_⟩
    · rw [if_pos (show 0 + t * 2 ≤ 0 + t * 2 ∧ 0 + t * 2 < 0 + t * 2 + 1 * 2 by omega), if_pos (Nat.le_refl t), show 0 + t * 2 - (0 + t * 2) = 0 by omega, h0, hcur]
    · rw [if_pos (show 0 + t * 2 ≤ 0 + t * 2 + 1 ∧ 0 + t * 2 + 1 < 0 + t * 2 + 1 * 2 by omega), if_pos (Nat.le_refl t), if_neg (show ¬ t + 1 ≤ t by omega), show 0 + t * 2 + 1 - (0 + t * 2) = 1 by omega, h1, show 0 + S t * 1 = S t by omega]
  · rw [if_neg (show ¬ (0 + q * 2 ≤ 0 + t * 2 ∧ 0 + t * 2 < 0 + q * 2 + 1 * 2) by omega), if_neg (show ¬ (0 + q * 2 ≤ 0 + t * 2 + 1 ∧ 0 + t * 2 + 1 < 0 + q * 2 + 1 * 2) by omega), if_pos (show t ≤ q by omega), if_pos (show t + 1 ≤ q by omega)]
    exact h t (by omega)

set_option maxHeartbeats 4000000 in
theorem few_ok (cb lb lo n lc : Nat) (X : Nat → Pr) (F : Nat → Value) (fv : Value) (FI : List HI) {w0 : World} {M : Nat → Prop} {L : List HI} {w : World} (hn : 1 ≤ n) (hn2 : n ≤ 12)
    (hX : ∀ a b, a < b → b < n → (X a).1 < (X b).1) (hrd : ∀ its w', St w0 M (its ++ L) w' → LAt w' lb lo n X) (hF : ConvF F fv) (hfew : FewOk fv FI)
    (st : St w0 M ((cb, Row 27 513 F) :: (FI ++ L)) w) :
    Calls Try.prog 19 #[.pointer (some ⟨cb, 0, none⟩), .slice (some ⟨lb, lo, none⟩) n lc] w (Ret (Grouped w0 M L cb n X)) := by
  refine enter [.pointer (some ⟨cb, 0, none⟩), .slice (some ⟨lb, lo, none⟩) n lc] Try.func19 rfl Try.ntmps19 rfl ?_
  show WC _ _ _ 135 [] [(0, .pointer (some ⟨cb, 0, none⟩)), (1, .slice (some ⟨lb, lo, none⟩) n lc)] _
  refine WC.seq fun K3 hK3 => ?_
  -- region 0
  refine WC.region ?_
  -- R0.0 4 := convert.go:77 assign
  refine WL.v (by first | exact r_assign (v := .slice _ _ _) rfl | exact r_assign rfl) rfl rfl rfl ?_
  refine WL.fin hK3 (fun _ _ h => h) ?_
  refine WC.cut (ι := Nat × Nat × (Nat → Value)) (fun z => [(0, .pointer (some ⟨cb, 0, none⟩)), (1, .slice (some ⟨lb, lo, none⟩) n lc), (5, .slice (some ⟨z.1, 0, none⟩) n z.2.1)])
    (fun z w' => St w0 M ((z.1, Row 63 (z.2.1 * 2) z.2.2) :: (cb, Row 27 513 F) :: L) w' ∧ PR z.2.2 n X ∧ n ≤ z.2.1 ∧ z.2.1 ≤ 9223372036854775807) ?_ ?_
  · rintro ⟨fb, cap, f⟩ w ⟨st, hf, hcap1, hcap2⟩
    simp only at st hf hcap1 hcap2 ⊢
    refine WC.seq fun K4 hK4 => ?_
    -- region 2
    refine WC.region ?_
    -- R2.0 23 := convert.go:79 move
    refine WL.v (by first | exact r_move (v := .pointer _) rfl | exact r_move rfl) rfl rfl rfl ?_
    -- R2.1 24 := convert.go:79 move
    refine WL.v (by first | exact r_move (v := .slice _ _ _) rfl | exact r_move rfl) rfl rfl rfl ?_
    -- R2.2 25 := convert.go:79 nilCheck
    refine WL.v (by exact r_nilCheck rfl) rfl rfl rfl ?_
    -- R2.3 26 := convert.go:79 fieldAddr
    refine WL.v (by exact r_field ty_fld27_2 rfl) rfl rfl rfl ?_
    -- R2.4 None := convert.go:79 store
    first | refine WL.store (v := .slice _ _ _) st ty_one25 rfl rfl rfl (by first | decide | omega) rfl rfl ?_ | refine WL.store (v := _) st ty_one25 rfl rfl rfl (by first | decide | omega) rfl rfl ?_ | refine WL.store (v := .slice _ _ _) st.front1 ty_one25 rfl rfl rfl (by first | decide | omega) rfl rfl ?_ | refine WL.store (v := _) st.front1 ty_one25 rfl rfl rfl (by first | decide | omega) rfl rfl ?_ | refine WL.store (v := .slice _ _ _) st.front2 ty_one25 rfl rfl rfl (by first | decide | omega) rfl rfl ?_ | refine WL.store (v := _) st.front2 ty_one25 rfl rfl rfl (by first | decide | omega) rfl rfl ?_ | refine WL.store (v := .slice _ _ _) st.front3 ty_one25 rfl rfl rfl (by first | decide | omega) rfl rfl ?_ | refine WL.store (v := _) st.front3 ty_one25 rfl rfl rfl (by first | decide | omega) rfl rfl ?_ | refine WL.store (v := .slice _ _ _) st.front4 ty_one25 rfl rfl rfl (by first | decide | omega) rfl rfl ?_ | refine WL.store (v := _) st.front4 ty_one25 rfl rfl rfl (by first | decide | omega) rfl rfl ?_ | refine WL.store (v := .slice _ _ _) st.front5 ty_one25 rfl rfl rfl (by first | decide | omega) rfl rfl ?_ | refine WL.store (v := _) st.front5 ty_one25 rfl rfl rfl (by first | decide | omega) rfl rfl ?_ | refine WL.store (v := .slice _ _ _) st.front6 ty_one25 rfl rfl rfl (by first | decide | omega) rfl rfl ?_ | refine WL.store (v := _) st.front6 ty_one25 rfl rfl rfl (by first | decide | omega) rfl rfl ?_ | refine WL.store (v := .slice _ _ _) st.front7 ty_one25 rfl rfl rfl (by first | decide | omega) rfl rfl ?_ | refine WL.store (v := _) st.front7 ty_one25 rfl rfl rfl (by first | decide | omega) rfl rfl ?_ | refine WL.store (v := .slice _ _ _) st.front8 ty_one25 rfl rfl rfl (by first | decide | omega) rfl rfl ?_ | refine WL.store (v := _) st.front8 ty_one25 rfl rfl rfl (by first | decide | omega) rfl rfl ?_
    intro w st
    refine WL.fin hK4 (fun _ _ h => h) ?_
    refine WC.seq fun K5 hK5 => ?_
    -- region 3
    refine WC.region ?_
    -- R3.0 6 := convert.go:80 assign
    refine WL.v (by first | exact r_assign (v := .int _ _) rfl | exact r_assign rfl) rfl rfl rfl ?_
    refine WL.fin hK5 (fun _ _ h => h) ?_
    refine WC.seq fun K6 hK6 => ?_
    refine WC.seq fun K7 hK7 => ?_
    -- region 4
    refine WC.region ?_
    -- R4.0 7 := convert.go:81 assign
    refine WL.v (by first | exact r_assign (v := .int _ _) rfl | exact r_assign rfl) rfl rfl rfl ?_
    refine WL.fin hK7 (fun _ _ h => h) ?_
    refine WC.block ?_
    have hF1 := hF.few_set (.slice (some ⟨fb, 0, none⟩) n cap)
    generalize upd F (0 + 512) (.slice (some ⟨fb, 0, none⟩) n cap) = F1 at st hF1
    refine WC.loop (ι := Nat × (Nat → Pr) × (Nat → Value)) (fun z => [(5, .slice (some ⟨fb, 0, none⟩) n cap), (6, .int .i64 1), (7, .int .i64 z.1)])
      (fun z w' => 1 ≤ z.1 ∧ z.1 ≤ n ∧ St w0 M ((cb, Row 27 513 F1) :: (fb, Row 63 (cap * 2) z.2.2) :: L) w' ∧ PR z.2.2 n z.2.1 ∧ (∀ a b, a < b → b < z.1 → lexlt (z.2.1 a) (z.2.1 b)) ∧
        ((List.range z.1).map z.2.1).Perm ((List.range z.1).map X) ∧ (∀ k, z.1 ≤ k → k < n → z.2.1 k = X k)) (fun z => n - z.1) (1, X, f)
      ⟨by simp, by simpa using hn, st, hf, fun a b h1 h2 => by simp only at h2; omega, List.Perm.refl _, fun _ _ _ => rfl⟩ ?_ ?_
    · skip
      repeat (first | exact sub_nil _ | refine sub_cons rfl rfl ?_)
    rintro ⟨i, A, f⟩ w ⟨hi1, hi2, st, hf, hsrt, hperm, hrest⟩ KO hKO
    simp only at hi1 hi2 st hf hsrt hperm hrest hKO ⊢
    by_cases hlt : i < n
    · have hAi : A i = X i := hrest i (Nat.le_refl _) hlt
      have hdoc : ∀ k, k < i → (A k).1 < (A i).1 := fun k hk => by
        have hm : A k ∈ (List.range i).map X := hperm.mem_iff.1 (List.mem_map.2 ⟨k, List.mem_range.2 hk, rfl⟩)
        obtain ⟨k', hk', he⟩ := List.mem_map.1 hm
        rw [← he, hAi]
        exact hX k' i (List.mem_range.1 hk') hlt
      have hperm1 : ((List.range (i + 1)).map A).Perm ((List.range (i + 1)).map X) := by
        rw [List.range_succ, List.map_append, List.map_append]
        refine hperm.append ?_
        simp [hAi]
      have hrest1 : ∀ j, j ≤ i → ∀ k, i + 1 ≤ k → k < n → ins A i j k = X k := fun j hj k h1 h2 => by
        unfold ins
        rw [if_neg (by omega), if_neg (by omega), if_neg (by omega)]
        exact hrest k (by omega) h2
      refine WC.seq fun K8 hK8 => ?_
      refine WC.seq fun K9 hK9 => ?_
      -- region 5
      refine WC.region ?_
      -- R5.0 27 := convert.go:81 move
      refine WL.v (by first | exact r_move (v := .int _ _) rfl | exact r_move rfl) rfl rfl rfl ?_
      -- R5.1 28 := convert.go:81 move
      refine WL.v (by first | exact r_move (v := .slice _ _ _) rfl | exact r_move rfl) rfl rfl rfl ?_
      -- R5.2 29 := convert.go:81 call
      refine WL.v (by exact r_len ty_usl25 rfl) rfl rfl rfl ?_
      -- R5.3 30 := convert.go:81 binOp
      refine WL.v (by first | exact r_lss rfl rfl (decide_eq_true (by omega)) | exact r_lss rfl rfl (decide_eq_false (by omega)) | exact r_lss rfl rfl rfl) rfl rfl rfl ?_
      refine WL.fin hK9 (fun _ _ h => h) ?_
      refine WC.condT rfl rfl ?_
      refine WC.skipF hK8 (fun _ _ h => h) ?_
      refine WC.seq fun K10 hK10 => ?_
      refine WC.block ?_
      refine WC.seq fun K11 hK11 => ?_
      -- region 7
      refine WC.region ?_
      -- R7.0 33 := convert.go:82 move
      refine WL.v (by first | exact r_move (v := .slice _ _ _) rfl | exact r_move rfl) rfl rfl rfl ?_
      -- R7.1 34 := convert.go:82 move
      refine WL.v (by first | exact r_move (v := .int _ _) rfl | exact r_move rfl) rfl rfl rfl ?_
      -- R7.2 35 := convert.go:82 indexAddr
      refine WL.v (by exact r_indexS ty_sl25 rfl rfl rfl (by omega)) rfl rfl rfl ?_
      -- R7.3 36 := convert.go:82 load
      refine WL.v (by exact r_loadL (vs := [_, _]) ty_agg63 rfl ⟨((st.c1 (by omega)).trans (congrArg some (hf i hlt).1)), ((st.c1 (by omega)).trans (congrArg some (hf i hlt).2)), trivial⟩) rfl rfl rfl ?_
      -- R7.4 37 := convert.go:82 move
      refine WL.v (by first | exact r_move (v := .int _ _) rfl | exact r_move rfl) rfl rfl rfl ?_
      -- R7.5 8 := convert.go:82 alloc
      refine WL.alloc st ty_zero63 rfl rfl rfl ?_
      intro b8 w st
      -- R7.6 None := convert.go:82 store
      first | refine WL.storeW (vs := [_, _]) st ty_agg63 rfl rfl rfl rfl rfl rfl ?_ | refine WL.storeL (vs := [_, _]) st ty_agg63 rfl rfl rfl rfl (by first | decide | omega) rfl rfl ?_ | refine WL.storeW (vs := [_, _]) st.front1 ty_agg63 rfl rfl rfl rfl rfl rfl ?_ | refine WL.storeL (vs := [_, _]) st.front1 ty_agg63 rfl rfl rfl rfl (by first | decide | omega) rfl rfl ?_ | refine WL.storeW (vs := [_, _]) st.front2 ty_agg63 rfl rfl rfl rfl rfl rfl ?_ | refine WL.storeL (vs := [_, _]) st.front2 ty_agg63 rfl rfl rfl rfl (by first | decide | omega) rfl rfl ?_ | refine WL.storeW (vs := [_, _]) st.front3 ty_agg63 rfl rfl rfl rfl rfl rfl ?_ | refine WL.storeL (vs := [_, _]) st.front3 ty_agg63 rfl rfl rfl rfl (by first | decide | omega) rfl rfl ?_ | refine WL.storeW (vs := [_, _]) st.front4 ty_agg63 rfl rfl rfl rfl rfl rfl ?_ | refine WL.storeL (vs := [_, _]) st.front4 ty_agg63 rfl rfl rfl rfl (by first | decide | omega) rfl rfl ?_ | refine WL.storeW (vs := [_, _]) st.front5 ty_agg63 rfl rfl rfl rfl rfl rfl ?_ | refine WL.storeL (vs := [_, _]) st.front5 ty_agg63 rfl rfl rfl rfl (by first | decide | omega) rfl rfl ?_ | refine WL.storeW (vs := [_, _]) st.front6 ty_agg63 rfl rfl rfl rfl rfl rfl ?_ | refine WL.storeL (vs := [_, _]) st.front6 ty_agg63 rfl rfl rfl rfl (by first | decide | omega) rfl rfl ?_ | refine WL.storeW (vs := [_, _]) st.front7 ty_agg63 rfl rfl rfl rfl rfl rfl ?_ | refine WL.storeL (vs := [_, _]) st.front7 ty_agg63 rfl rfl rfl rfl (by first | decide | omega) rfl rfl ?_ | refine WL.storeW (vs := [_, _]) st.front8 ty_agg63 rfl rfl rfl rfl rfl rfl ?_ | refine WL.storeL (vs := [_, _]) st.front8 ty_agg63 rfl rfl rfl rfl (by first | decide | omega) rfl rfl ?_
      intro w st
      -- R7.7 9 := convert.go:82 assign
      refine WL.v (by first | exact r_assign (v := .int _ _) rfl | exact r_assign rfl) rfl rfl rfl ?_
      refine WL.fin hK11 (fun _ _ h => h) ?_
      refine WC.seq fun K12 hK12 => ?_
      refine WC.block ?_
      refine WC.loop (ι := Nat × (Nat → Value)) (fun z => [(5, .slice (some ⟨fb, 0, none⟩) n cap), (6, .int .i64 1), (7, .int .i64 i), (8, .pointer (some ⟨b8, 0, none⟩)), (9, .int .i64 z.1)])
        (fun z w' => z.1 ≤ i ∧ St w0 M ((b8, Row 63 2 (nth [.int .u32 (A i).1, .int .u8 (A i).2])) :: (cb, Row 27 513 F1) :: (fb, Row 63 (cap * 2) z.2) :: L) w' ∧
          PR z.2 n (sh A i z.1) ∧ ∀ k, z.1 ≤ k → k < i → (A k).2 < (A i).2) (fun z => z.1) (i, f)
        ⟨Nat.le_refl _, st, hf.congr fun k _ => (sh_start A i k).symm, fun k h1 h2 => by simp only at h1; omega⟩ ?_ ?_
      · skip
        repeat (first | exact sub_nil _ | refine sub_cons rfl rfl ?_)
      rintro ⟨j, f⟩ w ⟨hji, st, hf, hbig⟩ KI hKI
      simp only at hji st hf hbig hKI ⊢
      by_cases hj0 : 0 < j
      · have hs1 : sh A i j (j - 1) = A (j - 1) := by unfold sh; rw [if_pos (by omega)]
        have hc1 : f (0 + (j - 1) * 2) = .int .u32 (A (j - 1)).1 := by rw [(hf (j - 1) (by omega)).1, hs1]
        have hc2 : f (0 + (j - 1) * 2 + 1) = .int .u8 (A (j - 1)).2 := by rw [(hf (j - 1) (by omega)).2, hs1]
        by_cases him : (A (j - 1)).2 < (A i).2
        · skip
          have hbig' : ∀ k, j - 1 ≤ k → k < i → (A k).2 < (A i).2 := fun k h1 h2 => by
            by_cases hkj : k = j - 1
            · subst hkj; exact him
            · exact hbig k (by omega) h2
          refine WC.seq fun K13 hK13 => ?_
          refine WC.seq fun K14 hK14 => ?_
          -- region 8 (draws)
          refine WC.quietS st ty_mixed (by kernel_rfl) fun Kq hKq => ?_
          -- R8.0 38 := convert.go:83 move
          refine QL.v (fun w st => by first | exact r_move (v := .int _ _) rfl | exact r_move rfl) rfl rfl rfl ?_
          -- R8.1 39 := convert.go:83 binOp
          refine QL.v (fun w st => by first | exact r_gtr rfl rfl (decide_eq_true (by omega)) | exact r_gtr rfl rfl (decide_eq_false (by omega)) | exact r_gtr rfl rfl rfl) rfl rfl rfl ?_
          -- R8.2 40 := convert.go:83 move
          refine QL.v (fun w st => by first | exact r_move (v := .bool _) rfl | exact r_move rfl) rfl rfl rfl ?_
          -- R8.3 41 := convert.go:83 move
          refine QL.v (fun w st => by first | exact r_move (v := .slice _ _ _) rfl | exact r_move rfl) rfl rfl rfl ?_
          -- R8.4 42 := convert.go:83 move
          refine QL.v (fun w st => by first | exact r_move (v := .int _ _) rfl | exact r_move rfl) rfl rfl rfl ?_
          -- R8.5 43 := convert.go:83 binOp
          refine QL.v (fun w st => by first | exact r_sub rfl rfl (wi64 (by omega) (by omega)) | exact r_sub rfl rfl rfl) rfl rfl rfl ?_
          -- R8.6 44 := convert.go:83 indexAddr
          refine QL.v (fun w st => by exact r_indexS (j := j - 1) ty_sl25 rfl rfl (by omega) (by omega)) rfl rfl rfl ?_
          -- R8.7 45 := convert.go:83 fieldAddr
          refine QL.v (fun w st => by exact r_field ty_fld63_1 rfl) rfl rfl rfl ?_
          -- R8.8 46 := convert.go:83 load
          refine QL.v (fun w st => by exact r_load1 ty_one5 rfl ((st.c2 (by omega)).trans (congrArg some hc2))) rfl rfl rfl ?_
          -- R8.9 47 := convert.go:83 fieldAddr
          refine QL.v (fun w st => by exact r_field ty_fld63_1 rfl) rfl rfl rfl ?_
          -- R8.10 48 := convert.go:83 load
          refine QL.v (fun w st => by exact r_load1 ty_one5 rfl (by first | assumption | exact st.c0 (by first | decide | omega) | exact st.c1 (by first | decide | omega) | exact st.c2 (by first | decide | omega) | exact st.c3 (by first | decide | omega) | exact st.c4 (by first | decide | omega) | exact st.c5 (by first | decide | omega) | exact st.c6 (by first | decide | omega) | exact st.c7 (by first | decide | omega) | exact st.c8 (by first | decide | omega))) rfl rfl rfl ?_
          -- R8.11 49 := convert.go:83 binOp
          refine QL.v (fun w st => by first | exact r_lss rfl rfl (decide_eq_true (by omega)) | exact r_lss rfl rfl (decide_eq_false (by omega)) | exact r_lss rfl rfl rfl) rfl rfl rfl ?_
          -- R8.12 50 := convert.go:83 pick
          refine QL.v (fun w st => by first | exact r_pickT (v := .bool _) rfl rfl | exact r_pickF (v := .bool _) rfl rfl) rfl rfl rfl ?_
          refine QL.wl hKq fun w st => ?_
          refine WL.fin hK14 (fun _ _ h => h) ?_
          refine WC.condT rfl rfl ?_
          refine WC.skipF hK13 (fun _ _ h => h) ?_
          refine WC.block ?_
          refine WC.seq fun K15 hK15 => ?_
          -- region 9
          refine WC.region ?_
          -- R9.0 51 := convert.go:84 move
          refine WL.v (by first | exact r_move (v := .slice _ _ _) rfl | exact r_move rfl) rfl rfl rfl ?_
          -- R9.1 52 := convert.go:84 move
          refine WL.v (by first | exact r_move (v := .int _ _) rfl | exact r_move rfl) rfl rfl rfl ?_
          -- R9.2 53 := convert.go:84 move
          refine WL.v (by first | exact r_move (v := .slice _ _ _) rfl | exact r_move rfl) rfl rfl rfl ?_
          -- R9.3 54 := convert.go:84 move
          refine WL.v (by first | exact r_move (v := .int _ _) rfl | exact r_move rfl) rfl rfl rfl ?_
          -- R9.4 55 := convert.go:84 binOp
          refine WL.v (by first | exact r_sub rfl rfl (wi64 (by omega) (by omega)) | exact r_sub rfl rfl rfl) rfl rfl rfl ?_
          -- R9.5 56 := convert.go:84 indexAddr
          refine WL.v (by exact r_indexS (j := j - 1) ty_sl25 rfl rfl (by omega) (by omega)) rfl rfl rfl ?_
          -- R9.6 57 := convert.go:84 load
          refine WL.v (by exact r_loadL (vs := [_, _]) ty_agg63 rfl ⟨((st.c2 (by omega)).trans (congrArg some hc1)), ((st.c2 (by omega)).trans (congrArg some hc2)), trivial⟩) rfl rfl rfl ?_
          -- R9.7 58 := convert.go:84 indexAddr
          refine WL.v (by exact r_indexS ty_sl25 rfl rfl rfl (by omega)) rfl rfl rfl ?_
          -- R9.8 None := convert.go:84 store
          first | refine WL.storeW (vs := [_, _]) st ty_agg63 rfl rfl rfl rfl rfl rfl ?_ | refine WL.storeL (vs := [_, _]) st ty_agg63 rfl rfl rfl rfl (by first | decide | omega) rfl rfl ?_ | refine WL.storeW (vs := [_, _]) st.front1 ty_agg63 rfl rfl rfl rfl rfl rfl ?_ | refine WL.storeL (vs := [_, _]) st.front1 ty_agg63 rfl rfl rfl rfl (by first | decide | omega) rfl rfl ?_ | refine WL.storeW (vs := [_, _]) st.front2 ty_agg63 rfl rfl rfl rfl rfl rfl ?_ | refine WL.storeL (vs := [_, _]) st.front2 ty_agg63 rfl rfl rfl rfl (by first | decide | omega) rfl rfl ?_ | refine WL.storeW (vs := [_, _]) st.front3 ty_agg63 rfl rfl rfl rfl rfl rfl ?_ | refine WL.storeL (vs := [_, _]) st.front3 ty_agg63 rfl rfl rfl rfl (by first | decide | omega) rfl rfl ?_ | refine WL.storeW (vs := [_, _]) st.front4 ty_agg63 rfl rfl rfl rfl rfl rfl ?_ | refine WL.storeL (vs := [_, _]) st.front4 ty_agg63 rfl rfl rfl rfl (by first | decide | omega) rfl rfl ?_ | refine WL.storeW (vs := [_, _]) st.front5 ty_agg63 rfl rfl rfl rfl rfl rfl ?_ | refine WL.storeL (vs := [_, _]) st.front5 ty_agg63 rfl rfl rfl rfl (by first | decide | omega) rfl rfl ?_ | refine WL.storeW (vs := [_, _]) st.front6 ty_agg63 rfl rfl rfl rfl rfl rfl ?_ | refine WL.storeL (vs := [_, _]) st.front6 ty_agg63 rfl rfl rfl rfl (by first | decide | omega) rfl rfl ?_ | refine WL.storeW (vs := [_, _]) st.front7 ty_agg63 rfl rfl rfl rfl rfl rfl ?_ | refine WL.storeL (vs := [_, _]) st.front7 ty_agg63 rfl rfl rfl rfl (by first | decide | omega) rfl rfl ?_ | refine WL.storeW (vs := [_, _]) st.front8 ty_agg63 rfl rfl rfl rfl rfl rfl ?_ | refine WL.storeL (vs := [_, _]) st.front8 ty_agg63 rfl rfl rfl rfl (by first | decide | omega) rfl rfl ?_
          intro w st
          refine WL.fin hK15 (fun _ _ h => h) ?_
          -- region 10
          refine WC.region ?_
          -- R10.0 59 := convert.go:85 move
          refine WL.v (by first | exact r_move (v := .int _ _) rfl | exact r_move rfl) rfl rfl rfl ?_
          -- R10.1 60 := convert.go:85 binOp
          refine WL.v (by exact r_sub (r := ((j - 1 : Nat) : Int)) rfl rfl (by rw [wi64 (by omega) (by omega)]; omega)) rfl rfl rfl ?_
          -- R10.2 9 := convert.go:85 assign
          refine WL.v (by first | exact r_assign (v := .int _ _) rfl | exact r_assign rfl) rfl rfl rfl ?_
          refine WL.next hKI (fun _ _ h => h) (j - 1, _) ⟨by show j - 1 ≤ i; omega, st.back2, (hf.set (A (j - 1))).congr fun k hk => (sh_step A hj0 hji k).symm, hbig'⟩ (by show j - 1 < j; omega) (by repeat (first | exact sub_nil _ | refine sub_cons rfl rfl ?_))
        · skip
          refine WC.seq fun K16 hK16 => ?_
          refine WC.seq fun K17 hK17 => ?_
          -- region 8 (draws)
          refine WC.quietS st ty_mixed (by kernel_rfl) fun Kq hKq => ?_
          -- R8.0 38 := convert.go:83 move
          refine QL.v (fun w st => by first | exact r_move (v := .int _ _) rfl | exact r_move rfl) rfl rfl rfl ?_
          -- R8.1 39 := convert.go:83 binOp
          refine QL.v (fun w st => by first | exact r_gtr rfl rfl (decide_eq_true (by omega)) | exact r_gtr rfl rfl (decide_eq_false (by omega)) | exact r_gtr rfl rfl rfl) rfl rfl rfl ?_
          -- R8.2 40 := convert.go:83 move
          refine QL.v (fun w st => by first | exact r_move (v := .bool _) rfl | exact r_move rfl) rfl rfl rfl ?_
          -- R8.3 41 := convert.go:83 move
          refine QL.v (fun w st => by first | exact r_move (v := .slice _ _ _) rfl | exact r_move rfl) rfl rfl rfl ?_
          -- R8.4 42 := convert.go:83 move
          refine QL.v (fun w st => by first | exact r_move (v := .int _ _) rfl | exact r_move rfl) rfl rfl rfl ?_
          -- R8.5 43 := convert.go:83 binOp
          refine QL.v (fun w st => by first | exact r_sub rfl rfl (wi64 (by omega) (by omega)) | exact r_sub rfl rfl rfl) rfl rfl rfl ?_
          -- R8.6 44 := convert.go:83 indexAddr
          refine QL.v (fun w st => by exact r_indexS (j := j - 1) ty_sl25 rfl rfl (by omega) (by omega)) rfl rfl rfl ?_
          -- R8.7 45 := convert.go:83 fieldAddr
          refine QL.v (fun w st => by exact r_field ty_fld63_1 rfl) rfl rfl rfl ?_
          -- R8.8 46 := convert.go:83 load
          refine QL.v (fun w st => by exact r_load1 ty_one5 rfl ((st.c2 (by omega)).trans (congrArg some hc2))) rfl rfl rfl ?_
          -- R8.9 47 := convert.go:83 fieldAddr
          refine QL.v (fun w st => by exact r_field ty_fld63_1 rfl) rfl rfl rfl ?_
          -- R8.10 48 := convert.go:83 load
          refine QL.v (fun w st => by exact r_load1 ty_one5 rfl (by first | assumption | exact st.c0 (by first | decide | omega) | exact st.c1 (by first | decide | omega) | exact st.c2 (by first | decide | omega) | exact st.c3 (by first | decide | omega) | exact st.c4 (by first | decide | omega) | exact st.c5 (by first | decide | omega) | exact st.c6 (by first | decide | omega) | exact st.c7 (by first | decide | omega) | exact st.c8 (by first | decide | omega))) rfl rfl rfl ?_
          -- R8.11 49 := convert.go:83 binOp
          refine QL.v (fun w st => by first | exact r_lss rfl rfl (decide_eq_true (by omega)) | exact r_lss rfl rfl (decide_eq_false (by omega)) | exact r_lss rfl rfl rfl) rfl rfl rfl ?_
          -- R8.12 50 := convert.go:83 pick
          refine QL.v (fun w st => by first | exact r_pickT (v := .bool _) rfl rfl | exact r_pickF (v := .bool _) rfl rfl) rfl rfl rfl ?_
          refine QL.wl hKq fun w st => ?_
          refine WL.fin hK17 (fun _ _ h => h) ?_
          refine WC.condF rfl rfl ?_
          refine WC.exitF hK12 (fun _ _ h => h) ?_
          -- region 11
          refine WC.region ?_
          -- R11.0 61 := convert.go:87 move
          refine WL.v (by first | exact r_move (v := .slice _ _ _) rfl | exact r_move rfl) rfl rfl rfl ?_
          -- R11.1 62 := convert.go:87 move
          refine WL.v (by first | exact r_move (v := .int _ _) rfl | exact r_move rfl) rfl rfl rfl ?_
          -- R11.2 63 := convert.go:87 load
          refine WL.v (by exact r_loadL (vs := [_, _]) ty_agg63 rfl ⟨(by first | assumption | exact st.c0 (by first | decide | omega) | exact st.c1 (by first | decide | omega) | exact st.c2 (by first | decide | omega) | exact st.c3 (by first | decide | omega) | exact st.c4 (by first | decide | omega) | exact st.c5 (by first | decide | omega) | exact st.c6 (by first | decide | omega) | exact st.c7 (by first | decide | omega) | exact st.c8 (by first | decide | omega)), (by first | assumption | exact st.c0 (by first | decide | omega) | exact st.c1 (by first | decide | omega) | exact st.c2 (by first | decide | omega) | exact st.c3 (by first | decide | omega) | exact st.c4 (by first | decide | omega) | exact st.c5 (by first | decide | omega) | exact st.c6 (by first | decide | omega) | exact st.c7 (by first | decide | omega) | exact st.c8 (by first | decide | omega)), trivial⟩) rfl rfl rfl ?_
          -- R11.3 64 := convert.go:87 indexAddr
          refine WL.v (by exact r_indexS ty_sl25 rfl rfl rfl (by omega)) rfl rfl rfl ?_
          -- R11.4 None := convert.go:87 store
          first | refine WL.storeW (vs := [_, _]) st ty_agg63 rfl rfl rfl rfl rfl rfl ?_ | refine WL.storeL (vs := [_, _]) st ty_agg63 rfl rfl rfl rfl (by first | decide | omega) rfl rfl ?_ | refine WL.storeW (vs := [_, _]) st.front1 ty_agg63 rfl rfl rfl rfl rfl rfl ?_ | refine WL.storeL (vs := [_, _]) st.front1 ty_agg63 rfl rfl rfl rfl (by first | decide | omega) rfl rfl ?_ | refine WL.storeW (vs := [_, _]) st.front2 ty_agg63 rfl rfl rfl rfl rfl rfl ?_ | refine WL.storeL (vs := [_, _]) st.front2 ty_agg63 rfl rfl rfl rfl (by first | decide | omega) rfl rfl ?_ | refine WL.storeW (vs := [_, _]) st.front3 ty_agg63 rfl rfl rfl rfl rfl rfl ?_ | refine WL.storeL (vs := [_, _]) st.front3 ty_agg63 rfl rfl rfl rfl (by first | decide | omega) rfl rfl ?_ | refine WL.storeW (vs := [_, _]) st.front4 ty_agg63 rfl rfl rfl rfl rfl rfl ?_ | refine WL.storeL (vs := [_, _]) st.front4 ty_agg63 rfl rfl rfl rfl (by first | decide | omega) rfl rfl ?_ | refine WL.storeW (vs := [_, _]) st.front5 ty_agg63 rfl rfl rfl rfl rfl rfl ?_ | refine WL.storeL (vs := [_, _]) st.front5 ty_agg63 rfl rfl rfl rfl (by first | decide | omega) rfl rfl ?_ | refine WL.storeW (vs := [_, _]) st.front6 ty_agg63 rfl rfl rfl rfl rfl rfl ?_ | refine WL.storeL (vs := [_, _]) st.front6 ty_agg63 rfl rfl rfl rfl (by first | decide | omega) rfl rfl ?_ | refine WL.storeW (vs := [_, _]) st.front7 ty_agg63 rfl rfl rfl rfl rfl rfl ?_ | refine WL.storeL (vs := [_, _]) st.front7 ty_agg63 rfl rfl rfl rfl (by first | decide | omega) rfl rfl ?_ | refine WL.storeW (vs := [_, _]) st.front8 ty_agg63 rfl rfl rfl rfl rfl rfl ?_ | refine WL.storeL (vs := [_, _]) st.front8 ty_agg63 rfl rfl rfl rfl (by first | decide | omega) rfl rfl ?_
          intro w st
          refine WL.fin hK10 (fun _ _ h => h) ?_
          -- region 6
          refine WC.region ?_
          -- R6.0 31 := convert.go:81 move
          refine WL.v (by first | exact r_move (v := .int _ _) rfl | exact r_move rfl) rfl rfl rfl ?_
          -- R6.1 32 := convert.go:81 binOp
          refine WL.v (by first | exact r_add rfl rfl (wi64 (by omega) (by omega)) | exact r_add rfl rfl rfl) rfl rfl rfl ?_
          -- R6.2 7 := convert.go:81 assign
          refine WL.v (by first | exact r_assign (v := .int _ _) rfl | exact r_assign rfl) rfl rfl rfl ?_
          refine WL.next hKO (fun _ _ h => h) (i + 1, ins A i j, _) ⟨by show 1 ≤ i + 1; omega, by show i + 1 ≤ n; omega, (st.drop1).back1, (hf.set (A i)).congr fun k hk => (ins_of_sh A k).symm, ins_sorted A hsrt hdoc hji (.inr him) hbig, (ins_perm A hji).trans hperm1, hrest1 j hji⟩ (by show n - (i + 1) < n - i; omega) (by repeat (first | exact sub_nil _ | refine sub_cons rfl rfl ?_))
      · skip
        refine WC.seq fun K18 hK18 => ?_
        refine WC.seq fun K19 hK19 => ?_
        -- region 8 (draws)
        refine WC.quietS st ty_mixed (by kernel_rfl) fun Kq hKq => ?_
        -- R8.0 38 := convert.go:83 move
        refine QL.v (fun w st => by first | exact r_move (v := .int _ _) rfl | exact r_move rfl) rfl rfl rfl ?_
        -- R8.1 39 := convert.go:83 binOp
        refine QL.v (fun w st => by first | exact r_gtr rfl rfl (decide_eq_true (by omega)) | exact r_gtr rfl rfl (decide_eq_false (by omega)) | exact r_gtr rfl rfl rfl) rfl rfl rfl ?_
        -- R8.2 40 := convert.go:83 move
        refine QL.v (fun w st => by first | exact r_move (v := .bool _) rfl | exact r_move rfl) rfl rfl rfl ?_
        -- R8.3 41 := convert.go:83 move
        refine QL.no rfl rfl ?_
        -- R8.4 42 := convert.go:83 move
        refine QL.no rfl rfl ?_
        -- R8.5 43 := convert.go:83 binOp
        refine QL.no rfl rfl ?_
        -- R8.6 44 := convert.go:83 indexAddr
        refine QL.no rfl rfl ?_
        -- R8.7 45 := convert.go:83 fieldAddr
        refine QL.no rfl rfl ?_
        -- R8.8 46 := convert.go:83 load
        refine QL.no rfl rfl ?_
        -- R8.9 47 := convert.go:83 fieldAddr
        refine QL.no rfl rfl ?_
        -- R8.10 48 := convert.go:83 load
        refine QL.no rfl rfl ?_
        -- R8.11 49 := convert.go:83 binOp
        refine QL.no rfl rfl ?_
        -- R8.12 50 := convert.go:83 pick
        refine QL.v (fun w st => by first | exact r_pickT (v := .bool _) rfl rfl | exact r_pickF (v := .bool _) rfl rfl) rfl rfl rfl ?_
        refine QL.wl hKq fun w st => ?_
        refine WL.fin hK19 (fun _ _ h => h) ?_
        refine WC.condF rfl rfl ?_
        refine WC.exitF hK12 (fun _ _ h => h) ?_
        -- region 11
        refine WC.region ?_
        -- R11.0 61 := convert.go:87 move
        refine WL.v (by first | exact r_move (v := .slice _ _ _) rfl | exact r_move rfl) rfl rfl rfl ?_
        -- R11.1 62 := convert.go:87 move
        refine WL.v (by first | exact r_move (v := .int _ _) rfl | exact r_move rfl) rfl rfl rfl ?_
        -- R11.2 63 := convert.go:87 load
        refine WL.v (by exact r_loadL (vs := [_, _]) ty_agg63 rfl ⟨(by first | assumption | exact st.c0 (by first | decide | omega) | exact st.c1 (by first | decide | omega) | exact st.c2 (by first | decide | omega) | exact st.c3 (by first | decide | omega) | exact st.c4 (by first | decide | omega) | exact st.c5 (by first | decide | omega) | exact st.c6 (by first | decide | omega) | exact st.c7 (by first | decide | omega) | exact st.c8 (by first | decide | omega)), (by first | assumption | exact st.c0 (by first | decide | omega) | exact st.c1 (by first | decide | omega) | exact st.c2 (by first | decide | omega) | exact st.c3 (by first | decide | omega) | exact st.c4 (by first | decide | omega) | exact st.c5 (by first | decide | omega) | exact st.c6 (by first | decide | omega) | exact st.c7 (by first | decide | omega) | exact st.c8 (by first | decide | omega)), trivial⟩) rfl rfl rfl ?_
        -- R11.3 64 := convert.go:87 indexAddr
        refine WL.v (by exact r_indexS ty_sl25 rfl rfl rfl (by omega)) rfl rfl rfl ?_
        -- R11.4 None := convert.go:87 store
        first | refine WL.storeW (vs := [_, _]) st ty_agg63 rfl rfl rfl rfl rfl rfl ?_ | refine WL.storeL (vs := [_, _]) st ty_agg63 rfl rfl rfl rfl (by first | decide | omega) rfl rfl ?_ | refine WL.storeW (vs := [_, _]) st.front1 ty_agg63 rfl rfl rfl rfl rfl rfl ?_ | refine WL.storeL (vs := [_, _]) st.front1 ty_agg63 rfl rfl rfl rfl (by first | decide | omega) rfl rfl ?_ | refine WL.storeW (vs := [_, _]) st.front2 ty_agg63 rfl rfl rfl rfl rfl rfl ?_ | refine WL.storeL (vs := [_, _]) st.front2 ty_agg63 rfl rfl rfl rfl (by first | decide | omega) rfl rfl ?_ | refine WL.storeW (vs := [_, _]) st.front3 ty_agg63 rfl rfl rfl rfl rfl rfl ?_ | refine WL.storeL (vs := [_, _]) st.front3 ty_agg63 rfl rfl rfl rfl (by first | decide | omega) rfl rfl ?_ | refine WL.storeW (vs := [_, _]) st.front4 ty_agg63 rfl rfl rfl rfl rfl rfl ?_ | refine WL.storeL (vs := [_, _]) st.front4 ty_agg63 rfl rfl rfl rfl (by first | decide | omega) rfl rfl ?_ | refine WL.storeW (vs := [_, _]) st.front5 ty_agg63 rfl rfl rfl rfl rfl rfl ?_ | refine WL.storeL (vs := [_, _]) st.front5 ty_agg63 rfl rfl rfl rfl (by first | decide | omega) rfl rfl ?_ | refine WL.storeW (vs := [_, _]) st.front6 ty_agg63 rfl rfl rfl rfl rfl rfl ?_ | refine WL.storeL (vs := [_, _]) st.front6 ty_agg63 rfl rfl rfl rfl (by first | decide | omega) rfl rfl ?_ | refine WL.storeW (vs := [_, _]) st.front7 ty_agg63 rfl rfl rfl rfl rfl rfl ?_ | refine WL.storeL (vs := [_, _]) st.front7 ty_agg63 rfl rfl rfl rfl (by first | decide | omega) rfl rfl ?_ | refine WL.storeW (vs := [_, _]) st.front8 ty_agg63 rfl rfl rfl rfl rfl rfl ?_ | refine WL.storeL (vs := [_, _]) st.front8 ty_agg63 rfl rfl rfl rfl (by first | decide | omega) rfl rfl ?_
        intro w st
        refine WL.fin hK10 (fun _ _ h => h) ?_
        -- region 6
        refine WC.region ?_
        -- R6.0 31 := convert.go:81 move
        refine WL.v (by first | exact r_move (v := .int _ _) rfl | exact r_move rfl) rfl rfl rfl ?_
        -- R6.1 32 := convert.go:81 binOp
        refine WL.v (by first | exact r_add rfl rfl (wi64 (by omega) (by omega)) | exact r_add rfl rfl rfl) rfl rfl rfl ?_
        -- R6.2 7 := convert.go:81 assign
        refine WL.v (by first | exact r_assign (v := .int _ _) rfl | exact r_assign rfl) rfl rfl rfl ?_
        refine WL.next hKO (fun _ _ h => h) (i + 1, ins A i j, _) ⟨by show 1 ≤ i + 1; omega, by show i + 1 ≤ n; omega, (st.drop1).back1, (hf.set (A i)).congr fun k hk => (ins_of_sh A k).symm, ins_sorted A hsrt hdoc hji (.inl (by omega)) hbig, (ins_perm A hji).trans hperm1, hrest1 j hji⟩ (by show n - (i + 1) < n - i; omega) (by repeat (first | exact sub_nil _ | refine sub_cons rfl rfl ?_))
    · obtain rfl : i = n := by omega
      refine WC.seq fun K20 hK20 => ?_
      refine WC.seq fun K21 hK21 => ?_
      -- region 5
      refine WC.region ?_
      -- R5.0 27 := convert.go:81 move
      refine WL.v (by first | exact r_move (v := .int _ _) rfl | exact r_move rfl) rfl rfl rfl ?_
      -- R5.1 28 := convert.go:81 move
      refine WL.v (by first | exact r_move (v := .slice _ _ _) rfl | exact r_move rfl) rfl rfl rfl ?_
      -- R5.2 29 := convert.go:81 call
      refine WL.v (by exact r_len ty_usl25 rfl) rfl rfl rfl ?_
      -- R5.3 30 := convert.go:81 binOp
      refine WL.v (by first | exact r_lss rfl rfl (decide_eq_true (by omega)) | exact r_lss rfl rfl (decide_eq_false (by omega)) | exact r_lss rfl rfl rfl) rfl rfl rfl ?_
      refine WL.fin hK21 (fun _ _ h => h) ?_
      refine WC.condF rfl rfl ?_
      refine WC.exitF hK6 (fun _ _ h => h) ?_
      refine WC.seq fun K22 hK22 => ?_
      refine WC.seq fun K23 hK23 => ?_
      -- region 12
      refine WC.region ?_
      -- R12.0 10 := convert.go:89 assign
      refine WL.v (by first | exact r_assign (v := .int _ _) rfl | exact r_assign rfl) rfl rfl rfl ?_
      refine WL.fin hK23 (fun _ _ h => h) ?_
      refine WC.block ?_
      refine WC.loop (ι := Nat) (fun m => [(5, .slice (some ⟨fb, 0, none⟩) i cap), (6, .int .i64 ((1 + dc A m : Nat) : Int)), (10, .int .i64 ((m + 1 : Nat) : Int))])
        (fun m w' => m + 1 ≤ i ∧ St w0 M ((cb, Row 27 513 F1) :: (fb, Row 63 (cap * 2) f) :: L) w') (fun m => i - m) 0 ⟨by omega, st⟩ ?_ ?_
      · skip
        repeat (first | exact sub_nil _ | refine sub_cons rfl rfl ?_)
      rintro m w ⟨hm, st⟩ KC hKC
      have hdm := dc_le A m
      by_cases hlt : m + 1 < i
      · have hdc : dc A (m + 1) = dc A m + (if (A (m + 1)).2 = (A m).2 then 0 else 1) := rfl
        by_cases he : (A (m + 1)).2 = (A m).2
        · rw [if_pos he] at hdc
          refine WC.seq fun K24 hK24 => ?_
          refine WC.seq fun K25 hK25 => ?_
          -- region 13
          refine WC.region ?_
          -- R13.0 65 := convert.go:89 move
          refine WL.v (by first | exact r_move (v := .int _ _) rfl | exact r_move rfl) rfl rfl rfl ?_
          -- R13.1 66 := convert.go:89 move
          refine WL.v (by first | exact r_move (v := .slice _ _ _) rfl | exact r_move rfl) rfl rfl rfl ?_
          -- R13.2 67 := convert.go:89 call
          refine WL.v (by exact r_len ty_usl25 rfl) rfl rfl rfl ?_
          -- R13.3 68 := convert.go:89 binOp
          refine WL.v (by first | exact r_lss rfl rfl (decide_eq_true (by omega)) | exact r_lss rfl rfl (decide_eq_false (by omega)) | exact r_lss rfl rfl rfl) rfl rfl rfl ?_
          refine WL.fin hK25 (fun _ _ h => h) ?_
          refine WC.condT rfl rfl ?_
          refine WC.skipF hK24 (fun _ _ h => h) ?_
          refine WC.seq fun K26 hK26 => ?_
          refine WC.block ?_
          refine WC.seq fun K27 hK27 => ?_
          -- region 15 (draws)
          refine WC.quietS st ty_mixed (by kernel_rfl) fun Kq hKq => ?_
          -- R15.0 71 := convert.go:90 move
          refine QL.v (fun w st => by first | exact r_move (v := .slice _ _ _) rfl | exact r_move rfl) rfl rfl rfl ?_
          -- R15.1 72 := convert.go:90 move
          refine QL.v (fun w st => by first | exact r_move (v := .int _ _) rfl | exact r_move rfl) rfl rfl rfl ?_
          -- R15.2 73 := convert.go:90 indexAddr
          refine QL.v (fun w st => by exact r_indexS (j := m + 1) ty_sl25 rfl rfl (by omega) (by omega)) rfl rfl rfl ?_
          -- R15.3 74 := convert.go:90 fieldAddr
          refine QL.v (fun w st => by exact r_field ty_fld63_1 rfl) rfl rfl rfl ?_
          -- R15.4 75 := convert.go:90 load
          refine QL.v (fun w st => by exact r_load1 ty_one5 rfl ((st.c1 (by omega)).trans (congrArg some (hf (m + 1) (by omega)).2))) rfl rfl rfl ?_
          -- R15.5 76 := convert.go:90 move
          refine QL.v (fun w st => by first | exact r_move (v := .slice _ _ _) rfl | exact r_move rfl) rfl rfl rfl ?_
          -- R15.6 77 := convert.go:90 move
          refine QL.v (fun w st => by first | exact r_move (v := .int _ _) rfl | exact r_move rfl) rfl rfl rfl ?_
          -- R15.7 78 := convert.go:90 binOp
          refine QL.v (fun w st => by first | exact r_sub rfl rfl (wi64 (by omega) (by omega)) | exact r_sub rfl rfl rfl) rfl rfl rfl ?_
          -- R15.8 79 := convert.go:90 indexAddr
          refine QL.v (fun w st => by exact r_indexS (j := m) ty_sl25 rfl rfl (by omega) (by omega)) rfl rfl rfl ?_
          -- R15.9 80 := convert.go:90 fieldAddr
          refine QL.v (fun w st => by exact r_field ty_fld63_1 rfl) rfl rfl rfl ?_
          -- R15.10 81 := convert.go:90 load
          refine QL.v (fun w st => by exact r_load1 ty_one5 rfl ((st.c1 (by omega)).trans (congrArg some (hf m (by omega)).2))) rfl rfl rfl ?_
          -- R15.11 82 := convert.go:90 binOp
          refine QL.v (fun w st => by first | exact r_neq rfl rfl (decide_eq_true (by omega)) | exact r_neq rfl rfl (decide_eq_false (by omega)) | exact r_neq rfl rfl rfl) rfl rfl rfl ?_
          refine QL.wl hKq fun w st => ?_
          refine WL.fin hK27 (fun _ _ h => h) ?_
          refine WC.condF rfl rfl ?_
          refine WC.skipF hK26 (fun _ _ h => h) ?_
          -- region 14
          refine WC.region ?_
          -- R14.0 69 := convert.go:89 move
          refine WL.v (by first | exact r_move (v := .int _ _) rfl | exact r_move rfl) rfl rfl rfl ?_
          -- R14.1 70 := convert.go:89 binOp
          refine WL.v (by exact r_add (r := ((m + 1 + 1 : Nat) : Int)) rfl rfl (by rw [wi64 (by omega) (by omega)]; omega)) rfl rfl rfl ?_
          -- R14.2 10 := convert.go:89 assign
          refine WL.v (by first | exact r_assign (v := .int _ _) rfl | exact r_assign rfl) rfl rfl rfl ?_
          rw [show 1 + dc A m = 1 + dc A (m + 1) by omega]
          refine WL.next hKC (fun _ _ h => h) (m + 1) ⟨by omega, st⟩ (by show i - (m + 1) < i - m; omega) (by repeat (first | exact sub_nil _ | refine sub_cons rfl rfl ?_))
        · rw [if_neg he] at hdc
          refine WC.seq fun K28 hK28 => ?_
          refine WC.seq fun K29 hK29 => ?_
          -- region 13
          refine WC.region ?_
          -- R13.0 65 := convert.go:89 move
          refine WL.v (by first | exact r_move (v := .int _ _) rfl | exact r_move rfl) rfl rfl rfl ?_
          -- R13.1 66 := convert.go:89 move
          refine WL.v (by first | exact r_move (v := .slice _ _ _) rfl | exact r_move rfl) rfl rfl rfl ?_
          -- R13.2 67 := convert.go:89 call
          refine WL.v (by exact r_len ty_usl25 rfl) rfl rfl rfl ?_
          -- R13.3 68 := convert.go:89 binOp
          refine WL.v (by first | exact r_lss rfl rfl (decide_eq_true (by omega)) | exact r_lss rfl rfl (decide_eq_false (by omega)) | exact r_lss rfl rfl rfl) rfl rfl rfl ?_
          refine WL.fin hK29 (fun _ _ h => h) ?_
          refine WC.condT rfl rfl ?_
          refine WC.skipF hK28 (fun _ _ h => h) ?_
          refine WC.seq fun K30 hK30 => ?_
          refine WC.block ?_
          refine WC.seq fun K31 hK31 => ?_
          -- region 15 (draws)
          refine WC.quietS st ty_mixed (by kernel_rfl) fun Kq hKq => ?_
          -- R15.0 71 := convert.go:90 move
          refine QL.v (fun w st => by first | exact r_move (v := .slice _ _ _) rfl | exact r_move rfl) rfl rfl rfl ?_
          -- R15.1 72 := convert.go:90 move
          refine QL.v (fun w st => by first | exact r_move (v := .int _ _) rfl | exact r_move rfl) rfl rfl rfl ?_
          -- R15.2 73 := convert.go:90 indexAddr
          refine QL.v (fun w st => by exact r_indexS (j := m + 1) ty_sl25 rfl rfl (by omega) (by omega)) rfl rfl rfl ?_
          -- R15.3 74 := convert.go:90 fieldAddr
          refine QL.v (fun w st => by exact r_field ty_fld63_1 rfl) rfl rfl rfl ?_
          -- R15.4 75 := convert.go:90 load
          refine QL.v (fun w st => by exact r_load1 ty_one5 rfl ((st.c1 (by omega)).trans (congrArg some (hf (m + 1) (by omega)).2))) rfl rfl rfl ?_
          -- R15.5 76 := convert.go:90 move
          refine QL.v (fun w st => by first | exact r_move (v := .slice _ _ _) rfl | exact r_move rfl) rfl rfl rfl ?_
          -- R15.6 77 := convert.go:90 move
          refine QL.v (fun w st => by first | exact r_move (v := .int _ _) rfl | exact r_move rfl) rfl rfl rfl ?_
          -- R15.7 78 := convert.go:90 binOp
          refine QL.v (fun w st => by first | exact r_sub rfl rfl (wi64 (by omega) (by omega)) | exact r_sub rfl rfl rfl) rfl rfl rfl ?_
          -- R15.8 79 := convert.go:90 indexAddr
          refine QL.v (fun w st => by exact r_indexS (j := m) ty_sl25 rfl rfl (by omega) (by omega)) rfl rfl rfl ?_
          -- R15.9 80 := convert.go:90 fieldAddr
          refine QL.v (fun w st => by exact r_field ty_fld63_1 rfl) rfl rfl rfl ?_
          -- R15.10 81 := convert.go:90 load
          refine QL.v (fun w st => by exact r_load1 ty_one5 rfl ((st.c1 (by omega)).trans (congrArg some (hf m (by omega)).2))) rfl rfl rfl ?_
          -- R15.11 82 := convert.go:90 binOp
          refine QL.v (fun w st => by first | exact r_neq rfl rfl (decide_eq_true (by omega)) | exact r_neq rfl rfl (decide_eq_false (by omega)) | exact r_neq rfl rfl rfl) rfl rfl rfl ?_
          refine QL.wl hKq fun w st => ?_
          refine WL.fin hK31 (fun _ _ h => h) ?_
          refine WC.condT rfl rfl ?_
          -- region 16
          refine WC.region ?_
          -- R16.0 83 := convert.go:91 move
          refine WL.v (by first | exact r_move (v := .int _ _) rfl | exact r_move rfl) rfl rfl rfl ?_
          -- R16.1 84 := convert.go:91 binOp
          refine WL.v (by exact r_add (r := ((1 + dc A (m + 1) : Nat) : Int)) rfl rfl (by rw [wi64 (by omega) (by omega)]; omega)) rfl rfl rfl ?_
          -- R16.2 6 := convert.go:91 assign
          refine WL.v (by first | exact r_assign (v := .int _ _) rfl | exact r_assign rfl) rfl rfl rfl ?_
          refine WL.fin hK30 (fun _ _ h => h) ?_
          -- region 14
          refine WC.region ?_
          -- R14.0 69 := convert.go:89 move
          refine WL.v (by first | exact r_move (v := .int _ _) rfl | exact r_move rfl) rfl rfl rfl ?_
          -- R14.1 70 := convert.go:89 binOp
          refine WL.v (by exact r_add (r := ((m + 1 + 1 : Nat) : Int)) rfl rfl (by rw [wi64 (by omega) (by omega)]; omega)) rfl rfl rfl ?_
          -- R14.2 10 := convert.go:89 assign
          refine WL.v (by first | exact r_assign (v := .int _ _) rfl | exact r_assign rfl) rfl rfl rfl ?_
          refine WL.next hKC (fun _ _ h => h) (m + 1) ⟨by omega, st⟩ (by show i - (m + 1) < i - m; omega) (by repeat (first | exact sub_nil _ | refine sub_cons rfl rfl ?_))
      · obtain rfl : i = m + 1 := by omega
        refine WC.seq fun K32 hK32 => ?_
        refine WC.seq fun K33 hK33 => ?_
        -- region 13
        refine WC.region ?_
        -- R13.0 65 := convert.go:89 move
        refine WL.v (by first | exact r_move (v := .int _ _) rfl | exact r_move rfl) rfl rfl rfl ?_
        -- R13.1 66 := convert.go:89 move
        refine WL.v (by first | exact r_move (v := .slice _ _ _) rfl | exact r_move rfl) rfl rfl rfl ?_
        -- R13.2 67 := convert.go:89 call
        refine WL.v (by exact r_len ty_usl25 rfl) rfl rfl rfl ?_
        -- R13.3 68 := convert.go:89 binOp
        refine WL.v (by first | exact r_lss rfl rfl (decide_eq_true (by omega)) | exact r_lss rfl rfl (decide_eq_false (by omega)) | exact r_lss rfl rfl rfl) rfl rfl rfl ?_
        refine WL.fin hK33 (fun _ _ h => h) ?_
        refine WC.condF rfl rfl ?_
        refine WC.exitF hK22 (fun _ _ h => h) ?_
        refine WC.seq fun K34 hK34 => ?_
        -- region 17
        refine WC.region ?_
        -- R17.0 85 := convert.go:94 move
        refine WL.v (by first | exact r_move (v := .int _ _) rfl | exact r_move rfl) rfl rfl rfl ?_
        -- R17.1 86 := convert.go:94 makeSlice
        refine WL.make (len := 0) st ty_mk37 ty_zero60 rfl rfl (by first | rfl | omega) (by first | rfl | omega) (by omega) (by omega) (by omega) rfl rfl rfl rfl ?_
        intro b86 w st
        -- R17.2 11 := convert.go:94 assign
        refine WL.v (by first | exact r_assign (v := .slice _ _ _) rfl | exact r_assign rfl) rfl rfl rfl ?_
        refine WL.fin hK34 (fun _ _ h => h) ?_
        refine WC.seq fun K35 hK35 => ?_
        -- region 18
        refine WC.region ?_
        -- R18.0 87 := convert.go:95 move
        refine WL.v (by first | exact r_move (v := .slice _ _ _) rfl | exact r_move rfl) rfl rfl rfl ?_
        -- R18.1 88 := convert.go:95 call
        refine WL.v (by exact r_len ty_usl25 rfl) rfl rfl rfl ?_
        -- R18.2 89 := convert.go:95 makeSlice
        refine WL.make st ty_mk58 ty_zero50 rfl rfl (by first | rfl | omega) (by first | rfl | omega) (by omega) (by omega) (by omega) rfl rfl rfl rfl ?_
        intro b89 w st
        -- R18.3 12 := convert.go:95 assign
        refine WL.v (by first | exact r_assign (v := .slice _ _ _) rfl | exact r_assign rfl) rfl rfl rfl ?_
        refine WL.fin hK35 (fun _ _ h => h) ?_
        refine WC.seq fun K36 hK36 => ?_
        -- region 19
        refine WC.region ?_
        -- R19.0 13 := convert.go:96 assign
        refine WL.v (by first | exact r_assign (v := .int _ _) rfl | exact r_assign rfl) rfl rfl rfl ?_
        refine WL.fin hK36 (fun _ _ h => h) ?_
        refine WC.seq fun K37 hK37 => ?_
        refine WC.seq fun K38 hK38 => ?_
        -- region 20
        refine WC.region ?_
        -- R20.0 90 := convert.go:97 move
        refine WL.v (by first | exact r_move (v := .slice _ _ _) rfl | exact r_move rfl) rfl rfl rfl ?_
        -- R20.1 91 := convert.go:97 call
        refine WL.v (by exact r_len ty_usl25 rfl) rfl rfl rfl ?_
        -- R20.2 92 := convert.go:97 move
        refine WL.v (by first | exact r_move (v := .int _ _) rfl | exact r_move rfl) rfl rfl rfl ?_
        refine WL.fin hK38 (fun _ _ h => h) ?_
        refine WC.block ?_
        refine WC.loop (ι := Nat × Nat × Nat × (Nat → Nat) × (Nat → Value) × (Nat → Value)) (fun z => [(5, .slice (some ⟨fb, 0, none⟩) (m + 1) cap), (11, .slice (some ⟨b86, 0, none⟩) z.2.1 (1 + dc A m)), (12, .slice (some ⟨b89, 0, none⟩) (m + 1) (m + 1)),
            (13, .int .i64 (z.2.2.1 : Nat)), (90, .slice (some ⟨fb, 0, none⟩) (m + 1) cap), (91, .int .i64 ((m + 1 : Nat) : Int)), (92, .int .i64 z.1)])
          (fun z w' => St w0 M ((b89, Row 50 ((m + 1) * 1) z.2.2.2.2.2) :: (b86, Row 60 ((1 + dc A m) * 2) z.2.2.2.2.1) :: (cb, Row 27 513 F1) :: (fb, Row 63 (cap * 2) f) :: L) w' ∧
            z.1 ≤ m + 1 ∧ Runs A (m + 1) z.1 z.2.1 z.2.2.2.1 ∧ (z.1 = m + 1 → z.2.2.2.1 z.2.1 = m + 1) ∧ GR z.2.2.2.2.1 b89 z.2.1 z.2.2.2.1 A ∧ (∀ k, k < z.1 → z.2.2.2.2.2 (0 + k * 1) = .int .u32 (A k).1) ∧ z.2.1 ≤ 1 + dc A m ∧ z.2.2.1 = z.2.2.2.1 z.2.1)
          (fun z => m + 1 - z.1) (0, 0, 0, (fun _ => 0), _, _) ⟨st, Nat.zero_le _, Runs.start A (m + 1), fun h => by simp only at h; omega, fun t ht => by simp only at ht; omega, fun k hk => by simp only at hk; omega, Nat.zero_le _, rfl⟩ ?_ ?_
        · skip
          repeat (first | exact sub_nil _ | refine sub_cons rfl rfl ?_)
        rintro ⟨i, q, e, S, g, fd⟩ w ⟨st, hi, hruns, hend, hg, hfd, hq, he'⟩ KD hKD
        simp only at hi hruns hend hg hfd hq st hKD he' ⊢
        subst he'
        have hSle := hruns.le
        by_cases hlt : i < m + 1
        · have hroom := hruns.room hlt
          rw [show m + 1 - 1 = m by omega] at hroom
          have hcur : (A i).2 = (A (S q)).2 := by
            by_cases hs' : S q < i
            · have := (hruns.cur (i - 1) (by omega) (by omega)).2 (by omega)
              rwa [show i - 1 + 1 = i by omega] at this
            · have : S q = i := by omega
              rw [this]
          have hput : upd fd (0 + i * 1) (.int .u32 (A i).1) (0 + i * 1) = .int .u32 (A i).1 := by simp [upd_eq]
          have hfd' := DR.set (n := m + 1) hfd
          have hSq : S q < i + 1 := by omega
          by_cases hlast : i + 1 = m + 1
          · skip
            refine WC.seq fun K39 hK39 => ?_
            -- region 21
            refine WC.region ?_
            -- R21.0 93 := convert.go:97 binOp
            refine WL.v (by first | exact r_lss rfl rfl (decide_eq_true (by omega)) | exact r_lss rfl rfl (decide_eq_false (by omega)) | exact r_lss rfl rfl rfl) rfl rfl rfl ?_
            refine WL.fin hK39 (fun _ _ h => h) ?_
            refine WC.seq fun K40 hK40 => ?_
            refine WC.condT rfl rfl ?_
            refine WC.skipF hK40 (fun _ _ h => h) ?_
            refine WC.seq fun K41 hK41 => ?_
            refine WC.block ?_
            refine WC.seq fun K42 hK42 => ?_
            -- region 22
            refine WC.region ?_
            -- R22.0 94 := convert.go:97 move
            refine WL.v (by first | exact r_move (v := .int _ _) rfl | exact r_move rfl) rfl rfl rfl ?_
            -- R22.1 95 := convert.go:97 indexAddr
            refine WL.v (by exact r_indexS ty_sl25 rfl rfl rfl (by omega)) rfl rfl rfl ?_
            -- R22.2 96 := convert.go:97 load
            refine WL.v (by exact r_loadL (vs := [_, _]) ty_agg63 rfl ⟨((st.c3 (by omega)).trans (congrArg some (hf i (by omega)).1)), ((st.c3 (by omega)).trans (congrArg some (hf i (by omega)).2)), trivial⟩) rfl rfl rfl ?_
            -- R22.3 15 := convert.go:97 alloc
            refine WL.alloc st ty_zero63 rfl rfl rfl ?_
            intro b15 w st
            -- R22.4 14 := convert.go:97 assign
            refine WL.v (by first | exact r_assign (v := .int _ _) rfl | exact r_assign rfl) rfl rfl rfl ?_
            -- R22.5 None := convert.go:97 store
            first | refine WL.storeW (vs := [_, _]) st ty_agg63 rfl rfl rfl rfl rfl rfl ?_ | refine WL.storeL (vs := [_, _]) st ty_agg63 rfl rfl rfl rfl (by first | decide | omega) rfl rfl ?_ | refine WL.storeW (vs := [_, _]) st.front1 ty_agg63 rfl rfl rfl rfl rfl rfl ?_ | refine WL.storeL (vs := [_, _]) st.front1 ty_agg63 rfl rfl rfl rfl (by first | decide | omega) rfl rfl ?_ | refine WL.storeW (vs := [_, _]) st.front2 ty_agg63 rfl rfl rfl rfl rfl rfl ?_ | refine WL.storeL (vs := [_, _]) st.front2 ty_agg63 rfl rfl rfl rfl (by first | decide | omega) rfl rfl ?_ | refine WL.storeW (vs := [_, _]) st.front3 ty_agg63 rfl rfl rfl rfl rfl rfl ?_ | refine WL.storeL (vs := [_, _]) st.front3 ty_agg63 rfl rfl rfl rfl (by first | decide | omega) rfl rfl ?_ | refine WL.storeW (vs := [_, _]) st.front4 ty_agg63 rfl rfl rfl rfl rfl rfl ?_ | refine WL.storeL (vs := [_, _]) st.front4 ty_agg63 rfl rfl rfl rfl (by first | decide | omega) rfl rfl ?_ | refine WL.storeW (vs := [_, _]) st.front5 ty_agg63 rfl rfl rfl rfl rfl rfl ?_ | refine WL.storeL (vs := [_, _]) st.front5 ty_agg63 rfl rfl rfl rfl (by first | decide | omega) rfl rfl ?_ | refine WL.storeW (vs := [_, _]) st.front6 ty_agg63 rfl rfl rfl rfl rfl rfl ?_ | refine WL.storeL (vs := [_, _]) st.front6 ty_agg63 rfl rfl rfl rfl (by first | decide | omega) rfl rfl ?_ | refine WL.storeW (vs := [_, _]) st.front7 ty_agg63 rfl rfl rfl rfl rfl rfl ?_ | refine WL.storeL (vs := [_, _]) st.front7 ty_agg63 rfl rfl rfl rfl (by first | decide | omega) rfl rfl ?_ | refine WL.storeW (vs := [_, _]) st.front8 ty_agg63 rfl rfl rfl rfl rfl rfl ?_ | refine WL.storeL (vs := [_, _]) st.front8 ty_agg63 rfl rfl rfl rfl (by first | decide | omega) rfl rfl ?_
            intro w st
            refine WL.fin hK42 (fun _ _ h => h) ?_
            refine WC.seq fun K43 hK43 => ?_
            -- region 23
            refine WC.region ?_
            -- R23.0 97 := convert.go:98 move
            refine WL.v (by first | exact r_move (v := .slice _ _ _) rfl | exact r_move rfl) rfl rfl rfl ?_
            -- R23.1 98 := convert.go:98 move
            refine WL.v (by first | exact r_move (v := .int _ _) rfl | exact r_move rfl) rfl rfl rfl ?_
            -- R23.2 99 := convert.go:98 fieldAddr
            refine WL.v (by exact r_field ty_fld63_0 rfl) rfl rfl rfl ?_
            -- R23.3 100 := convert.go:98 load
            refine WL.v (by exact r_load1 ty_one50 rfl (by first | assumption | exact st.c0 (by first | decide | omega) | exact st.c1 (by first | decide | omega) | exact st.c2 (by first | decide | omega) | exact st.c3 (by first | decide | omega) | exact st.c4 (by first | decide | omega) | exact st.c5 (by first | decide | omega) | exact st.c6 (by first | decide | omega) | exact st.c7 (by first | decide | omega) | exact st.c8 (by first | decide | omega))) rfl rfl rfl ?_
            -- R23.4 101 := convert.go:98 indexAddr
            refine WL.v (by exact r_indexS ty_sl58 rfl rfl rfl (by omega)) rfl rfl rfl ?_
            -- R23.5 None := convert.go:98 store
            first | refine WL.store (v := .int _ _) st ty_one50 rfl rfl rfl (by first | decide | omega) rfl rfl ?_ | refine WL.store (v := _) st ty_one50 rfl rfl rfl (by first | decide | omega) rfl rfl ?_ | refine WL.store (v := .int _ _) st.front1 ty_one50 rfl rfl rfl (by first | decide | omega) rfl rfl ?_ | refine WL.store (v := _) st.front1 ty_one50 rfl rfl rfl (by first | decide | omega) rfl rfl ?_ | refine WL.store (v := .int _ _) st.front2 ty_one50 rfl rfl rfl (by first | decide | omega) rfl rfl ?_ | refine WL.store (v := _) st.front2 ty_one50 rfl rfl rfl (by first | decide | omega) rfl rfl ?_ | refine WL.store (v := .int _ _) st.front3 ty_one50 rfl rfl rfl (by first | decide | omega) rfl rfl ?_ | refine WL.store (v := _) st.front3 ty_one50 rfl rfl rfl (by first | decide | omega) rfl rfl ?_ | refine WL.store (v := .int _ _) st.front4 ty_one50 rfl rfl rfl (by first | decide | omega) rfl rfl ?_ | refine WL.store (v := _) st.front4 ty_one50 rfl rfl rfl (by first | decide | omega) rfl rfl ?_ | refine WL.store (v := .int _ _) st.front5 ty_one50 rfl rfl rfl (by first | decide | omega) rfl rfl ?_ | refine WL.store (v := _) st.front5 ty_one50 rfl rfl rfl (by first | decide | omega) rfl rfl ?_ | refine WL.store (v := .int _ _) st.front6 ty_one50 rfl rfl rfl (by first | decide | omega) rfl rfl ?_ | refine WL.store (v := _) st.front6 ty_one50 rfl rfl rfl (by first | decide | omega) rfl rfl ?_ | refine WL.store (v := .int _ _) st.front7 ty_one50 rfl rfl rfl (by first | decide | omega) rfl rfl ?_ | refine WL.store (v := _) st.front7 ty_one50 rfl rfl rfl (by first | decide | omega) rfl rfl ?_ | refine WL.store (v := .int _ _) st.front8 ty_one50 rfl rfl rfl (by first | decide | omega) rfl rfl ?_ | refine WL.store (v := _) st.front8 ty_one50 rfl rfl rfl (by first | decide | omega) rfl rfl ?_
            intro w st
            refine WL.fin hK43 (fun _ _ h => h) ?_
            refine WC.seq fun K44 hK44 => ?_
            -- region 24 (draws)
            refine WC.quietS st ty_mixed (by kernel_rfl) fun Kq hKq => ?_
            -- R24.0 102 := convert.go:99 move
            refine QL.v (fun w st => by first | exact r_move (v := .int _ _) rfl | exact r_move rfl) rfl rfl rfl ?_
            -- R24.1 103 := convert.go:99 binOp
            refine QL.v (fun w st => by exact r_add (r := ((i + 1 : Nat) : Int)) rfl rfl (by rw [wi64 (by omega) (by omega)]; omega)) rfl rfl rfl ?_
            -- R24.2 104 := convert.go:99 move
            refine QL.v (fun w st => by first | exact r_move (v := .slice _ _ _) rfl | exact r_move rfl) rfl rfl rfl ?_
            -- R24.3 105 := convert.go:99 call
            refine QL.v (fun w st => by exact r_len ty_usl25 rfl) rfl rfl rfl ?_
            -- R24.4 106 := convert.go:99 binOp
            refine QL.v (fun w st => by first | exact r_eql rfl rfl (decide_eq_true (by omega)) | exact r_eql rfl rfl (decide_eq_false (by omega)) | exact r_eql rfl rfl rfl) rfl rfl rfl ?_
            -- R24.5 107 := convert.go:99 move
            refine QL.v (fun w st => by first | exact r_move (v := .bool _) rfl | exact r_move rfl) rfl rfl rfl ?_
            -- R24.6 108 := convert.go:99 move
            refine QL.no rfl rfl ?_
            -- R24.7 109 := convert.go:99 move
            refine QL.no rfl rfl ?_
            -- R24.8 110 := convert.go:99 binOp
            refine QL.no rfl rfl ?_
            -- R24.9 111 := convert.go:99 indexAddr
            refine QL.no rfl rfl ?_
            -- R24.10 112 := convert.go:99 fieldAddr
            refine QL.no rfl rfl ?_
            -- R24.11 113 := convert.go:99 load
            refine QL.no rfl rfl ?_
            -- R24.12 114 := convert.go:99 fieldAddr
            refine QL.no rfl rfl ?_
            -- R24.13 115 := convert.go:99 load
            refine QL.no rfl rfl ?_
            -- R24.14 116 := convert.go:99 binOp
            refine QL.no rfl rfl ?_
            -- R24.15 117 := convert.go:99 pick
            refine QL.v (fun w st => by first | exact r_pickT (v := .bool _) rfl rfl | exact r_pickF (v := .bool _) rfl rfl) rfl rfl rfl ?_
            refine QL.wl hKq fun w st => ?_
            refine WL.fin hK44 (fun _ _ h => h) ?_
            refine WC.condT rfl rfl ?_
            refine WC.seq fun K45 hK45 => ?_
            -- region 25 (draws)
            refine WC.heldS2 [11, 12, 13] [1, 2] [0, 3, 4, 5, 6, 7, 8, 9, 10] [11, 12, 13] st (st.drop2) ty_mixed (by kernel_rfl) fun w st Kq Kq2 hKq hKq2 => ?_
            -- R25.1 119 := convert.go:100 fieldAddr
            refine HL.v (fun w st => by exact r_field ty_fld63_1 rfl) rfl rfl rfl ?_
            -- R25.2 120 := convert.go:100 load
            refine HL.v (fun w st => by exact r_load1 ty_one5 rfl (by first | assumption | exact st.c0 (by first | decide | omega) | exact st.c1 (by first | decide | omega) | exact st.c2 (by first | decide | omega) | exact st.c3 (by first | decide | omega) | exact st.c4 (by first | decide | omega) | exact st.c5 (by first | decide | omega) | exact st.c6 (by first | decide | omega) | exact st.c7 (by first | decide | omega) | exact st.c8 (by first | decide | omega))) rfl rfl rfl ?_
            refine HL.pure hKq ?_
            -- R25.0 118 := convert.go:100 move
            refine HL.v (fun w _ => by first | exact r_move (v := .slice _ _ _) rfl | exact r_move rfl) rfl rfl rfl ?_
            -- R25.3 121 := convert.go:100 move
            refine HL.v (fun w _ => by first | exact r_move (v := .slice _ _ _) rfl | exact r_move rfl) rfl rfl rfl ?_
            -- R25.4 122 := convert.go:100 move
            refine HL.v (fun w _ => by first | exact r_move (v := .int _ _) rfl | exact r_move rfl) rfl rfl rfl ?_
            -- R25.5 123 := convert.go:100 move
            refine HL.v (fun w _ => by first | exact r_move (v := .int _ _) rfl | exact r_move rfl) rfl rfl rfl ?_
            -- R25.6 124 := convert.go:100 binOp
            refine HL.v (fun w _ => by exact r_add (r := ((i + 1 : Nat) : Int)) rfl rfl (by rw [wi64 (by omega) (by omega)]; omega)) rfl rfl rfl ?_
            -- R25.7 125 := convert.go:100 move
            refine HL.v (fun w _ => by first | exact r_move (v := .int _ _) rfl | exact r_move rfl) rfl rfl rfl ?_
            -- R25.8 126 := convert.go:100 binOp
            refine HL.v (fun w _ => by exact r_add (r := ((i + 1 : Nat) : Int)) rfl rfl (by rw [wi64 (by omega) (by omega)]; omega)) rfl rfl rfl ?_
            -- R25.9 127 := convert.go:100 slice
            refine HL.v (fun w _ => by exact r_slice_lohimx (jl := S q) (jh := i + 1) (jm := i + 1) ty_sl58 rfl rfl rfl rfl rfl rfl rfl (by omega) (by omega) (by omega) (by omega)) rfl rfl rfl ?_
            -- R25.10 128 := convert.go:100 build
            refine HL.v (fun w _ => by first | exact r_build (vs := [.int _ _, .slice _ _ _]) ty_pl60 ty_zero60 rfl rfl | exact r_build (vs := [_, _]) ty_pl60 ty_zero60 rfl rfl | exact r_build ty_pl60 ty_zero60 rfl rfl) rfl rfl rfl ?_
            refine HL.fin hKq2 ?_
            refine TL.at ?_
            -- R25.11 129 := convert.go:100 buildSlice
            first | refine WL.mkslice (m := 2) (vs := [.int _ _, .slice _ _ _]) st ty_sl37 ty_zero60 rfl rfl rfl rfl rfl rfl ?_ | refine WL.mkslice (m := 2) (vs := [_, _]) st ty_sl37 ty_zero60 rfl rfl rfl rfl rfl rfl ?_ | refine WL.mkslice st ty_sl37 ty_zero60 rfl rfl rfl rfl rfl rfl ?_
            intro b129 w st
            refine TL.nxt' rfl ?_
            refine TL.at ?_
            -- R25.12 130 := convert.go:100 call
            refine WL.appendR (m := 1) st.front3 ty_sl37 rfl rfl (by omega) (by omega) (fun j hj => st.c0 (by omega)) (fun j hj => ?_) rfl rfl rfl ?_
            · match j, hj with
              | 0, _ => rfl
              | 1, _ => rfl
            intro w st
            refine TL.nxt' rfl ?_
            refine TL.at ?_
            -- R25.13 11 := convert.go:100 assign
            refine WL.v (by first | exact r_assign (v := .slice _ _ _) rfl | exact r_assign rfl) rfl rfl rfl ?_
            refine TL.nxt' rfl ?_
            refine TL.wl ?_
            refine WL.fin hK45 (fun _ _ h => h) ?_
            -- region 26
            refine WC.region ?_
            -- R26.0 131 := convert.go:101 move
            refine WL.v (by first | exact r_move (v := .int _ _) rfl | exact r_move rfl) rfl rfl rfl ?_
            -- R26.1 132 := convert.go:101 binOp
            refine WL.v (by exact r_add (r := ((i + 1 : Nat) : Int)) rfl rfl (by rw [wi64 (by omega) (by omega)]; omega)) rfl rfl rfl ?_
            -- R26.2 13 := convert.go:101 assign
            refine WL.v (by first | exact r_assign (v := .int _ _) rfl | exact r_assign rfl) rfl rfl rfl ?_
            refine WL.fin hK41 (fun _ _ h => h) ?_
            -- region 27
            refine WC.region ?_
            -- R27.0 133 := convert.go:97 binOp
            refine WL.v (by exact r_add (r := ((i + 1 : Nat) : Int)) rfl rfl (by rw [wi64 (by omega) (by omega)]; omega)) rfl rfl rfl ?_
            -- R27.1 92 := convert.go:97 move
            refine WL.v (by first | exact r_move (v := .int _ _) rfl | exact r_move rfl) rfl rfl rfl ?_
            refine WL.next hKD (fun _ _ h => h) (i + 1, q + 1, i + 1, (fun t => if t ≤ q then S t else i + 1), _, _) ⟨st.drop1.drop2.front1, by show i + 1 ≤ m + 1; omega, hruns.closes hsrt hlt (.inl hlast), fun _ => by show (if q + 1 ≤ q then S (q + 1) else i + 1) = m + 1; rw [if_neg (by omega)]; exact hlast, hg.closes (news := fun j => nth [.int .u8 (A i).2, .slice (some ⟨b89, 0 + S q * 1, none⟩) (i + 1 - S q) (i + 1 - S q)] (0 + j)) hcur rfl rfl, hfd', by show q + 1 ≤ 1 + dc A m; omega, by show i + 1 = if q + 1 ≤ q then S (q + 1) else i + 1; rw [if_neg (by omega)]⟩ (by show m + 1 - (i + 1) < m + 1 - i; omega) (by repeat (first | exact sub_nil _ | refine sub_cons rfl rfl ?_))
          · skip
            by_cases he : (A (i + 1)).2 = (A i).2
            · skip
              refine WC.seq fun K46 hK46 => ?_
              -- region 21
              refine WC.region ?_
              -- R21.0 93 := convert.go:97 binOp
              refine WL.v (by first | exact r_lss rfl rfl (decide_eq_true (by omega)) | exact r_lss rfl rfl (decide_eq_false (by omega)) | exact r_lss rfl rfl rfl) rfl rfl rfl ?_
              refine WL.fin hK46 (fun _ _ h => h) ?_
              refine WC.seq fun K47 hK47 => ?_
              refine WC.condT rfl rfl ?_
              refine WC.skipF hK47 (fun _ _ h => h) ?_
              refine WC.seq fun K48 hK48 => ?_
              refine WC.block ?_
              refine WC.seq fun K49 hK49 => ?_
              -- region 22
              refine WC.region ?_
              -- R22.0 94 := convert.go:97 move
              refine WL.v (by first | exact r_move (v := .int _ _) rfl | exact r_move rfl) rfl rfl rfl ?_
              -- R22.1 95 := convert.go:97 indexAddr
              refine WL.v (by exact r_indexS ty_sl25 rfl rfl rfl (by omega)) rfl rfl rfl ?_
              -- R22.2 96 := convert.go:97 load
              refine WL.v (by exact r_loadL (vs := [_, _]) ty_agg63 rfl ⟨((st.c3 (by omega)).trans (congrArg some (hf i (by omega)).1)), ((st.c3 (by omega)).trans (congrArg some (hf i (by omega)).2)), trivial⟩) rfl rfl rfl ?_
              -- R22.3 15 := convert.go:97 alloc
              refine WL.alloc st ty_zero63 rfl rfl rfl ?_
              intro b15 w st
              -- R22.4 14 := convert.go:97 assign
              refine WL.v (by first | exact r_assign (v := .int _ _) rfl | exact r_assign rfl) rfl rfl rfl ?_
              -- R22.5 None := convert.go:97 store
              first | refine WL.storeW (vs := [_, _]) st ty_agg63 rfl rfl rfl rfl rfl rfl ?_ | refine WL.storeL (vs := [_, _]) st ty_agg63 rfl rfl rfl rfl (by first | decide | omega) rfl rfl ?_ | refine WL.storeW (vs := [_, _]) st.front1 ty_agg63 rfl rfl rfl rfl rfl rfl ?_ | refine WL.storeL (vs := [_, _]) st.front1 ty_agg63 rfl rfl rfl rfl (by first | decide | omega) rfl rfl ?_ | refine WL.storeW (vs := [_, _]) st.front2 ty_agg63 rfl rfl rfl rfl rfl rfl ?_ | refine WL.storeL (vs := [_, _]) st.front2 ty_agg63 rfl rfl rfl rfl (by first | decide | omega) rfl rfl ?_ | refine WL.storeW (vs := [_, _]) st.front3 ty_agg63 rfl rfl rfl rfl rfl rfl ?_ | refine WL.storeL (vs := [_, _]) st.front3 ty_agg63 rfl rfl rfl rfl (by first | decide | omega) rfl rfl ?_ | refine WL.storeW (vs := [_, _]) st.front4 ty_agg63 rfl rfl rfl rfl rfl rfl ?_ | refine WL.storeL (vs := [_, _]) st.front4 ty_agg63 rfl rfl rfl rfl (by first | decide | omega) rfl rfl ?_ | refine WL.storeW (vs := [_, _]) st.front5 ty_agg63 rfl rfl rfl rfl rfl rfl ?_ | refine WL.storeL (vs := [_, _]) st.front5 ty_agg63 rfl rfl rfl rfl (by first | decide | omega) rfl rfl ?_ | refine WL.storeW (vs := [_, _]) st.front6 ty_agg63 rfl rfl rfl rfl rfl rfl ?_ | refine WL.storeL (vs := [_, _]) st.front6 ty_agg63 rfl rfl rfl rfl (by first | decide | omega) rfl rfl ?_ | refine WL.storeW (vs := [_, _]) st.front7 ty_agg63 rfl rfl rfl rfl rfl rfl ?_ | refine WL.storeL (vs := [_, _]) st.front7 ty_agg63 rfl rfl rfl rfl (by first | decide | omega) rfl rfl ?_ | refine WL.storeW (vs := [_, _]) st.front8 ty_agg63 rfl rfl rfl rfl rfl rfl ?_ | refine WL.storeL (vs := [_, _]) st.front8 ty_agg63 rfl rfl rfl rfl (by first | decide | omega) rfl rfl ?_
              intro w st
              refine WL.fin hK49 (fun _ _ h => h) ?_
              refine WC.seq fun K50 hK50 => ?_
              -- region 23
              refine WC.region ?_
              -- R23.0 97 := convert.go:98 move
              refine WL.v (by first | exact r_move (v := .slice _ _ _) rfl | exact r_move rfl) rfl rfl rfl ?_
              -- R23.1 98 := convert.go:98 move
              refine WL.v (by first | exact r_move (v := .int _ _) rfl | exact r_move rfl) rfl rfl rfl ?_
              -- R23.2 99 := convert.go:98 fieldAddr
              refine WL.v (by exact r_field ty_fld63_0 rfl) rfl rfl rfl ?_
              -- R23.3 100 := convert.go:98 load
              refine WL.v (by exact r_load1 ty_one50 rfl (by first | assumption | exact st.c0 (by first | decide | omega) | exact st.c1 (by first | decide | omega) | exact st.c2 (by first | decide | omega) | exact st.c3 (by first | decide | omega) | exact st.c4 (by first | decide | omega) | exact st.c5 (by first | decide | omega) | exact st.c6 (by first | decide | omega) | exact st.c7 (by first | decide | omega) | exact st.c8 (by first | decide | omega))) rfl rfl rfl ?_
              -- R23.4 101 := convert.go:98 indexAddr
              refine WL.v (by exact r_indexS ty_sl58 rfl rfl rfl (by omega)) rfl rfl rfl ?_
              -- R23.5 None := convert.go:98 store
              first | refine WL.store (v := .int _ _) st ty_one50 rfl rfl rfl (by first | decide | omega) rfl rfl ?_ | refine WL.store (v := _) st ty_one50 rfl rfl rfl (by first | decide | omega) rfl rfl ?_ | refine WL.store (v := .int _ _) st.front1 ty_one50 rfl rfl rfl (by first | decide | omega) rfl rfl ?_ | refine WL.store (v := _) st.front1 ty_one50 rfl rfl rfl (by first | decide | omega) rfl rfl ?_ | refine WL.store (v := .int _ _) st.front2 ty_one50 rfl rfl rfl (by first | decide | omega) rfl rfl ?_ | refine WL.store (v := _) st.front2 ty_one50 rfl rfl rfl (by first | decide | omega) rfl rfl ?_ | refine WL.store (v := .int _ _) st.front3 ty_one50 rfl rfl rfl (by first | decide | omega) rfl rfl ?_ | refine WL.store (v := _) st.front3 ty_one50 rfl rfl rfl (by first | decide | omega) rfl rfl ?_ | refine WL.store (v := .int _ _) st.front4 ty_one50 rfl rfl rfl (by first | decide | omega) rfl rfl ?_ | refine WL.store (v := _) st.front4 ty_one50 rfl rfl rfl (by first | decide | omega) rfl rfl ?_ | refine WL.store (v := .int _ _) st.front5 ty_one50 rfl rfl rfl (by first | decide | omega) rfl rfl ?_ | refine WL.store (v := _) st.front5 ty_one50 rfl rfl rfl (by first | decide | omega) rfl rfl ?_ | refine WL.store (v := .int _ _) st.front6 ty_one50 rfl rfl rfl (by first | decide | omega) rfl rfl ?_ | refine WL.store (v := _) st.front6 ty_one50 rfl rfl rfl (by first | decide | omega) rfl rfl ?_ | refine WL.store (v := .int _ _) st.front7 ty_one50 rfl rfl rfl (by first | decide | omega) rfl rfl ?_ | refine WL.store (v := _) st.front7 ty_one50 rfl rfl rfl (by first | decide | omega) rfl rfl ?_ | refine WL.store (v := .int _ _) st.front8 ty_one50 rfl rfl rfl (by first | decide | omega) rfl rfl ?_ | refine WL.store (v := _) st.front8 ty_one50 rfl rfl rfl (by first | decide | omega) rfl rfl ?_
              intro w st
              refine WL.fin hK50 (fun _ _ h => h) ?_
              refine WC.seq fun K51 hK51 => ?_
              -- region 24 (draws)
              refine WC.quietS st ty_mixed (by kernel_rfl) fun Kq hKq => ?_
              -- R24.0 102 := convert.go:99 move
              refine QL.v (fun w st => by first | exact r_move (v := .int _ _) rfl | exact r_move rfl) rfl rfl rfl ?_
              -- R24.1 103 := convert.go:99 binOp
              refine QL.v (fun w st => by exact r_add (r := ((i + 1 : Nat) : Int)) rfl rfl (by rw [wi64 (by omega) (by omega)]; omega)) rfl rfl rfl ?_
              -- R24.2 104 := convert.go:99 move
              refine QL.v (fun w st => by first | exact r_move (v := .slice _ _ _) rfl | exact r_move rfl) rfl rfl rfl ?_
              -- R24.3 105 := convert.go:99 call
              refine QL.v (fun w st => by exact r_len ty_usl25 rfl) rfl rfl rfl ?_
              -- R24.4 106 := convert.go:99 binOp
              refine QL.v (fun w st => by first | exact r_eql rfl rfl (decide_eq_true (by omega)) | exact r_eql rfl rfl (decide_eq_false (by omega)) | exact r_eql rfl rfl rfl) rfl rfl rfl ?_
              -- R24.5 107 := convert.go:99 move
              refine QL.v (fun w st => by first | exact r_move (v := .bool _) rfl | exact r_move rfl) rfl rfl rfl ?_
              -- R24.6 108 := convert.go:99 move
              refine QL.v (fun w st => by first | exact r_move (v := .slice _ _ _) rfl | exact r_move rfl) rfl rfl rfl ?_
              -- R24.7 109 := convert.go:99 move
              refine QL.v (fun w st => by first | exact r_move (v := .int _ _) rfl | exact r_move rfl) rfl rfl rfl ?_
              -- R24.8 110 := convert.go:99 binOp
              refine QL.v (fun w st => by exact r_add (r := ((i + 1 : Nat) : Int)) rfl rfl (by rw [wi64 (by omega) (by omega)]; omega)) rfl rfl rfl ?_
              -- R24.9 111 := convert.go:99 indexAddr
              refine QL.v (fun w st => by exact r_indexS ty_sl25 rfl rfl rfl (by omega)) rfl rfl rfl ?_
              -- R24.10 112 := convert.go:99 fieldAddr
              refine QL.v (fun w st => by exact r_field ty_fld63_1 rfl) rfl rfl rfl ?_
              -- R24.11 113 := convert.go:99 load
              refine QL.v (fun w st => by exact r_load1 ty_one5 rfl ((st.c4 (by omega)).trans (congrArg some (hf (i + 1) (by omega)).2))) rfl rfl rfl ?_
              -- R24.12 114 := convert.go:99 fieldAddr
              refine QL.v (fun w st => by exact r_field ty_fld63_1 rfl) rfl rfl rfl ?_
              -- R24.13 115 := convert.go:99 load
              refine QL.v (fun w st => by exact r_load1 ty_one5 rfl (by first | assumption | exact st.c0 (by first | decide | omega) | exact st.c1 (by first | decide | omega) | exact st.c2 (by first | decide | omega) | exact st.c3 (by first | decide | omega) | exact st.c4 (by first | decide | omega) | exact st.c5 (by first | decide | omega) | exact st.c6 (by first | decide | omega) | exact st.c7 (by first | decide | omega) | exact st.c8 (by first | decide | omega))) rfl rfl rfl ?_
              -- R24.14 116 := convert.go:99 binOp
              refine QL.v (fun w st => by first | exact r_neq rfl rfl (decide_eq_true (by omega)) | exact r_neq rfl rfl (decide_eq_false (by omega)) | exact r_neq rfl rfl rfl) rfl rfl rfl ?_
              -- R24.15 117 := convert.go:99 pick
              refine QL.v (fun w st => by first | exact r_pickT (v := .bool _) rfl rfl | exact r_pickF (v := .bool _) rfl rfl) rfl rfl rfl ?_
              refine QL.wl hKq fun w st => ?_
              refine WL.fin hK51 (fun _ _ h => h) ?_
              refine WC.condF rfl rfl ?_
              refine WC.skipF hK48 (fun _ _ h => h) ?_
              -- region 27
              refine WC.region ?_
              -- R27.0 133 := convert.go:97 binOp
              refine WL.v (by exact r_add (r := ((i + 1 : Nat) : Int)) rfl rfl (by rw [wi64 (by omega) (by omega)]; omega)) rfl rfl rfl ?_
              -- R27.1 92 := convert.go:97 move
              refine WL.v (by first | exact r_move (v := .int _ _) rfl | exact r_move rfl) rfl rfl rfl ?_
              refine WL.next hKD (fun _ _ h => h) (i + 1, q, S q, S, g, _) ⟨st.drop1, by show i + 1 ≤ m + 1; omega, hruns.stays (by omega) he, fun h => by simp only at h; omega, hg, hfd', hq, rfl⟩ (by show m + 1 - (i + 1) < m + 1 - i; omega) (by repeat (first | exact sub_nil _ | refine sub_cons rfl rfl ?_))
            · skip
              refine WC.seq fun K52 hK52 => ?_
              -- region 21
              refine WC.region ?_
              -- R21.0 93 := convert.go:97 binOp
              refine WL.v (by first | exact r_lss rfl rfl (decide_eq_true (by omega)) | exact r_lss rfl rfl (decide_eq_false (by omega)) | exact r_lss rfl rfl rfl) rfl rfl rfl ?_
              refine WL.fin hK52 (fun _ _ h => h) ?_
              refine WC.seq fun K53 hK53 => ?_
              refine WC.condT rfl rfl ?_
              refine WC.skipF hK53 (fun _ _ h => h) ?_
              refine WC.seq fun K54 hK54 => ?_
              refine WC.block ?_
              refine WC.seq fun K55 hK55 => ?_
              -- region 22
              refine WC.region ?_
              -- R22.0 94 := convert.go:97 move
              refine WL.v (by first | exact r_move (v := .int _ _) rfl | exact r_move rfl) rfl rfl rfl ?_
              -- R22.1 95 := convert.go:97 indexAddr
              refine WL.v (by exact r_indexS ty_sl25 rfl rfl rfl (by omega)) rfl rfl rfl ?_
              -- R22.2 96 := convert.go:97 load
              refine WL.v (by exact r_loadL (vs := [_, _]) ty_agg63 rfl ⟨((st.c3 (by omega)).trans (congrArg some (hf i (by omega)).1)), ((st.c3 (by omega)).trans (congrArg some (hf i (by omega)).2)), trivial⟩) rfl rfl rfl ?_
              -- R22.3 15 := convert.go:97 alloc
              refine WL.alloc st ty_zero63 rfl rfl rfl ?_
              intro b15 w st
              -- R22.4 14 := convert.go:97 assign
              refine WL.v (by first | exact r_assign (v := .int _ _) rfl | exact r_assign rfl) rfl rfl rfl ?_
              -- R22.5 None := convert.go:97 store
              first | refine WL.storeW (vs := [_, _]) st ty_agg63 rfl rfl rfl rfl rfl rfl ?_ | refine WL.storeL (vs := [_, _]) st ty_agg63 rfl rfl rfl rfl (by first | decide | omega) rfl rfl ?_ | refine WL.storeW (vs := [_, _]) st.front1 ty_agg63 rfl rfl rfl rfl rfl rfl ?_ | refine WL.storeL (vs := [_, _]) st.front1 ty_agg63 rfl rfl rfl rfl (by first | decide | omega) rfl rfl ?_ | refine WL.storeW (vs := [_, _]) st.front2 ty_agg63 rfl rfl rfl rfl rfl rfl ?_ | refine WL.storeL (vs := [_, _]) st.front2 ty_agg63 rfl rfl rfl rfl (by first | decide | omega) rfl rfl ?_ | refine WL.storeW (vs := [_, _]) st.front3 ty_agg63 rfl rfl rfl rfl rfl rfl ?_ | refine WL.storeL (vs := [_, _]) st.front3 ty_agg63 rfl rfl rfl rfl (by first | decide | omega) rfl rfl ?_ | refine WL.storeW (vs := [_, _]) st.front4 ty_agg63 rfl rfl rfl rfl rfl rfl ?_ | refine WL.storeL (vs := [_, _]) st.front4 ty_agg63 rfl rfl rfl rfl (by first | decide | omega) rfl rfl ?_ | refine WL.storeW (vs := [_, _]) st.front5 ty_agg63 rfl rfl rfl rfl rfl rfl ?_ | refine WL.storeL (vs := [_, _]) st.front5 ty_agg63 rfl rfl rfl rfl (by first | decide | omega) rfl rfl ?_ | refine WL.storeW (vs := [_, _]) st.front6 ty_agg63 rfl rfl rfl rfl rfl rfl ?_ | refine WL.storeL (vs := [_, _]) st.front6 ty_agg63 rfl rfl rfl rfl (by first | decide | omega) rfl rfl ?_ | refine WL.storeW (vs := [_, _]) st.front7 ty_agg63 rfl rfl rfl rfl rfl rfl ?_ | refine WL.storeL (vs := [_, _]) st.front7 ty_agg63 rfl rfl rfl rfl (by first | decide | omega) rfl rfl ?_ | refine WL.storeW (vs := [_, _]) st.front8 ty_agg63 rfl rfl rfl rfl rfl rfl ?_ | refine WL.storeL (vs := [_, _]) st.front8 ty_agg63 rfl rfl rfl rfl (by first | decide | omega) rfl rfl ?_
              intro w st
              refine WL.fin hK55 (fun _ _ h => h) ?_
              refine WC.seq fun K56 hK56 => ?_
              -- region 23
              refine WC.region ?_
              -- R23.0 97 := convert.go:98 move
              refine WL.v (by first | exact r_move (v := .slice _ _ _) rfl | exact r_move rfl) rfl rfl rfl ?_
              -- R23.1 98 := convert.go:98 move
              refine WL.v (by first | exact r_move (v := .int _ _) rfl | exact r_move rfl) rfl rfl rfl ?_
              -- R23.2 99 := convert.go:98 fieldAddr
              refine WL.v (by exact r_field ty_fld63_0 rfl) rfl rfl rfl ?_
              -- R23.3 100 := convert.go:98 load
              refine WL.v (by exact r_load1 ty_one50 rfl (by first | assumption | exact st.c0 (by first | decide | omega) | exact st.c1 (by first | decide | omega) | exact st.c2 (by first | decide | omega) | exact st.c3 (by first | decide | omega) | exact st.c4 (by first | decide | omega) | exact st.c5 (by first | decide | omega) | exact st.c6 (by first | decide | omega) | exact st.c7 (by first | decide | omega) | exact st.c8 (by first | decide | omega))) rfl rfl rfl ?_
              -- R23.4 101 := convert.go:98 indexAddr
              refine WL.v (by exact r_indexS ty_sl58 rfl rfl rfl (by omega)) rfl rfl rfl ?_
              -- R23.5 None := convert.go:98 store
              first | refine WL.store (v := .int _ _) st ty_one50 rfl rfl rfl (by first | decide | omega) rfl rfl ?_ | refine WL.store (v := _) st ty_one50 rfl rfl rfl (by first | decide | omega) rfl rfl ?_ | refine WL.store (v := .int _ _) st.front1 ty_one50 rfl rfl rfl (by first | decide | omega) rfl rfl ?_ | refine WL.store (v := _) st.front1 ty_one50 rfl rfl rfl (by first | decide | omega) rfl rfl ?_ | refine WL.store (v := .int _ _) st.front2 ty_one50 rfl rfl rfl (by first | decide | omega) rfl rfl ?_ | refine WL.store (v := _) st.front2 ty_one50 rfl rfl rfl (by first | decide | omega) rfl rfl ?_ | refine WL.store (v := .int _ _) st.front3 ty_one50 rfl rfl rfl (by first | decide | omega) rfl rfl ?_ | refine WL.store (v := _) st.front3 ty_one50 rfl rfl rfl (by first | decide | omega) rfl rfl ?_ | refine WL.store (v := .int _ _) st.front4 ty_one50 rfl rfl rfl (by first | decide | omega) rfl rfl ?_ | refine WL.store (v := _) st.front4 ty_one50 rfl rfl rfl (by first | decide | omega) rfl rfl ?_ | refine WL.store (v := .int _ _) st.front5 ty_one50 rfl rfl rfl (by first | decide | omega) rfl rfl ?_ | refine WL.store (v := _) st.front5 ty_one50 rfl rfl rfl (by first | decide | omega) rfl rfl ?_ | refine WL.store (v := .int _ _) st.front6 ty_one50 rfl rfl rfl (by first | decide | omega) rfl rfl ?_ | refine WL.store (v := _) st.front6 ty_one50 rfl rfl rfl (by first | decide | omega) rfl rfl ?_ | refine WL.store (v := .int _ _) st.front7 ty_one50 rfl rfl rfl (by first | decide | omega) rfl rfl ?_ | refine WL.store (v := _) st.front7 ty_one50 rfl rfl rfl (by first | decide | omega) rfl rfl ?_ | refine WL.store (v := .int _ _) st.front8 ty_one50 rfl rfl rfl (by first | decide | omega) rfl rfl ?_ | refine WL.store (v := _) st.front8 ty_one50 rfl rfl rfl (by first | decide | omega) rfl rfl ?_
              intro w st
              refine WL.fin hK56 (fun _ _ h => h) ?_
              refine WC.seq fun K57 hK57 => ?_
              -- region 24 (draws)
              refine WC.quietS st ty_mixed (by kernel_rfl) fun Kq hKq => ?_
              -- R24.0 102 := convert.go:99 move
              refine QL.v (fun w st => by first | exact r_move (v := .int _ _) rfl | exact r_move rfl) rfl rfl rfl ?_
              -- R24.1 103 := convert.go:99 binOp
              refine QL.v (fun w st => by exact r_add (r := ((i + 1 : Nat) : Int)) rfl rfl (by rw [wi64 (by omega) (by omega)]; omega)) rfl rfl rfl ?_
              -- R24.2 104 := convert.go:99 move
              refine QL.v (fun w st => by first | exact r_move (v := .slice _ _ _) rfl | exact r_move rfl) rfl rfl rfl ?_
              -- R24.3 105 := convert.go:99 call
              refine QL.v (fun w st => by exact r_len ty_usl25 rfl) rfl rfl rfl ?_
              -- R24.4 106 := convert.go:99 binOp
              refine QL.v (fun w st => by first | exact r_eql rfl rfl (decide_eq_true (by omega)) | exact r_eql rfl rfl (decide_eq_false (by omega)) | exact r_eql rfl rfl rfl) rfl rfl rfl ?_
              -- R24.5 107 := convert.go:99 move
              refine QL.v (fun w st => by first | exact r_move (v := .bool _) rfl | exact r_move rfl) rfl rfl rfl ?_
              -- R24.6 108 := convert.go:99 move
              refine QL.v (fun w st => by first | exact r_move (v := .slice _ _ _) rfl | exact r_move rfl) rfl rfl rfl ?_
              -- R24.7 109 := convert.go:99 move
              refine QL.v (fun w st => by first | exact r_move (v := .int _ _) rfl | exact r_move rfl) rfl rfl rfl ?_
              -- R24.8 110 := convert.go:99 binOp
              refine QL.v (fun w st => by exact r_add (r := ((i + 1 : Nat) : Int)) rfl rfl (by rw [wi64 (by omega) (by omega)]; omega)) rfl rfl rfl ?_
              -- R24.9 111 := convert.go:99 indexAddr
              refine QL.v (fun w st => by exact r_indexS ty_sl25 rfl rfl rfl (by omega)) rfl rfl rfl ?_
              -- R24.10 112 := convert.go:99 fieldAddr
              refine QL.v (fun w st => by exact r_field ty_fld63_1 rfl) rfl rfl rfl ?_
              -- R24.11 113 := convert.go:99 load
              refine QL.v (fun w st => by exact r_load1 ty_one5 rfl ((st.c4 (by omega)).trans (congrArg some (hf (i + 1) (by omega)).2))) rfl rfl rfl ?_
              -- R24.12 114 := convert.go:99 fieldAddr
              refine QL.v (fun w st => by exact r_field ty_fld63_1 rfl) rfl rfl rfl ?_
              -- R24.13 115 := convert.go:99 load
              refine QL.v (fun w st => by exact r_load1 ty_one5 rfl (by first | assumption | exact st.c0 (by first | decide | omega) | exact st.c1 (by first | decide | omega) | exact st.c2 (by first | decide | omega) | exact st.c3 (by first | decide | omega) | exact st.c4 (by first | decide | omega) | exact st.c5 (by first | decide | omega) | exact st.c6 (by first | decide | omega) | exact st.c7 (by first | decide | omega) | exact st.c8 (by first | decide | omega))) rfl rfl rfl ?_
              -- R24.14 116 := convert.go:99 binOp
              refine QL.v (fun w st => by first | exact r_neq rfl rfl (decide_eq_true (by omega)) | exact r_neq rfl rfl (decide_eq_false (by omega)) | exact r_neq rfl rfl rfl) rfl rfl rfl ?_
              -- R24.15 117 := convert.go:99 pick
              refine QL.v (fun w st => by first | exact r_pickT (v := .bool _) rfl rfl | exact r_pickF (v := .bool _) rfl rfl) rfl rfl rfl ?_
              refine QL.wl hKq fun w st => ?_
              refine WL.fin hK57 (fun _ _ h => h) ?_
              refine WC.condT rfl rfl ?_
              refine WC.seq fun K58 hK58 => ?_
              -- region 25 (draws)
              refine WC.heldS2 [11, 12, 13] [1, 2] [0, 3, 4, 5, 6, 7, 8, 9, 10] [11, 12, 13] st (st.drop2) ty_mixed (by kernel_rfl) fun w st Kq Kq2 hKq hKq2 => ?_
              -- R25.1 119 := convert.go:100 fieldAddr
              refine HL.v (fun w st => by exact r_field ty_fld63_1 rfl) rfl rfl rfl ?_
              -- R25.2 120 := convert.go:100 load
              refine HL.v (fun w st => by exact r_load1 ty_one5 rfl (by first | assumption | exact st.c0 (by first | decide | omega) | exact st.c1 (by first | decide | omega) | exact st.c2 (by first | decide | omega) | exact st.c3 (by first | decide | omega) | exact st.c4 (by first | decide | omega) | exact st.c5 (by first | decide | omega) | exact st.c6 (by first | decide | omega) | exact st.c7 (by first | decide | omega) | exact st.c8 (by first | decide | omega))) rfl rfl rfl ?_
              refine HL.pure hKq ?_
              -- R25.0 118 := convert.go:100 move
              refine HL.v (fun w _ => by first | exact r_move (v := .slice _ _ _) rfl | exact r_move rfl) rfl rfl rfl ?_
              -- R25.3 121 := convert.go:100 move
              refine HL.v (fun w _ => by first | exact r_move (v := .slice _ _ _) rfl | exact r_move rfl) rfl rfl rfl ?_
              -- R25.4 122 := convert.go:100 move
              refine HL.v (fun w _ => by first | exact r_move (v := .int _ _) rfl | exact r_move rfl) rfl rfl rfl ?_
              -- R25.5 123 := convert.go:100 move
              refine HL.v (fun w _ => by first | exact r_move (v := .int _ _) rfl | exact r_move rfl) rfl rfl rfl ?_
              -- R25.6 124 := convert.go:100 binOp
              refine HL.v (fun w _ => by exact r_add (r := ((i + 1 : Nat) : Int)) rfl rfl (by rw [wi64 (by omega) (by omega)]; omega)) rfl rfl rfl ?_
              -- R25.7 125 := convert.go:100 move
              refine HL.v (fun w _ => by first | exact r_move (v := .int _ _) rfl | exact r_move rfl) rfl rfl rfl ?_
              -- R25.8 126 := convert.go:100 binOp
              refine HL.v (fun w _ => by exact r_add (r := ((i + 1 : Nat) : Int)) rfl rfl (by rw [wi64 (by omega) (by omega)]; omega)) rfl rfl rfl ?_
              -- R25.9 127 := convert.go:100 slice
              refine HL.v (fun w _ => by exact r_slice_lohimx (jl := S q) (jh := i + 1) (jm := i + 1) ty_sl58 rfl rfl rfl rfl rfl rfl rfl (by omega) (by omega) (by omega) (by omega)) rfl rfl rfl ?_
              -- R25.10 128 := convert.go:100 build
              refine HL.v (fun w _ => by first | exact r_build (vs := [.int _ _, .slice _ _ _]) ty_pl60 ty_zero60 rfl rfl | exact r_build (vs := [_, _]) ty_pl60 ty_zero60 rfl rfl | exact r_build ty_pl60 ty_zero60 rfl rfl) rfl rfl rfl ?_
              refine HL.fin hKq2 ?_
              refine TL.at ?_
              -- R25.11 129 := convert.go:100 buildSlice
              first | refine WL.mkslice (m := 2) (vs := [.int _ _, .slice _ _ _]) st ty_sl37 ty_zero60 rfl rfl rfl rfl rfl rfl ?_ | refine WL.mkslice (m := 2) (vs := [_, _]) st ty_sl37 ty_zero60 rfl rfl rfl rfl rfl rfl ?_ | refine WL.mkslice st ty_sl37 ty_zero60 rfl rfl rfl rfl rfl rfl ?_
              intro b129 w st
              refine TL.nxt' rfl ?_
              refine TL.at ?_
              -- R25.12 130 := convert.go:100 call
              refine WL.appendR (m := 1) st.front3 ty_sl37 rfl rfl (by omega) (by omega) (fun j hj => st.c0 (by omega)) (fun j hj => ?_) rfl rfl rfl ?_
              · match j, hj with
                | 0, _ => rfl
                | 1, _ => rfl
              intro w st
              refine TL.nxt' rfl ?_
              refine TL.at ?_
              -- R25.13 11 := convert.go:100 assign
              refine WL.v (by first | exact r_assign (v := .slice _ _ _) rfl | exact r_assign rfl) rfl rfl rfl ?_
              refine TL.nxt' rfl ?_
              refine TL.wl ?_
              refine WL.fin hK58 (fun _ _ h => h) ?_
              -- region 26
              refine WC.region ?_
              -- R26.0 131 := convert.go:101 move
              refine WL.v (by first | exact r_move (v := .int _ _) rfl | exact r_move rfl) rfl rfl rfl ?_
              -- R26.1 132 := convert.go:101 binOp
              refine WL.v (by exact r_add (r := ((i + 1 : Nat) : Int)) rfl rfl (by rw [wi64 (by omega) (by omega)]; omega)) rfl rfl rfl ?_
              -- R26.2 13 := convert.go:101 assign
              refine WL.v (by first | exact r_assign (v := .int _ _) rfl | exact r_assign rfl) rfl rfl rfl ?_
              refine WL.fin hK54 (fun _ _ h => h) ?_
              -- region 27
              refine WC.region ?_
              -- R27.0 133 := convert.go:97 binOp
              refine WL.v (by exact r_add (r := ((i + 1 : Nat) : Int)) rfl rfl (by rw [wi64 (by omega) (by omega)]; omega)) rfl rfl rfl ?_
              -- R27.1 92 := convert.go:97 move
              refine WL.v (by first | exact r_move (v := .int _ _) rfl | exact r_move rfl) rfl rfl rfl ?_
              refine WL.next hKD (fun _ _ h => h) (i + 1, q + 1, i + 1, (fun t => if t ≤ q then S t else i + 1), _, _) ⟨st.drop1.drop2.front1, by show i + 1 ≤ m + 1; omega, hruns.closes hsrt hlt (.inr he), fun h => by simp only at h; omega, hg.closes (news := fun j => nth [.int .u8 (A i).2, .slice (some ⟨b89, 0 + S q * 1, none⟩) (i + 1 - S q) (i + 1 - S q)] (0 + j)) hcur rfl rfl, hfd', by show q + 1 ≤ 1 + dc A m; omega, by show i + 1 = if q + 1 ≤ q then S (q + 1) else i + 1; rw [if_neg (by omega)]⟩ (by show m + 1 - (i + 1) < m + 1 - i; omega) (by repeat (first | exact sub_nil _ | refine sub_cons rfl rfl ?_))
        · obtain rfl : i = m + 1 := by omega
          refine WC.seq fun K59 hK59 => ?_
          -- region 21
          refine WC.region ?_
          -- R21.0 93 := convert.go:97 binOp
          refine WL.v (by first | exact r_lss rfl rfl (decide_eq_true (by omega)) | exact r_lss rfl rfl (decide_eq_false (by omega)) | exact r_lss rfl rfl rfl) rfl rfl rfl ?_
          refine WL.fin hK59 (fun _ _ h => h) ?_
          refine WC.seq fun K60 hK60 => ?_
          refine WC.condF rfl rfl ?_
          refine WC.exitF hK37 (fun _ _ h => h) ?_
          refine WC.seq fun K61 hK61 => ?_
          -- region 28
          refine WC.region ?_
          -- R28.0 134 := convert.go:104 move
          refine WL.v (by first | exact r_move (v := .slice _ _ _) rfl | exact r_move rfl) rfl rfl rfl ?_
          -- R28.1 4 := convert.go:104 assign
          refine WL.v (by first | exact r_assign (v := .slice _ _ _) rfl | exact r_assign rfl) rfl rfl rfl ?_
          refine WL.fin hK61 (fun _ _ h => h) ?_
          refine WC.ret1 Try.results19 (fun _ _ h => h) rfl ?_
          exact ⟨_, rfl, _, _, _, _, _, _, _, _, _, _, [(fb, Row 63 (cap * 2) f)], rfl, hruns.out hsrt hperm (hend rfl), hg, fun k hk => hfd k hk, hq, hF1, .inr ⟨_, _, _, _, rfl, hcap1, hcap2, rfl⟩, st.front1⟩
  · intro KC hKC
    rcases hfew with ⟨rfl, rfl⟩ | ⟨fb0, m0, cap0, ff, rfl, hc1, hc2, rfl⟩
    · skip
      -- region 1
      refine WC.region ?_
      -- R1.0 16 := convert.go:78 move
      refine WL.v (by first | exact r_move (v := .pointer _) rfl | exact r_move rfl) rfl rfl rfl ?_
      -- R1.1 17 := convert.go:78 nilCheck
      refine WL.v (by exact r_nilCheck rfl) rfl rfl rfl ?_
      -- R1.2 18 := convert.go:78 fieldAddr
      refine WL.v (by exact r_field ty_fld27_2 rfl) rfl rfl rfl ?_
      -- R1.3 19 := convert.go:78 load
      refine WL.v (by exact r_load1 ty_one25 rfl ((st.c0 (by omega)).trans (congrArg some hF.few))) rfl rfl rfl ?_
      -- R1.4 20 := convert.go:78 slice
      refine WL.v (by exact r_slice_hi (j := 0) ty_sl25 rfl rfl (by first | rfl | omega) (by omega)) rfl rfl rfl ?_
      -- R1.5 21 := convert.go:78 move
      refine WL.v (by first | exact r_move (v := .slice _ _ _) rfl | exact r_move rfl) rfl rfl rfl ?_
      -- R1.6 22 := convert.go:78 call
      have hl := hrd [_] _ st
      refine WL.append0 (m := n) (news := fun j => if j % 2 = 0 then .int .u32 (X (j / 2)).1 else .int .u8 (X (j / 2)).2) st ty_mk25 ty_zero63 rfl (by omega) rfl rfl (by omega) (fun j hj => ?_) (fun j hj => ?_) (by omega) (by omega) rfl rfl rfl ?_
      · by_cases hj2 : j % 2 = 0
        · rw [if_pos hj2, show lo + j = lo + (j / 2) * 2 by omega]; exact (hl (j / 2) (by omega)).1
        · rw [if_neg hj2, show lo + j = lo + (j / 2) * 2 + 1 by omega]; exact (hl (j / 2) (by omega)).2
      · split <;> rfl
      intro fb cap f w st hcap1 hcap2 hf
      have hP : PR f n X := fun k hk => ⟨by rw [hf _ (by omega), if_pos (by omega), show (0 + k * 2) / 2 = k by omega], by rw [hf _ (by omega), if_neg (by omega), show (0 + k * 2 + 1) / 2 = k by omega]⟩
      -- R1.7 5 := convert.go:78 assign
      refine WL.v (by first | exact r_assign (v := .slice _ _ _) rfl | exact r_assign rfl) rfl rfl rfl ?_
      refine WL.join hKC (fun _ _ h => h) (fb, cap, f) ⟨st, hP, hcap1, hcap2⟩ (by repeat (first | exact sub_nil _ | refine sub_cons rfl rfl ?_))
    · have st : St w0 M ((fb0, Row 63 (cap0 * 2) ff) :: (cb, Row 27 513 F) :: L) w := st.front1
      -- region 1
      refine WC.region ?_
      -- R1.0 16 := convert.go:78 move
      refine WL.v (by first | exact r_move (v := .pointer _) rfl | exact r_move rfl) rfl rfl rfl ?_
      -- R1.1 17 := convert.go:78 nilCheck
      refine WL.v (by exact r_nilCheck rfl) rfl rfl rfl ?_
      -- R1.2 18 := convert.go:78 fieldAddr
      refine WL.v (by exact r_field ty_fld27_2 rfl) rfl rfl rfl ?_
      -- R1.3 19 := convert.go:78 load
      refine WL.v (by exact r_load1 ty_one25 rfl ((st.c1 (by omega)).trans (congrArg some hF.few))) rfl rfl rfl ?_
      -- R1.4 20 := convert.go:78 slice
      refine WL.v (by exact r_slice_hi (j := 0) ty_sl25 rfl rfl (by first | rfl | omega) (by omega)) rfl rfl rfl ?_
      -- R1.5 21 := convert.go:78 move
      refine WL.v (by first | exact r_move (v := .slice _ _ _) rfl | exact r_move rfl) rfl rfl rfl ?_
      -- R1.6 22 := convert.go:78 call
      have hl := hrd [_, _] _ st
      refine WL.append (m := n) (news := fun j => if j % 2 = 0 then .int .u32 (X (j / 2)).1 else .int .u8 (X (j / 2)).2) st ty_mk25 ty_zero63 rfl (by omega) rfl rfl (by omega) hc2 (by omega) (fun j hj => ?_) (fun j hj => ?_) (by omega) (by omega) rfl rfl rfl ?_
      · by_cases hj2 : j % 2 = 0
        · rw [if_pos hj2, show lo + j = lo + (j / 2) * 2 by omega]; exact (hl (j / 2) (by omega)).1
        · rw [if_neg hj2, show lo + j = lo + (j / 2) * 2 + 1 by omega]; exact (hl (j / 2) (by omega)).2
      · split <;> rfl
      intro fb cap f w st hcap1 hcap2 _ hf
      rw [Nat.zero_add] at hcap1 ⊢
      have hP : PR f n X := fun k hk => ⟨by have := hf (k * 2) (by omega); rw [if_pos (by omega), show k * 2 / 2 = k by omega] at this; exact this, by have := hf (k * 2 + 1) (by omega); rw [if_neg (by omega), show (k * 2 + 1) / 2 = k by omega] at this; exact this⟩
      -- R1.7 5 := convert.go:78 assign
      refine WL.v (by first | exact r_assign (v := .slice _ _ _) rfl | exact r_assign rfl) rfl rfl rfl ?_
      refine WL.join hKC (fun _ _ h => h) (fb, cap, f) ⟨st, hP, hcap1, hcap2⟩ (by repeat (first | exact sub_nil _ | refine sub_cons rfl rfl ?_))

end Go.Proofs.Qxb6500835a

