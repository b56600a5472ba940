import Derived.Test.Qxb6500835aW3
import Derived.Test.Qxb6500835aC2
set_option linter.unusedVariables false
set_option linter.unusedSimpArgs false
namespace Go.Proofs.Qxb6500835a
open Go.RowKit Go.E1 Go.Conv

/-- The converter's struct while postings are counted. -/
structure ConvC (F : Nat → Value) (c : Nat → Nat) (fv : Value) : Prop where
  cnt : ∀ v, v < 256 → F v = .int .i32 (c v : Nat)
  grp : ∀ i, i < 256 → ∃ g, F (256 + i) = .int .i32 g
  few : F 512 = fv

theorem ConvF.counted {F : Nat → Value} {fv : Value} (h : ConvF F fv) (V : Nat → Nat) : ConvC F (fun v => cn V v 0) fv := ⟨fun v hv => h.cnt v hv, h.grp, h.few⟩

theorem ConvC.set {F : Nat → Value} {c : Nat → Nat} {fv : Value} (h : ConvC F c fv) {v : Nat} (hv : v < 256) {x : Nat} {c' : Nat → Nat} (hc : ∀ u, u < 256 → c' u = if u = v then x else c u) : ConvC (upd F (0 + 0 + v * 1) (.int .i32 (x : Nat))) c' fv := by
  refine ⟨fun u hu => ?_, fun i hi => ?_, ?_⟩
  · simp only [upd_eq]
    rw [hc u hu]
    by_cases he : u = v
    · rw [if_pos he, if_pos (by omega)]
    · rw [if_neg he, if_neg (by omega)]; exact h.cnt u hu
  · obtain ⟨g, hg⟩ := h.grp i hi
    exact ⟨g, by simp only [upd_eq]; rw [if_neg (by omega)]; exact hg⟩
  · simp only [upd_eq]; rw [if_neg (by omega)]; exact h.few

theorem ConvC.setg {F : Nat → Value} {c : Nat → Nat} {fv : Value} (h : ConvC F c fv) {v : Nat} (hv : v < 256) (x : Int) : ConvC (upd F (0 + 256 + v * 1) (.int .i32 x)) c fv := by
  refine ⟨fun u hu => ?_, fun i hi => ?_, ?_⟩
  · simp only [upd_eq]; rw [if_neg (by omega)]; exact h.cnt u hu
  · simp only [upd_eq]
    by_cases he : i = v
    · exact ⟨x, by rw [if_pos (by omega)]⟩
    · rw [if_neg (by omega)]; exact h.grp i hi
  · simp only [upd_eq]; rw [if_neg (by omega)]; exact h.few

/-- The groups while documents are dealt: level T t holds L (T t) of c (T t). -/
def GZ (g : Nat → Value) (db q : Nat) (T S c L : Nat → Nat) : Prop :=
  ∀ t, t < q → g (0 + t * 2) = .int .u8 ((255 - T t : Nat) : Int) ∧ g (0 + t * 2 + 1) = .slice (some ⟨db, 0 + S t * 1, none⟩) (L (T t)) (c (T t))

theorem GZ.more {g : Nat → Value} {db q r x : Nat} {T S c : Nat → Nat} (h : GZ g db q T S c (fun _ => 0)) {news : Nat → Value} (h0 : news 0 = .int .u8 ((255 - r : Nat) : Int)) (h1 : news 1 = .slice (some ⟨db, 0 + S q * 1, none⟩) 0 (c r)) :
    GZ (upds g (0 + q * 2) (1 * 2) news) db (q + 1) (fun t => if t < q then T t else r) (fun t => if t ≤ q then S t else x) c (fun _ => 0) := by
  intro t ht
  simp only [upds_eq]
  by_cases htq : t = q
  · subst htq
    refine ⟨?_, ?_⟩
    · rw [if_pos (show 0 + t * 2 ≤ 0 + t * 2 ∧ 0 + t * 2 < 0 + t * 2 + 1 * 2 by omega), if_neg (show ¬ t < t by omega), show 0 + t * 2 - (0 + t * 2) = 0 by omega, h0]
    · rw [if_pos (show 0 + t * 2 ≤ 0 + t * 2 + 1 ∧ 0 + t * 2 + 1 < 0 + t * 2 + 1 * 2 by omega), if_pos (Nat.le_refl t), if_neg (show ¬ t < t by omega), show 0 + t * 2 + 1 - (0 + t * 2) = 1 by omega, h1]
  · rw [if_neg (show ¬ (0 + q * 2 ≤ 0 + t * 2 ∧ 0 + t * 2 < 0 + q * 2 + 1 * 2) by omega), if_neg (show ¬ (0 + q * 2 ≤ 0 + t * 2 + 1 ∧ 0 + t * 2 + 1 < 0 + q * 2 + 1 * 2) by omega), if_pos (show t ≤ q by omega), if_pos (show t < q by omega)]
    exact h t (by omega)

theorem GZ.dealt {g : Nat → Value} {db q t0 x : Nat} {T S c L L' : Nat → Nat} (h : GZ g db q T S c L) (ht0 : t0 < q) (hx : L' (T t0) = x) (ho : ∀ t, t < q → t ≠ t0 → L' (T t) = L (T t)) :
    GZ (upd g (0 + t0 * 2 + 1) (.slice (some ⟨db, 0 + S t0 * 1, none⟩) x (c (T t0)))) db q T S c L' := by
  intro t ht
  simp only [upd_eq]
  obtain ⟨h1, h2⟩ := h t ht
  rw [if_neg (show ¬ 0 + t * 2 = 0 + t0 * 2 + 1 by omega)]
  by_cases he : t = t0
  · subst he; rw [if_pos rfl, hx]; exact ⟨h1, rfl⟩
  · rw [if_neg (show ¬ 0 + t * 2 + 1 = 0 + t0 * 2 + 1 by omega), ho t ht he]; exact ⟨h1, h2⟩

set_option maxHeartbeats 4000000 in
theorem many_ok (cb lb lo n lcap : Nat) (X : Nat → Pr) (V : Nat → Nat) (F : Nat → Value) (fv : Value) (FI : List HI) {w0 : World} {M : Nat → Prop} {L : List HI} {w : World} (hn : 1 ≤ n) (hn2 : n ≤ 65536)
    (hX : ∀ a b, a < b → b < n → (X a).1 < (X b).1) (hV : ∀ k, k < n → (X k).2 = (V k : Int) ∧ V k < 256) (hrd : ∀ its w', St w0 M (its ++ L) w' → LAt w' lb lo n X) (hF : ConvF F fv) (hfew : FewOk fv FI)
    (st : St w0 M ((cb, Row 27 513 F) :: (FI ++ L)) w) :
    Calls Try.prog 20 #[.pointer (some ⟨cb, 0, none⟩), .slice (some ⟨lb, lo, none⟩) n lcap] w (Ret (Grouped w0 M L cb n X)) := by
  have hrd1 : ∀ its w', St w0 M (its ++ (FI ++ L)) w' → LAt w' lb lo n X := fun its w' s => hrd (its ++ FI) w' (by rw [List.append_assoc]; exact s)
  unfold Grouped
  suffices H : ∀ L1, (∀ its w', St w0 M (its ++ L1) w' → LAt w' lb lo n X) → St w0 M ((cb, Row 27 513 F) :: L1) w →
      Calls Try.prog 20 #[.pointer (some ⟨cb, 0, none⟩), .slice (some ⟨lb, lo, none⟩) n lcap] w (Ret fun v w' => ∃ gb gc db q S A g fd F', v = .slice (some ⟨gb, 0, none⟩) q gc ∧ Out n X A q S ∧ GR g db q S A ∧ DR fd n A ∧ q ≤ gc ∧ ConvF F' fv ∧
        St w0 M ((gb, Row 60 (gc * 2) g) :: (db, Row 50 (n * 1) fd) :: (cb, Row 27 513 F') :: L1) w') by
    refine (H _ hrd1 st).mono ?_
    rintro e w' ⟨v, rfl, gb, gc, db, q, S, A, g, fd, F', h1, h2, h3, h4, h5, h6, h7⟩
    exact ⟨v, rfl, gb, gc, db, q, S, A, g, fd, F', fv, FI, h1, h2, h3, h4, h5, h6, hfew, h7⟩
  clear st hrd1 hrd
  intro L1 hrd st
  have hvn : ∀ k, k < n → V k < 256 := fun k hk => (hV k hk).2
  refine enter [.pointer (some ⟨cb, 0, none⟩), .slice (some ⟨lb, lo, none⟩) n lcap] Try.func20 rfl Try.ntmps20 rfl ?_
  show WC _ _ _ 119 [] [(0, .pointer (some ⟨cb, 0, none⟩)), (1, .slice (some ⟨lb, lo, none⟩) n lcap)] _
  refine WC.seq fun K62 hK62 => ?_
  -- region 0
  refine WC.region ?_
  -- R0.0 4 := convert.go:110 assign
  refine WL.v (by first | exact r_assign (v := .slice _ _ _) rfl | exact r_assign rfl) rfl rfl rfl ?_
  refine WL.fin hK62 (fun _ _ h => h) ?_
  refine WC.seq fun K63 hK63 => ?_
  -- region 1
  refine WC.region ?_
  -- R1.0 5 := convert.go:111 assign
  refine WL.v (by first | exact r_assign (v := .int _ _) rfl | exact r_assign rfl) rfl rfl rfl ?_
  refine WL.fin hK63 (fun _ _ h => h) ?_
  refine WC.seq fun K64 hK64 => ?_
  refine WC.seq fun K65 hK65 => ?_
  -- region 2
  refine WC.region ?_
  -- R2.0 16 := convert.go:112 move
  refine WL.v (by first | exact r_move (v := .slice _ _ _) rfl | exact r_move rfl) rfl rfl rfl ?_
  -- R2.1 17 := convert.go:112 call
  refine WL.v (by exact r_len ty_usl25 rfl) rfl rfl rfl ?_
  -- R2.2 18 := convert.go:112 move
  refine WL.v (by first | exact r_move (v := .int _ _) rfl | exact r_move rfl) rfl rfl rfl ?_
  refine WL.fin hK65 (fun _ _ h => h) ?_
  refine WC.block ?_
  refine WC.loop (ι := Nat × Nat × (Nat → Value)) (fun z => [(0, .pointer (some ⟨cb, 0, none⟩)), (1, .slice (some ⟨lb, lo, none⟩) n lcap), (5, .int .i64 (z.2.1 : Nat)), (16, .slice (some ⟨lb, lo, none⟩) n lcap), (17, .int .i64 (n : Nat)), (18, .int .i64 (z.1 : Nat))])
    (fun z w' => St w0 M ((cb, Row 27 513 z.2.2) :: L1) w' ∧ z.1 ≤ n ∧ ConvC z.2.2 (fun v => cn V v z.1) fv ∧ z.2.1 = qn (lc V z.1) 256) (fun z => n - z.1) (0, 0, F) ⟨st, Nat.zero_le _, hF.counted V, (qn_none V 256).symm⟩ ?_ ?_
  · skip
    repeat (first | exact sub_nil _ | refine sub_cons rfl rfl ?_)
  rintro ⟨i, d, F1⟩ w ⟨st, hi, hc, hd⟩ K1 hK1
  simp only at st hi hc hK1 hd ⊢
  clear hF
  have hq1 := qn_le (lc V i) 256
  rw [← hd] at hq1
  by_cases hlt : i < n
  · obtain ⟨hv1, hv2⟩ := hV i hlt
    have hcl := cn_le V (V i) i
    have hcs : cn V (V i) (i + 1) = cn V (V i) i + 1 := by simp [cn]
    have hds := dist_step V (i := i) hv2
    have hcv : F1 (0 + 0 + V i * 1) = .int .i32 ((cn V (V i) i : Nat) : Int) := by rw [show 0 + 0 + V i * 1 = V i by omega]; exact hc.cnt _ hv2
    have hc' : ConvC (upd F1 (0 + 0 + V i * 1) (.int .i32 ((cn V (V i) (i + 1) : Nat) : Int))) (fun v => cn V v (i + 1)) fv := hc.set hv2 fun u hu => by
      by_cases he : u = V i
      · subst he; rw [if_pos rfl]
      · rw [if_neg he]; show cn V u i + (if V i = u then 1 else 0) = cn V u i; rw [if_neg (fun h => he h.symm)]; rfl
    have hl := hrd [(cb, Row 27 513 F1)] w st i hlt
    by_cases hz : cn V (V i) i = 0
    · rw [if_pos hz] at hds
      refine WC.seq fun K66 hK66 => ?_
      -- region 3
      refine WC.region ?_
      -- R3.0 19 := convert.go:112 binOp
      refine WL.v (by first | exact r_lss rfl rfl (decide_eq_true (by omega)) | exact r_lss rfl rfl (decide_eq_false (by omega)) | exact r_lss rfl rfl rfl) rfl rfl rfl ?_
      refine WL.fin hK66 (fun _ _ h => h) ?_
      refine WC.seq fun K67 hK67 => ?_
      refine WC.condT rfl rfl ?_
      refine WC.skipF hK67 (fun _ _ h => h) ?_
      refine WC.seq fun K68 hK68 => ?_
      refine WC.block ?_
      refine WC.seq fun K69 hK69 => ?_
      -- region 4
      refine WC.region ?_
      -- R4.0 20 := convert.go:112 indexAddr
      refine WL.v (by exact r_indexS ty_sl25 rfl rfl rfl (by omega)) rfl rfl rfl ?_
      -- R4.1 21 := convert.go:112 load
      refine WL.v (by exact r_loadL (vs := [_, _]) ty_agg63 rfl ⟨((hrd [_] _ st i hlt).1), ((hrd [_] _ st i hlt).2), trivial⟩) rfl rfl rfl ?_
      -- R4.2 7 := convert.go:112 alloc
      refine WL.alloc st ty_zero63 rfl rfl rfl ?_
      intro b7 w st
      -- R4.3 None := convert.go:112 store
      first | refine WL.storeW (vs := [_, _]) st ty_agg63 rfl rfl rfl rfl rfl rfl ?_ | refine WL.storeL (vs := [_, _]) st ty_agg63 rfl rfl rfl rfl (by first | decide | omega) rfl rfl ?_ | refine WL.storeW (vs := [_, _]) st.front1 ty_agg63 rfl rfl rfl rfl rfl rfl ?_ | refine WL.storeL (vs := [_, _]) st.front1 ty_agg63 rfl rfl rfl rfl (by first | decide | omega) rfl rfl ?_ | refine WL.storeW (vs := [_, _]) st.front2 ty_agg63 rfl rfl rfl rfl rfl rfl ?_ | refine WL.storeL (vs := [_, _]) st.front2 ty_agg63 rfl rfl rfl rfl (by first | decide | omega) rfl rfl ?_ | refine WL.storeW (vs := [_, _]) st.front3 ty_agg63 rfl rfl rfl rfl rfl rfl ?_ | refine WL.storeL (vs := [_, _]) st.front3 ty_agg63 rfl rfl rfl rfl (by first | decide | omega) rfl rfl ?_ | refine WL.storeW (vs := [_, _]) st.front4 ty_agg63 rfl rfl rfl rfl rfl rfl ?_ | refine WL.storeL (vs := [_, _]) st.front4 ty_agg63 rfl rfl rfl rfl (by first | decide | omega) rfl rfl ?_ | refine WL.storeW (vs := [_, _]) st.front5 ty_agg63 rfl rfl rfl rfl rfl rfl ?_ | refine WL.storeL (vs := [_, _]) st.front5 ty_agg63 rfl rfl rfl rfl (by first | decide | omega) rfl rfl ?_ | refine WL.storeW (vs := [_, _]) st.front6 ty_agg63 rfl rfl rfl rfl rfl rfl ?_ | refine WL.storeL (vs := [_, _]) st.front6 ty_agg63 rfl rfl rfl rfl (by first | decide | omega) rfl rfl ?_ | refine WL.storeW (vs := [_, _]) st.front7 ty_agg63 rfl rfl rfl rfl rfl rfl ?_ | refine WL.storeL (vs := [_, _]) st.front7 ty_agg63 rfl rfl rfl rfl (by first | decide | omega) rfl rfl ?_ | refine WL.storeW (vs := [_, _]) st.front8 ty_agg63 rfl rfl rfl rfl rfl rfl ?_ | refine WL.storeL (vs := [_, _]) st.front8 ty_agg63 rfl rfl rfl rfl (by first | decide | omega) rfl rfl ?_
      intro w st
      refine WL.fin hK69 (fun _ _ h => h) ?_
      refine WC.seq fun K70 hK70 => ?_
      refine WC.seq fun K71 hK71 => ?_
      -- region 5 (draws)
      refine WC.quietS st ty_mixed (by kernel_rfl) fun Kq hKq => ?_
      -- R5.0 22 := convert.go:113 move
      refine QL.v (fun w st => by first | exact r_move (v := .pointer _) rfl | exact r_move rfl) rfl rfl rfl ?_
      -- R5.1 23 := convert.go:113 fieldAddr
      refine QL.v (fun w st => by exact r_field ty_fld63_1 rfl) rfl rfl rfl ?_
      -- R5.2 24 := convert.go:113 load
      refine QL.v (fun w st => by exact r_load1 ty_one5 rfl (by first | assumption | exact st.c0 (by first | decide | omega) | exact st.c1 (by first | decide | omega) | exact st.c2 (by first | decide | omega) | exact st.c3 (by first | decide | omega) | exact st.c4 (by first | decide | omega) | exact st.c5 (by first | decide | omega) | exact st.c6 (by first | decide | omega) | exact st.c7 (by first | decide | omega) | exact st.c8 (by first | decide | omega))) rfl rfl rfl ?_
      -- R5.3 25 := convert.go:113 nilCheck
      refine QL.v (fun w st => by exact r_nilCheck rfl) rfl rfl rfl ?_
      -- R5.4 26 := convert.go:113 fieldAddr
      refine QL.v (fun w st => by exact r_field ty_fld27_0 rfl) rfl rfl rfl ?_
      -- R5.5 27 := convert.go:113 indexAddr
      refine QL.v (fun w st => by exact r_indexA (j := V i) ty_ar24 rfl rfl (by omega) (by omega)) rfl rfl rfl ?_
      -- R5.6 28 := convert.go:113 load
      refine QL.v (fun w st => by exact r_load1 ty_one21 rfl ((st.c1 (by omega)).trans (congrArg some hcv))) rfl rfl rfl ?_
      -- R5.7 29 := convert.go:113 binOp
      refine QL.v (fun w st => by first | exact r_eql rfl rfl (decide_eq_true (by omega)) | exact r_eql rfl rfl (decide_eq_false (by omega)) | exact r_eql rfl rfl rfl) rfl rfl rfl ?_
      refine QL.wl hKq fun w st => ?_
      refine WL.fin hK71 (fun _ _ h => h) ?_
      refine WC.condT rfl rfl ?_
      -- region 6
      refine WC.region ?_
      -- R6.0 30 := convert.go:114 move
      refine WL.v (by first | exact r_move (v := .int _ _) rfl | exact r_move rfl) rfl rfl rfl ?_
      -- R6.1 31 := convert.go:114 binOp
      refine WL.v (by exact r_add (r := ((d + 1 : Nat) : Int)) rfl rfl (by rw [wi64 (by omega) (by omega)]; omega)) rfl rfl rfl ?_
      -- R6.2 5 := convert.go:114 assign
      refine WL.v (by first | exact r_assign (v := .int _ _) rfl | exact r_assign rfl) rfl rfl rfl ?_
      refine WL.fin hK70 (fun _ _ h => h) ?_
      -- region 7 (draws)
      refine WC.tailS 11 st ty_mixed (by kernel_rfl) fun w st Kq hKq => ?_
      -- R7.0 32 := convert.go:116 move
      refine SL.v (by first | exact r_move (v := .pointer _) rfl | exact r_move rfl) rfl rfl rfl ?_
      -- R7.1 33 := convert.go:116 fieldAddr
      refine SL.v (by exact r_field ty_fld63_1 rfl) rfl rfl rfl ?_
      -- R7.2 34 := convert.go:116 load
      refine SL.v (by exact r_load1 ty_one5 rfl (by first | assumption | exact st.c0 (by first | decide | omega) | exact st.c1 (by first | decide | omega) | exact st.c2 (by first | decide | omega) | exact st.c3 (by first | decide | omega) | exact st.c4 (by first | decide | omega) | exact st.c5 (by first | decide | omega) | exact st.c6 (by first | decide | omega) | exact st.c7 (by first | decide | omega) | exact st.c8 (by first | decide | omega))) rfl rfl rfl ?_
      -- R7.3 35 := convert.go:116 nilCheck
      refine SL.v (by exact r_nilCheck rfl) rfl rfl rfl ?_
      -- R7.4 36 := convert.go:116 fieldAddr
      refine SL.v (by exact r_field ty_fld27_0 rfl) rfl rfl rfl ?_
      -- R7.5 37 := convert.go:116 indexAddr
      refine SL.v (by exact r_indexA (j := V i) ty_ar24 rfl rfl (by omega) (by omega)) rfl rfl rfl ?_
      -- R7.6 38 := convert.go:116 load
      refine SL.v (by exact r_load1 ty_one21 rfl ((st.c1 (by omega)).trans (congrArg some hcv))) rfl rfl rfl ?_
      -- R7.7 39 := convert.go:116 binOp
      refine SL.v (by exact r_add (r := ((cn V (V i) (i + 1) : Nat) : Int)) rfl rfl (by rw [wi32 (by omega) (by omega)]; omega)) rfl rfl rfl ?_
      -- R7.8 40 := convert.go:116 nilCheck
      refine SL.v (by exact r_nilCheck rfl) rfl rfl rfl ?_
      -- R7.9 41 := convert.go:116 fieldAddr
      refine SL.v (by exact r_field ty_fld27_0 rfl) rfl rfl rfl ?_
      -- R7.10 42 := convert.go:116 indexAddr
      refine SL.v (by exact r_indexA (j := V i) ty_ar24 rfl rfl (by omega) (by omega)) rfl rfl rfl ?_
      refine SL.fin hKq ?_
      -- R7.11 None := convert.go:116 store
      first | refine WL.store (v := .int _ _) st ty_one21 rfl rfl rfl (by first | decide | omega) rfl rfl ?_ | refine WL.store (v := _) st ty_one21 rfl rfl rfl (by first | decide | omega) rfl rfl ?_ | refine WL.store (v := .int _ _) st.front1 ty_one21 rfl rfl rfl (by first | decide | omega) rfl rfl ?_ | refine WL.store (v := _) st.front1 ty_one21 rfl rfl rfl (by first | decide | omega) rfl rfl ?_ | refine WL.store (v := .int _ _) st.front2 ty_one21 rfl rfl rfl (by first | decide | omega) rfl rfl ?_ | refine WL.store (v := _) st.front2 ty_one21 rfl rfl rfl (by first | decide | omega) rfl rfl ?_ | refine WL.store (v := .int _ _) st.front3 ty_one21 rfl rfl rfl (by first | decide | omega) rfl rfl ?_ | refine WL.store (v := _) st.front3 ty_one21 rfl rfl rfl (by first | decide | omega) rfl rfl ?_ | refine WL.store (v := .int _ _) st.front4 ty_one21 rfl rfl rfl (by first | decide | omega) rfl rfl ?_ | refine WL.store (v := _) st.front4 ty_one21 rfl rfl rfl (by first | decide | omega) rfl rfl ?_ | refine WL.store (v := .int _ _) st.front5 ty_one21 rfl rfl rfl (by first | decide | omega) rfl rfl ?_ | refine WL.store (v := _) st.front5 ty_one21 rfl rfl rfl (by first | decide | omega) rfl rfl ?_ | refine WL.store (v := .int _ _) st.front6 ty_one21 rfl rfl rfl (by first | decide | omega) rfl rfl ?_ | refine WL.store (v := _) st.front6 ty_one21 rfl rfl rfl (by first | decide | omega) rfl rfl ?_ | refine WL.store (v := .int _ _) st.front7 ty_one21 rfl rfl rfl (by first | decide | omega) rfl rfl ?_ | refine WL.store (v := _) st.front7 ty_one21 rfl rfl rfl (by first | decide | omega) rfl rfl ?_ | refine WL.store (v := .int _ _) st.front8 ty_one21 rfl rfl rfl (by first | decide | omega) rfl rfl ?_ | refine WL.store (v := _) st.front8 ty_one21 rfl rfl rfl (by first | decide | omega) rfl rfl ?_
      intro w st
      refine WL.fin hK68 (fun _ _ h => h) ?_
      -- region 8
      refine WC.region ?_
      -- R8.0 43 := convert.go:112 binOp
      refine WL.v (by first | exact r_add rfl rfl (wi64 (by omega) (by omega)) | exact r_add rfl rfl rfl) rfl rfl rfl ?_
      -- R8.1 18 := convert.go:112 move
      refine WL.v (by first | exact r_move (v := .int _ _) rfl | exact r_move rfl) rfl rfl rfl ?_
      refine WL.next hK1 (fun _ _ h => h) (i + 1, d + 1, _) ⟨st.drop1, by show i + 1 ≤ n; omega, hc', by show d + 1 = qn (lc V (i + 1)) 256; omega⟩ (by show n - (i + 1) < n - i; omega) (by repeat (first | exact sub_nil _ | refine sub_cons rfl rfl ?_))
    · rw [if_neg hz] at hds
      refine WC.seq fun K72 hK72 => ?_
      -- region 3
      refine WC.region ?_
      -- R3.0 19 := convert.go:112 binOp
      refine WL.v (by first | exact r_lss rfl rfl (decide_eq_true (by omega)) | exact r_lss rfl rfl (decide_eq_false (by omega)) | exact r_lss rfl rfl rfl) rfl rfl rfl ?_
      refine WL.fin hK72 (fun _ _ h => h) ?_
      refine WC.seq fun K73 hK73 => ?_
      refine WC.condT rfl rfl ?_
      refine WC.skipF hK73 (fun _ _ h => h) ?_
      refine WC.seq fun K74 hK74 => ?_
      refine WC.block ?_
      refine WC.seq fun K75 hK75 => ?_
      -- region 4
      refine WC.region ?_
      -- R4.0 20 := convert.go:112 indexAddr
      refine WL.v (by exact r_indexS ty_sl25 rfl rfl rfl (by omega)) rfl rfl rfl ?_
      -- R4.1 21 := convert.go:112 load
      refine WL.v (by exact r_loadL (vs := [_, _]) ty_agg63 rfl ⟨((hrd [_] _ st i hlt).1), ((hrd [_] _ st i hlt).2), trivial⟩) rfl rfl rfl ?_
      -- R4.2 7 := convert.go:112 alloc
      refine WL.alloc st ty_zero63 rfl rfl rfl ?_
      intro b7 w st
      -- R4.3 None := convert.go:112 store
      first | refine WL.storeW (vs := [_, _]) st ty_agg63 rfl rfl rfl rfl rfl rfl ?_ | refine WL.storeL (vs := [_, _]) st ty_agg63 rfl rfl rfl rfl (by first | decide | omega) rfl rfl ?_ | refine WL.storeW (vs := [_, _]) st.front1 ty_agg63 rfl rfl rfl rfl rfl rfl ?_ | refine WL.storeL (vs := [_, _]) st.front1 ty_agg63 rfl rfl rfl rfl (by first | decide | omega) rfl rfl ?_ | refine WL.storeW (vs := [_, _]) st.front2 ty_agg63 rfl rfl rfl rfl rfl rfl ?_ | refine WL.storeL (vs := [_, _]) st.front2 ty_agg63 rfl rfl rfl rfl (by first | decide | omega) rfl rfl ?_ | refine WL.storeW (vs := [_, _]) st.front3 ty_agg63 rfl rfl rfl rfl rfl rfl ?_ | refine WL.storeL (vs := [_, _]) st.front3 ty_agg63 rfl rfl rfl rfl (by first | decide | omega) rfl rfl ?_ | refine WL.storeW (vs := [_, _]) st.front4 ty_agg63 rfl rfl rfl rfl rfl rfl ?_ | refine WL.storeL (vs := [_, _]) st.front4 ty_agg63 rfl rfl rfl rfl (by first | decide | omega) rfl rfl ?_ | refine WL.storeW (vs := [_, _]) st.front5 ty_agg63 rfl rfl rfl rfl rfl rfl ?_ | refine WL.storeL (vs := [_, _]) st.front5 ty_agg63 rfl rfl rfl rfl (by first | decide | omega) rfl rfl ?_ | refine WL.storeW (vs := [_, _]) st.front6 ty_agg63 rfl rfl rfl rfl rfl rfl ?_ | refine WL.storeL (vs := [_, _]) st.front6 ty_agg63 rfl rfl rfl rfl (by first | decide | omega) rfl rfl ?_ | refine WL.storeW (vs := [_, _]) st.front7 ty_agg63 rfl rfl rfl rfl rfl rfl ?_ | refine WL.storeL (vs := [_, _]) st.front7 ty_agg63 rfl rfl rfl rfl (by first | decide | omega) rfl rfl ?_ | refine WL.storeW (vs := [_, _]) st.front8 ty_agg63 rfl rfl rfl rfl rfl rfl ?_ | refine WL.storeL (vs := [_, _]) st.front8 ty_agg63 rfl rfl rfl rfl (by first | decide | omega) rfl rfl ?_
      intro w st
      refine WL.fin hK75 (fun _ _ h => h) ?_
      refine WC.seq fun K76 hK76 => ?_
      refine WC.seq fun K77 hK77 => ?_
      -- region 5 (draws)
      refine WC.quietS st ty_mixed (by kernel_rfl) fun Kq hKq => ?_
      -- R5.0 22 := convert.go:113 move
      refine QL.v (fun w st => by first | exact r_move (v := .pointer _) rfl | exact r_move rfl) rfl rfl rfl ?_
      -- R5.1 23 := convert.go:113 fieldAddr
      refine QL.v (fun w st => by exact r_field ty_fld63_1 rfl) rfl rfl rfl ?_
      -- R5.2 24 := convert.go:113 load
      refine QL.v (fun w st => by exact r_load1 ty_one5 rfl (by first | assumption | exact st.c0 (by first | decide | omega) | exact st.c1 (by first | decide | omega) | exact st.c2 (by first | decide | omega) | exact st.c3 (by first | decide | omega) | exact st.c4 (by first | decide | omega) | exact st.c5 (by first | decide | omega) | exact st.c6 (by first | decide | omega) | exact st.c7 (by first | decide | omega) | exact st.c8 (by first | decide | omega))) rfl rfl rfl ?_
      -- R5.3 25 := convert.go:113 nilCheck
      refine QL.v (fun w st => by exact r_nilCheck rfl) rfl rfl rfl ?_
      -- R5.4 26 := convert.go:113 fieldAddr
      refine QL.v (fun w st => by exact r_field ty_fld27_0 rfl) rfl rfl rfl ?_
      -- R5.5 27 := convert.go:113 indexAddr
      refine QL.v (fun w st => by exact r_indexA (j := V i) ty_ar24 rfl rfl (by omega) (by omega)) rfl rfl rfl ?_
      -- R5.6 28 := convert.go:113 load
      refine QL.v (fun w st => by exact r_load1 ty_one21 rfl ((st.c1 (by omega)).trans (congrArg some hcv))) rfl rfl rfl ?_
      -- R5.7 29 := convert.go:113 binOp
      refine QL.v (fun w st => by first | exact r_eql rfl rfl (decide_eq_true (by omega)) | exact r_eql rfl rfl (decide_eq_false (by omega)) | exact r_eql rfl rfl rfl) rfl rfl rfl ?_
      refine QL.wl hKq fun w st => ?_
      refine WL.fin hK77 (fun _ _ h => h) ?_
      refine WC.condF rfl rfl ?_
      refine WC.skipF hK76 (fun _ _ h => h) ?_
      -- region 7 (draws)
      refine WC.tailS 11 st ty_mixed (by kernel_rfl) fun w st Kq hKq => ?_
      -- R7.0 32 := convert.go:116 move
      refine SL.v (by first | exact r_move (v := .pointer _) rfl | exact r_move rfl) rfl rfl rfl ?_
      -- R7.1 33 := convert.go:116 fieldAddr
      refine SL.v (by exact r_field ty_fld63_1 rfl) rfl rfl rfl ?_
      -- R7.2 34 := convert.go:116 load
      refine SL.v (by exact r_load1 ty_one5 rfl (by first | assumption | exact st.c0 (by first | decide | omega) | exact st.c1 (by first | decide | omega) | exact st.c2 (by first | decide | omega) | exact st.c3 (by first | decide | omega) | exact st.c4 (by first | decide | omega) | exact st.c5 (by first | decide | omega) | exact st.c6 (by first | decide | omega) | exact st.c7 (by first | decide | omega) | exact st.c8 (by first | decide | omega))) rfl rfl rfl ?_
      -- R7.3 35 := convert.go:116 nilCheck
      refine SL.v (by exact r_nilCheck rfl) rfl rfl rfl ?_
      -- R7.4 36 := convert.go:116 fieldAddr
      refine SL.v (by exact r_field ty_fld27_0 rfl) rfl rfl rfl ?_
      -- R7.5 37 := convert.go:116 indexAddr
      refine SL.v (by exact r_indexA (j := V i) ty_ar24 rfl rfl (by omega) (by omega)) rfl rfl rfl ?_
      -- R7.6 38 := convert.go:116 load
      refine SL.v (by exact r_load1 ty_one21 rfl ((st.c1 (by omega)).trans (congrArg some hcv))) rfl rfl rfl ?_
      -- R7.7 39 := convert.go:116 binOp
      refine SL.v (by exact r_add (r := ((cn V (V i) (i + 1) : Nat) : Int)) rfl rfl (by rw [wi32 (by omega) (by omega)]; omega)) rfl rfl rfl ?_
      -- R7.8 40 := convert.go:116 nilCheck
      refine SL.v (by exact r_nilCheck rfl) rfl rfl rfl ?_
      -- R7.9 41 := convert.go:116 fieldAddr
      refine SL.v (by exact r_field ty_fld27_0 rfl) rfl rfl rfl ?_
      -- R7.10 42 := convert.go:116 indexAddr
      refine SL.v (by exact r_indexA (j := V i) ty_ar24 rfl rfl (by omega) (by omega)) rfl rfl rfl ?_
      refine SL.fin hKq ?_
      -- R7.11 None := convert.go:116 store
      first | refine WL.store (v := .int _ _) st ty_one21 rfl rfl rfl (by first | decide | omega) rfl rfl ?_ | refine WL.store (v := _) st ty_one21 rfl rfl rfl (by first | decide | omega) rfl rfl ?_ | refine WL.store (v := .int _ _) st.front1 ty_one21 rfl rfl rfl (by first | decide | omega) rfl rfl ?_ | refine WL.store (v := _) st.front1 ty_one21 rfl rfl rfl (by first | decide | omega) rfl rfl ?_ | refine WL.store (v := .int _ _) st.front2 ty_one21 rfl rfl rfl (by first | decide | omega) rfl rfl ?_ | refine WL.store (v := _) st.front2 ty_one21 rfl rfl rfl (by first | decide | omega) rfl rfl ?_ | refine WL.store (v := .int _ _) st.front3 ty_one21 rfl rfl rfl (by first | decide | omega) rfl rfl ?_ | refine WL.store (v := _) st.front3 ty_one21 rfl rfl rfl (by first | decide | omega) rfl rfl ?_ | refine WL.store (v := .int _ _) st.front4 ty_one21 rfl rfl rfl (by first | decide | omega) rfl rfl ?_ | refine WL.store (v := _) st.front4 ty_one21 rfl rfl rfl (by first | decide | omega) rfl rfl ?_ | refine WL.store (v := .int _ _) st.front5 ty_one21 rfl rfl rfl (by first | decide | omega) rfl rfl ?_ | refine WL.store (v := _) st.front5 ty_one21 rfl rfl rfl (by first | decide | omega) rfl rfl ?_ | refine WL.store (v := .int _ _) st.front6 ty_one21 rfl rfl rfl (by first | decide | omega) rfl rfl ?_ | refine WL.store (v := _) st.front6 ty_one21 rfl rfl rfl (by first | decide | omega) rfl rfl ?_ | refine WL.store (v := .int _ _) st.front7 ty_one21 rfl rfl rfl (by first | decide | omega) rfl rfl ?_ | refine WL.store (v := _) st.front7 ty_one21 rfl rfl rfl (by first | decide | omega) rfl rfl ?_ | refine WL.store (v := .int _ _) st.front8 ty_one21 rfl rfl rfl (by first | decide | omega) rfl rfl ?_ | refine WL.store (v := _) st.front8 ty_one21 rfl rfl rfl (by first | decide | omega) rfl rfl ?_
      intro w st
      refine WL.fin hK74 (fun _ _ h => h) ?_
      -- region 8
      refine WC.region ?_
      -- R8.0 43 := convert.go:112 binOp
      refine WL.v (by first | exact r_add rfl rfl (wi64 (by omega) (by omega)) | exact r_add rfl rfl rfl) rfl rfl rfl ?_
      -- R8.1 18 := convert.go:112 move
      refine WL.v (by first | exact r_move (v := .int _ _) rfl | exact r_move rfl) rfl rfl rfl ?_
      refine WL.next hK1 (fun _ _ h => h) (i + 1, d, _) ⟨st.drop1, by show i + 1 ≤ n; omega, hc', by show d = qn (lc V (i + 1)) 256; omega⟩ (by show n - (i + 1) < n - i; omega) (by repeat (first | exact sub_nil _ | refine sub_cons rfl rfl ?_))
  · obtain rfl : i = n := by omega
    have hsum := bas_all V i hvn
    refine WC.seq fun K78 hK78 => ?_
    -- region 3
    refine WC.region ?_
    -- R3.0 19 := convert.go:112 binOp
    refine WL.v (by first | exact r_lss rfl rfl (decide_eq_true (by omega)) | exact r_lss rfl rfl (decide_eq_false (by omega)) | exact r_lss rfl rfl rfl) rfl rfl rfl ?_
    refine WL.fin hK78 (fun _ _ h => h) ?_
    refine WC.seq fun K79 hK79 => ?_
    refine WC.condF rfl rfl ?_
    refine WC.exitF hK64 (fun _ _ h => h) ?_
    refine WC.seq fun K80 hK80 => ?_
    -- region 9
    refine WC.region ?_
    -- R9.0 44 := convert.go:118 move
    refine WL.v (by first | exact r_move (v := .int _ _) rfl | exact r_move rfl) rfl rfl rfl ?_
    -- R9.1 45 := convert.go:118 makeSlice
    refine WL.make (len := 0) st ty_mk37 ty_zero60 rfl rfl (by first | rfl | omega) (by first | rfl | omega) (by omega) (by omega) (by omega) rfl rfl rfl rfl ?_
    intro b45 w st
    -- R9.2 8 := convert.go:118 assign
    refine WL.v (by first | exact r_assign (v := .slice _ _ _) rfl | exact r_assign rfl) rfl rfl rfl ?_
    refine WL.fin hK80 (fun _ _ h => h) ?_
    refine WC.seq fun K81 hK81 => ?_
    -- region 10
    refine WC.region ?_
    -- R10.0 46 := convert.go:119 move
    refine WL.v (by first | exact r_move (v := .slice _ _ _) rfl | exact r_move rfl) rfl rfl rfl ?_
    -- R10.1 47 := convert.go:119 call
    refine WL.v (by exact r_len ty_usl25 rfl) rfl rfl rfl ?_
    -- R10.2 48 := convert.go:119 makeSlice
    refine WL.make st ty_mk58 ty_zero50 rfl rfl (by first | rfl | omega) (by first | rfl | omega) (by omega) (by omega) (by omega) rfl rfl rfl rfl ?_
    intro b48 w st
    -- R10.3 9 := convert.go:119 assign
    refine WL.v (by first | exact r_assign (v := .slice _ _ _) rfl | exact r_assign rfl) rfl rfl rfl ?_
    refine WL.fin hK81 (fun _ _ h => h) ?_
    refine WC.seq fun K82 hK82 => ?_
    -- region 11
    refine WC.region ?_
    -- R11.0 10 := convert.go:120 assign
    refine WL.v (by first | exact r_assign (v := .int _ _) rfl | exact r_assign rfl) rfl rfl rfl ?_
    refine WL.fin hK82 (fun _ _ h => h) ?_
    refine WC.seq fun K83 hK83 => ?_
    refine WC.seq fun K84 hK84 => ?_
    -- region 12
    refine WC.region ?_
    -- R12.0 11 := convert.go:121 assign
    refine WL.v (by first | exact r_assign (v := .int _ _) rfl | exact r_assign rfl) rfl rfl rfl ?_
    refine WL.fin hK84 (fun _ _ h => h) ?_
    refine WC.block ?_
    subst hd
    generalize hcc : lc V i = c at hsum hq1 st ⊢
    have hqm := fun r => qn_mono c (r := r) (s := 256)
    have hsm := fun r => bas_mono c (r := r) (s := 256)
    have hcz : ∀ s, s < 256 → F1 (255 - s) = .int .i32 ((if s < 0 then 0 else c s : Nat) : Int) := fun s hs => by
      rw [hc.cnt (255 - s) (by omega), if_neg (by omega), ← hcc]; rfl
    refine WC.loop (ι := Nat × Nat × (Nat → Nat) × (Nat → Nat) × (Nat → Value) × (Nat → Value)) (fun z => [(0, .pointer (some ⟨cb, 0, none⟩)), (1, .slice (some ⟨lb, lo, none⟩) i lcap), (8, .slice (some ⟨b45, 0, none⟩) z.2.1 (qn c 256)), (9, .slice (some ⟨b48, 0, none⟩) i i),
        (10, .int .i64 ((bas c z.1 : Nat) : Int)), (11, .int .i64 (255 - (z.1 : Int)))])
      (fun z w' => St w0 M ((b48, Row 50 (i * 1) (zrow [.int .u32 0])) :: (b45, Row 60 (qn c 256 * 2) z.2.2.2.2.1) :: (cb, Row 27 513 z.2.2.2.2.2) :: L1) w' ∧ z.1 ≤ 256 ∧ Lv c z.1 z.2.1 z.2.2.1 z.2.2.2.1 ∧
        ConvC z.2.2.2.2.2 (fun v => if 255 - v < z.1 then 0 else c (255 - v)) fv ∧ (∀ t, t < z.2.1 → z.2.2.2.2.2 (256 + (255 - z.2.2.1 t)) = .int .i32 (t : Nat)) ∧ GZ z.2.2.2.2.1 b48 z.2.1 z.2.2.1 z.2.2.2.1 c (fun _ => 0))
      (fun z => 256 - z.1) (0, 0, (fun _ => 0), (fun _ => 0), _, F1) ⟨st, Nat.zero_le _, Lv.start' c, ⟨fun v hv => ?_, hc.grp, hc.few⟩, fun t ht => by simp only at ht; omega, fun t ht => by simp only at ht; omega⟩ ?_ ?_
    · have := hcz (255 - v) (by omega)
      rw [show 255 - (255 - v) = v by omega] at this
      exact this
    · skip
      repeat (first | exact sub_nil _ | refine sub_cons rfl rfl ?_)
    clear hcz hc
    rintro ⟨r, q, T, S, g, F2⟩ w ⟨st, hr, hL, hc, hidx, hg⟩ K2 hK2
    simp only at st hr hL hc hidx hg hK2 ⊢
    by_cases hlt2 : r < 256
    · have hcr : F2 (0 + 0 + (255 - r) * 1) = .int .i32 ((c r : Nat) : Int) := by
        rw [show 0 + 0 + (255 - r) * 1 = 255 - r by omega, hc.cnt (255 - r) (by omega), if_neg (by omega), show 255 - (255 - r) = r by omega]
      have hcn : c r ≤ i := by rw [← hcc]; exact cn_le V _ _
      have hs1 : bas c r + c r ≤ bas c 256 := hsm (r + 1) (by omega)
      have hql := hL.cnt
      have hq3 := hqm r (by omega)
      have hSq := hL.sq
      by_cases hz : c r = 0
      · have hst' : bas c r = bas c (r + 1) := by simp [bas, hz]
        refine WC.seq fun K85 hK85 => ?_
        refine WC.seq fun K86 hK86 => ?_
        -- region 13
        refine WC.region ?_
        -- R13.0 49 := convert.go:121 move
        refine WL.v (by first | exact r_move (v := .int _ _) rfl | exact r_move rfl) rfl rfl rfl ?_
        -- R13.1 50 := convert.go:121 binOp
        refine WL.v (by exact r_geq rfl rfl (decide_eq_true (by omega))) rfl rfl rfl ?_
        refine WL.fin hK86 (fun _ _ h => h) ?_
        refine WC.condT rfl rfl ?_
        refine WC.skipF hK85 (fun _ _ h => h) ?_
        refine WC.seq fun K87 hK87 => ?_
        refine WC.block ?_
        refine WC.seq fun K88 hK88 => ?_
        -- region 15
        refine WC.region ?_
        -- R15.0 53 := convert.go:122 move
        refine WL.v (by first | exact r_move (v := .pointer _) rfl | exact r_move rfl) rfl rfl rfl ?_
        -- R15.1 54 := convert.go:122 move
        refine WL.v (by first | exact r_move (v := .int _ _) rfl | exact r_move rfl) rfl rfl rfl ?_
        -- R15.2 55 := convert.go:122 nilCheck
        refine WL.v (by exact r_nilCheck rfl) rfl rfl rfl ?_
        -- R15.3 56 := convert.go:122 fieldAddr
        refine WL.v (by exact r_field ty_fld27_0 rfl) rfl rfl rfl ?_
        -- R15.4 57 := convert.go:122 indexAddr
        refine WL.v (by exact r_indexA (j := 255 - r) ty_ar24 rfl rfl (by omega) (by omega)) rfl rfl rfl ?_
        -- R15.5 58 := convert.go:122 load
        refine WL.v (by exact r_load1 ty_one21 rfl ((st.c2 (by omega)).trans (congrArg some hcr))) rfl rfl rfl ?_
        -- R15.6 59 := convert.go:122 convert
        refine WL.v (by first | exact r_conv ty_cv21_3 rfl (wi64 (by omega) (by omega)) | exact r_conv ty_cv21_3 rfl rfl) rfl rfl rfl ?_
        -- R15.7 12 := convert.go:122 assign
        refine WL.v (by first | exact r_assign (v := .int _ _) rfl | exact r_assign rfl) rfl rfl rfl ?_
        refine WL.fin hK88 (fun _ _ h => h) ?_
        refine WC.seq fun K89 hK89 => ?_
        refine WC.seq fun K90 hK90 => ?_
        -- region 16
        refine WC.region ?_
        -- R16.0 60 := convert.go:123 move
        refine WL.v (by first | exact r_move (v := .int _ _) rfl | exact r_move rfl) rfl rfl rfl ?_
        -- R16.1 61 := convert.go:123 binOp
        refine WL.v (by first | exact r_eql rfl rfl (decide_eq_true (by omega)) | exact r_eql rfl rfl (decide_eq_false (by omega)) | exact r_eql rfl rfl rfl) rfl rfl rfl ?_
        refine WL.fin hK90 (fun _ _ h => h) ?_
        refine WC.condT rfl rfl ?_
        refine WC.exitF hK87 (fun _ _ h => h) ?_
        -- region 14
        refine WC.region ?_
        -- R14.0 51 := convert.go:121 move
        refine WL.v (by first | exact r_move (v := .int _ _) rfl | exact r_move rfl) rfl rfl rfl ?_
        -- R14.1 52 := convert.go:121 binOp
        refine WL.v (by exact r_sub (r := 255 - ((r + 1 : Nat) : Int)) rfl rfl (by rw [wi64 (by omega) (by omega)]; omega)) rfl rfl rfl ?_
        -- R14.2 11 := convert.go:121 assign
        refine WL.v (by first | exact r_assign (v := .int _ _) rfl | exact r_assign rfl) rfl rfl rfl ?_
        rw [hst']
        refine WL.next hK2 (fun _ _ h => h) (r + 1, q, T, S, g, F2) ⟨st, by show r + 1 ≤ 256; omega, hL.skip hz, ⟨fun v hv => ?_, hc.grp, hc.few⟩, hidx, hg⟩ (by show 256 - (r + 1) < 256 - r; omega) (by repeat (first | exact sub_nil _ | refine sub_cons rfl rfl ?_))
        show F2 v = .int .i32 ((if 255 - v < r + 1 then 0 else c (255 - v) : Nat) : Int)
        rw [hc.cnt v hv]
        by_cases h1 : 255 - v < r
        · rw [if_pos h1, if_pos (by omega)]
        · by_cases h2 : 255 - v = r
          · rw [if_neg h1, if_pos (by omega), h2, hz]
          · rw [if_neg h1, if_neg (by omega)]
      · have hqs : qn c (r + 1) = qn c r + 1 := by simp only [qn]; rw [if_pos (by omega)]
        have hq4 := hqm (r + 1) (by omega)
        have hc2 : ConvC (upd (upd F2 (0 + 0 + (255 - r) * 1) (.int .i32 ((0 : Nat) : Int))) (0 + 256 + (255 - r) * 1) (.int .i32 (q : Nat))) (fun v => if 255 - v < r + 1 then 0 else c (255 - v)) fv :=
          (hc.set (c' := fun v => if 255 - v < r + 1 then 0 else c (255 - v)) (show 255 - r < 256 by omega) fun u hu => by
            by_cases h2 : u = 255 - r
            · rw [if_pos h2, if_pos (by omega)]
            · rw [if_neg h2]
              by_cases h1 : 255 - u < r
              · rw [if_pos h1, if_pos (by omega)]
              · rw [if_neg h1, if_neg (by omega)]).setg (by omega) _
        refine WC.seq fun K91 hK91 => ?_
        refine WC.seq fun K92 hK92 => ?_
        -- region 13
        refine WC.region ?_
        -- R13.0 49 := convert.go:121 move
        refine WL.v (by first | exact r_move (v := .int _ _) rfl | exact r_move rfl) rfl rfl rfl ?_
        -- R13.1 50 := convert.go:121 binOp
        refine WL.v (by exact r_geq rfl rfl (decide_eq_true (by omega))) rfl rfl rfl ?_
        refine WL.fin hK92 (fun _ _ h => h) ?_
        refine WC.condT rfl rfl ?_
        refine WC.skipF hK91 (fun _ _ h => h) ?_
        refine WC.seq fun K93 hK93 => ?_
        refine WC.block ?_
        refine WC.seq fun K94 hK94 => ?_
        -- region 15
        refine WC.region ?_
        -- R15.0 53 := convert.go:122 move
        refine WL.v (by first | exact r_move (v := .pointer _) rfl | exact r_move rfl) rfl rfl rfl ?_
        -- R15.1 54 := convert.go:122 move
        refine WL.v (by first | exact r_move (v := .int _ _) rfl | exact r_move rfl) rfl rfl rfl ?_
        -- R15.2 55 := convert.go:122 nilCheck
        refine WL.v (by exact r_nilCheck rfl) rfl rfl rfl ?_
        -- R15.3 56 := convert.go:122 fieldAddr
        refine WL.v (by exact r_field ty_fld27_0 rfl) rfl rfl rfl ?_
        -- R15.4 57 := convert.go:122 indexAddr
        refine WL.v (by exact r_indexA (j := 255 - r) ty_ar24 rfl rfl (by omega) (by omega)) rfl rfl rfl ?_
        -- R15.5 58 := convert.go:122 load
        refine WL.v (by exact r_load1 ty_one21 rfl ((st.c2 (by omega)).trans (congrArg some hcr))) rfl rfl rfl ?_
        -- R15.6 59 := convert.go:122 convert
        refine WL.v (by first | exact r_conv ty_cv21_3 rfl (wi64 (by omega) (by omega)) | exact r_conv ty_cv21_3 rfl rfl) rfl rfl rfl ?_
        -- R15.7 12 := convert.go:122 assign
        refine WL.v (by first | exact r_assign (v := .int _ _) rfl | exact r_assign rfl) rfl rfl rfl ?_
        refine WL.fin hK94 (fun _ _ h => h) ?_
        refine WC.seq fun K95 hK95 => ?_
        refine WC.seq fun K96 hK96 => ?_
        -- region 16
        refine WC.region ?_
        -- R16.0 60 := convert.go:123 move
        refine WL.v (by first | exact r_move (v := .int _ _) rfl | exact r_move rfl) rfl rfl rfl ?_
        -- R16.1 61 := convert.go:123 binOp
        refine WL.v (by first | exact r_eql rfl rfl (decide_eq_true (by omega)) | exact r_eql rfl rfl (decide_eq_false (by omega)) | exact r_eql rfl rfl rfl) rfl rfl rfl ?_
        refine WL.fin hK96 (fun _ _ h => h) ?_
        refine WC.condF rfl rfl ?_
        refine WC.skipF hK95 (fun _ _ h => h) ?_
        refine WC.seq fun K97 hK97 => ?_
        -- region 17
        refine WC.region ?_
        -- R17.0 62 := convert.go:126 move
        refine WL.v (by first | exact r_move (v := .pointer _) rfl | exact r_move rfl) rfl rfl rfl ?_
        -- R17.1 63 := convert.go:126 move
        refine WL.v (by first | exact r_move (v := .int _ _) rfl | exact r_move rfl) rfl rfl rfl ?_
        -- R17.2 64 := convert.go:126 nilCheck
        refine WL.v (by exact r_nilCheck rfl) rfl rfl rfl ?_
        -- R17.3 65 := convert.go:126 fieldAddr
        refine WL.v (by exact r_field ty_fld27_0 rfl) rfl rfl rfl ?_
        -- R17.4 66 := convert.go:126 indexAddr
        refine WL.v (by exact r_indexA (j := 255 - r) ty_ar24 rfl rfl (by omega) (by omega)) rfl rfl rfl ?_
        -- R17.5 None := convert.go:126 store
        first | refine WL.store (v := .int _ _) st ty_one21 rfl rfl rfl (by first | decide | omega) rfl rfl ?_ | refine WL.store (v := _) st ty_one21 rfl rfl rfl (by first | decide | omega) rfl rfl ?_ | refine WL.store (v := .int _ _) st.front1 ty_one21 rfl rfl rfl (by first | decide | omega) rfl rfl ?_ | refine WL.store (v := _) st.front1 ty_one21 rfl rfl rfl (by first | decide | omega) rfl rfl ?_ | refine WL.store (v := .int _ _) st.front2 ty_one21 rfl rfl rfl (by first | decide | omega) rfl rfl ?_ | refine WL.store (v := _) st.front2 ty_one21 rfl rfl rfl (by first | decide | omega) rfl rfl ?_ | refine WL.store (v := .int _ _) st.front3 ty_one21 rfl rfl rfl (by first | decide | omega) rfl rfl ?_ | refine WL.store (v := _) st.front3 ty_one21 rfl rfl rfl (by first | decide | omega) rfl rfl ?_ | refine WL.store (v := .int _ _) st.front4 ty_one21 rfl rfl rfl (by first | decide | omega) rfl rfl ?_ | refine WL.store (v := _) st.front4 ty_one21 rfl rfl rfl (by first | decide | omega) rfl rfl ?_ | refine WL.store (v := .int _ _) st.front5 ty_one21 rfl rfl rfl (by first | decide | omega) rfl rfl ?_ | refine WL.store (v := _) st.front5 ty_one21 rfl rfl rfl (by first | decide | omega) rfl rfl ?_ | refine WL.store (v := .int _ _) st.front6 ty_one21 rfl rfl rfl (by first | decide | omega) rfl rfl ?_ | refine WL.store (v := _) st.front6 ty_one21 rfl rfl rfl (by first | decide | omega) rfl rfl ?_ | refine WL.store (v := .int _ _) st.front7 ty_one21 rfl rfl rfl (by first | decide | omega) rfl rfl ?_ | refine WL.store (v := _) st.front7 ty_one21 rfl rfl rfl (by first | decide | omega) rfl rfl ?_ | refine WL.store (v := .int _ _) st.front8 ty_one21 rfl rfl rfl (by first | decide | omega) rfl rfl ?_ | refine WL.store (v := _) st.front8 ty_one21 rfl rfl rfl (by first | decide | omega) rfl rfl ?_
        intro w st
        refine WL.fin hK97 (fun _ _ h => h) ?_
        refine WC.seq fun K98 hK98 => ?_
        -- region 18
        refine WC.region ?_
        -- R18.0 67 := convert.go:127 move
        refine WL.v (by first | exact r_move (v := .pointer _) rfl | exact r_move rfl) rfl rfl rfl ?_
        -- R18.1 68 := convert.go:127 move
        refine WL.v (by first | exact r_move (v := .int _ _) rfl | exact r_move rfl) rfl rfl rfl ?_
        -- R18.2 69 := convert.go:127 move
        refine WL.v (by first | exact r_move (v := .slice _ _ _) rfl | exact r_move rfl) rfl rfl rfl ?_
        -- R18.3 70 := convert.go:127 call
        refine WL.v (by exact r_len ty_usl37 rfl) rfl rfl rfl ?_
        -- R18.4 71 := convert.go:127 convert
        refine WL.v (by first | exact r_conv ty_cv3_21 rfl (wi32 (by omega) (by omega)) | exact r_conv ty_cv3_21 rfl rfl) rfl rfl rfl ?_
        -- R18.5 72 := convert.go:127 nilCheck
        refine WL.v (by exact r_nilCheck rfl) rfl rfl rfl ?_
        -- R18.6 73 := convert.go:127 fieldAddr
        refine WL.v (by exact r_field ty_fld27_1 rfl) rfl rfl rfl ?_
        -- R18.7 74 := convert.go:127 indexAddr
        refine WL.v (by exact r_indexA (j := 255 - r) ty_ar24 rfl rfl (by omega) (by omega)) rfl rfl rfl ?_
        -- R18.8 None := convert.go:127 store
        first | refine WL.store (v := .int _ _) st ty_one21 rfl rfl rfl (by first | decide | omega) rfl rfl ?_ | refine WL.store (v := _) st ty_one21 rfl rfl rfl (by first | decide | omega) rfl rfl ?_ | refine WL.store (v := .int _ _) st.front1 ty_one21 rfl rfl rfl (by first | decide | omega) rfl rfl ?_ | refine WL.store (v := _) st.front1 ty_one21 rfl rfl rfl (by first | decide | omega) rfl rfl ?_ | refine WL.store (v := .int _ _) st.front2 ty_one21 rfl rfl rfl (by first | decide | omega) rfl rfl ?_ | refine WL.store (v := _) st.front2 ty_one21 rfl rfl rfl (by first | decide | omega) rfl rfl ?_ | refine WL.store (v := .int _ _) st.front3 ty_one21 rfl rfl rfl (by first | decide | omega) rfl rfl ?_ | refine WL.store (v := _) st.front3 ty_one21 rfl rfl rfl (by first | decide | omega) rfl rfl ?_ | refine WL.store (v := .int _ _) st.front4 ty_one21 rfl rfl rfl (by first | decide | omega) rfl rfl ?_ | refine WL.store (v := _) st.front4 ty_one21 rfl rfl rfl (by first | decide | omega) rfl rfl ?_ | refine WL.store (v := .int _ _) st.front5 ty_one21 rfl rfl rfl (by first | decide | omega) rfl rfl ?_ | refine WL.store (v := _) st.front5 ty_one21 rfl rfl rfl (by first | decide | omega) rfl rfl ?_ | refine WL.store (v := .int _ _) st.front6 ty_one21 rfl rfl rfl (by first | decide | omega) rfl rfl ?_ | refine WL.store (v := _) st.front6 ty_one21 rfl rfl rfl (by first | decide | omega) rfl rfl ?_ | refine WL.store (v := .int _ _) st.front7 ty_one21 rfl rfl rfl (by first | decide | omega) rfl rfl ?_ | refine WL.store (v := _) st.front7 ty_one21 rfl rfl rfl (by first | decide | omega) rfl rfl ?_ | refine WL.store (v := .int _ _) st.front8 ty_one21 rfl rfl rfl (by first | decide | omega) rfl rfl ?_ | refine WL.store (v := _) st.front8 ty_one21 rfl rfl rfl (by first | decide | omega) rfl rfl ?_
        intro w st
        refine WL.fin hK98 (fun _ _ h => h) ?_
        refine WC.seq fun K99 hK99 => ?_
        -- region 19
        refine WC.region ?_
        -- R19.0 75 := convert.go:128 move
        refine WL.v (by first | exact r_move (v := .slice _ _ _) rfl | exact r_move rfl) rfl rfl rfl ?_
        -- R19.1 76 := convert.go:128 move
        refine WL.v (by first | exact r_move (v := .int _ _) rfl | exact r_move rfl) rfl rfl rfl ?_
        -- R19.2 77 := convert.go:128 convert
        refine WL.v (by exact r_conv (r := ((255 - r : Nat) : Int)) ty_cv3_5 rfl (by rw [wu8 (by omega) (by omega)]; omega)) rfl rfl rfl ?_
        -- R19.3 78 := convert.go:128 move
        refine WL.v (by first | exact r_move (v := .slice _ _ _) rfl | exact r_move rfl) rfl rfl rfl ?_
        -- R19.4 79 := convert.go:128 move
        refine WL.v (by first | exact r_move (v := .int _ _) rfl | exact r_move rfl) rfl rfl rfl ?_
        -- R19.5 80 := convert.go:128 move
        refine WL.v (by first | exact r_move (v := .int _ _) rfl | exact r_move rfl) rfl rfl rfl ?_
        -- R19.6 81 := convert.go:128 move
        refine WL.v (by first | exact r_move (v := .int _ _) rfl | exact r_move rfl) rfl rfl rfl ?_
        -- R19.7 82 := convert.go:128 move
        refine WL.v (by first | exact r_move (v := .int _ _) rfl | exact r_move rfl) rfl rfl rfl ?_
        -- R19.8 83 := convert.go:128 binOp
        refine WL.v (by exact r_add (r := ((bas c r + c r : Nat) : Int)) rfl rfl (by rw [wi64 (by omega) (by omega)]; omega)) rfl rfl rfl ?_
        -- R19.9 84 := convert.go:128 slice
        refine WL.v (by exact r_slice_lohimx (jl := bas c r) (jh := bas c r) (jm := bas c r + c r) ty_sl58 rfl rfl rfl rfl rfl rfl rfl (by omega) (by omega) (by omega) (by omega)) rfl rfl rfl ?_
        -- R19.10 85 := convert.go:128 build
        refine WL.v (by first | exact r_build (vs := [.int _ _, .slice _ _ _]) ty_pl60 ty_zero60 rfl rfl | exact r_build (vs := [_, _]) ty_pl60 ty_zero60 rfl rfl | exact r_build ty_pl60 ty_zero60 rfl rfl) rfl rfl rfl ?_
        -- R19.11 86 := convert.go:128 buildSlice
        first | refine WL.mkslice (m := 2) (vs := [.int _ _, .slice _ _ _]) st ty_sl37 ty_zero60 rfl rfl rfl rfl rfl rfl ?_ | refine WL.mkslice (m := 2) (vs := [_, _]) st ty_sl37 ty_zero60 rfl rfl rfl rfl rfl rfl ?_ | refine WL.mkslice st ty_sl37 ty_zero60 rfl rfl rfl rfl rfl rfl ?_
        intro b86 w st
        -- R19.12 87 := convert.go:128 call
        refine WL.appendR (m := 1) st.front3 ty_sl37 rfl rfl (by omega) (by omega) (fun j hj => st.c0 (by omega)) (fun j hj => ?_) rfl rfl rfl ?_
        · match j, hj with
          | 0, _ => rfl
          | 1, _ => rfl
        intro w st
        -- R19.13 8 := convert.go:128 assign
        refine WL.v (by first | exact r_assign (v := .slice _ _ _) rfl | exact r_assign rfl) rfl rfl rfl ?_
        refine WL.fin hK99 (fun _ _ h => h) ?_
        -- region 20
        refine WC.region ?_
        -- R20.0 88 := convert.go:129 move
        refine WL.v (by first | exact r_move (v := .int _ _) rfl | exact r_move rfl) rfl rfl rfl ?_
        -- R20.1 89 := convert.go:129 move
        refine WL.v (by first | exact r_move (v := .int _ _) rfl | exact r_move rfl) rfl rfl rfl ?_
        -- R20.2 90 := convert.go:129 binOp
        refine WL.v (by exact r_add (r := ((bas c r + c r : Nat) : Int)) rfl rfl (by rw [wi64 (by omega) (by omega)]; omega)) rfl rfl rfl ?_
        -- R20.3 10 := convert.go:129 assign
        refine WL.v (by first | exact r_assign (v := .int _ _) rfl | exact r_assign rfl) rfl rfl rfl ?_
        refine WL.fin hK93 (fun _ _ h => h) ?_
        -- region 14
        refine WC.region ?_
        -- R14.0 51 := convert.go:121 move
        refine WL.v (by first | exact r_move (v := .int _ _) rfl | exact r_move rfl) rfl rfl rfl ?_
        -- R14.1 52 := convert.go:121 binOp
        refine WL.v (by exact r_sub (r := 255 - ((r + 1 : Nat) : Int)) rfl rfl (by rw [wi64 (by omega) (by omega)]; omega)) rfl rfl rfl ?_
        -- R14.2 11 := convert.go:121 assign
        refine WL.v (by first | exact r_assign (v := .int _ _) rfl | exact r_assign rfl) rfl rfl rfl ?_
        refine WL.next hK2 (fun _ _ h => h) (r + 1, q + 1, (fun t => if t < q then T t else r), (fun t => if t ≤ q then S t else bas c r + c r), _, _) ⟨st.drop1.front2, by show r + 1 ≤ 256; omega, hL.take (by omega), hc2, fun t ht => ?_, ?_⟩ (by show 256 - (r + 1) < 256 - r; omega) (by repeat (first | exact sub_nil _ | refine sub_cons rfl rfl ?_))
        · have ht : t < q + 1 := ht
          show upd (upd F2 (0 + 0 + (255 - r) * 1) (.int .i32 0)) (0 + 256 + (255 - r) * 1) (.int .i32 (q : Nat)) (256 + (255 - (if t < q then T t else r))) = .int .i32 (t : Nat)
          simp only [upd_eq]
          by_cases htq : t = q
          · subst htq; rw [if_neg (show ¬ t < t by omega), if_pos (show 256 + (255 - r) = 0 + 256 + (255 - r) * 1 by omega)]
          · have h5 := (hL.lt t (by omega)).1
            rw [if_pos (show t < q by omega), if_neg (show ¬ 256 + (255 - T t) = 0 + 256 + (255 - r) * 1 by omega), if_neg (show ¬ 256 + (255 - T t) = 0 + 0 + (255 - r) * 1 by omega)]
            exact hidx t (by omega)
        · exact hg.more (news := fun j => nth [.int .u8 ((255 - r : Nat) : Int), .slice (some ⟨b48, 0 + bas c r * 1, none⟩) (bas c r - bas c r) (bas c r + c r - bas c r)] (0 + j)) rfl (by rw [hSq, show bas c r + c r - bas c r = c r by omega, show bas c r - bas c r = 0 by omega]; rfl)
    · obtain rfl : r = 256 := by omega
      have hF2 : ConvF F2 fv := ⟨fun v hv => by rw [hc.cnt v hv, if_pos (by omega)]; rfl, hc.grp, hc.few⟩
      have hql := hL.cnt
      refine WC.seq fun K100 hK100 => ?_
      refine WC.seq fun K101 hK101 => ?_
      -- region 13
      refine WC.region ?_
      -- R13.0 49 := convert.go:121 move
      refine WL.v (by first | exact r_move (v := .int _ _) rfl | exact r_move rfl) rfl rfl rfl ?_
      -- R13.1 50 := convert.go:121 binOp
      refine WL.v (by exact r_geq rfl rfl (decide_eq_false (by omega))) rfl rfl rfl ?_
      refine WL.fin hK101 (fun _ _ h => h) ?_
      refine WC.condF rfl rfl ?_
      refine WC.exitF hK83 (fun _ _ h => h) ?_
      refine WC.seq fun K102 hK102 => ?_
      refine WC.seq fun K103 hK103 => ?_
      -- region 21
      refine WC.region ?_
      -- R21.0 91 := convert.go:131 move
      refine WL.v (by first | exact r_move (v := .slice _ _ _) rfl | exact r_move rfl) rfl rfl rfl ?_
      -- R21.1 92 := convert.go:131 call
      refine WL.v (by exact r_len ty_usl25 rfl) rfl rfl rfl ?_
      -- R21.2 93 := convert.go:131 move
      refine WL.v (by first | exact r_move (v := .int _ _) rfl | exact r_move rfl) rfl rfl rfl ?_
      refine WL.fin hK103 (fun _ _ h => h) ?_
      refine WC.block ?_
      refine WC.loop (ι := Nat × (Nat → Pr) × (Nat → Value) × (Nat → Value)) (fun z => [(0, .pointer (some ⟨cb, 0, none⟩)), (8, .slice (some ⟨b45, 0, none⟩) q (qn c 256)), (91, .slice (some ⟨lb, lo, none⟩) i lcap), (92, .int .i64 (i : Nat)), (93, .int .i64 (z.1 : Nat))])
        (fun z w' => St w0 M ((b45, Row 60 (qn c 256 * 2) z.2.2.1) :: (b48, Row 50 (i * 1) z.2.2.2) :: (cb, Row 27 513 F2) :: L1) w' ∧ z.1 ≤ i ∧ Dealt V X i z.1 z.2.1 ∧ GZ z.2.2.1 b48 q T S c (lc V z.1) ∧
          (∀ s, s < 256 → ∀ j, j < lc V z.1 s → z.2.2.2 (0 + (bas c s + j) * 1) = .int .u32 (z.2.1 (bas c s + j)).1))
        (fun z => i - z.1) (0, (fun _ => (0, 0)), g, _) ⟨st.front1, Nat.zero_le _, Dealt.start' V X _ i, hg, fun s hs j hj => absurd hj (Nat.not_lt_zero _)⟩ ?_ ?_
      · skip
        repeat (first | exact sub_nil _ | refine sub_cons rfl rfl ?_)
      rintro ⟨k, A, g3, fd⟩ w ⟨st, hk, hD, hg3, hfd⟩ K3 hK3
      simp only at st hk hD hg3 hfd hK3 ⊢
      by_cases hlt3 : k < i
      · obtain ⟨hv1, hv2⟩ := hV k hlt3
        have hcl := lc_lt V hlt3 hv2
        have hcm := fun s => lc_mono V hk s
        have hnew := hD.deal hlt3 hv2 hv1 hX
        rw [hcc] at hcl hcm hnew
        obtain ⟨t0, ht0, hT0⟩ := hL.has (255 - V k) (by omega) (by omega)
        have hS0 := hL.at_ t0 ht0
        have hb0 : bas c (255 - V k) + c (255 - V k) ≤ bas c 256 := hsm (255 - V k + 1) (by omega)
        have hix : F2 (0 + 256 + V k * 1) = .int .i32 (t0 : Nat) := by
          have := hidx t0 ht0
          rwa [hT0, show 256 + (255 - (255 - V k)) = 0 + 256 + V k * 1 by omega] at this
        obtain ⟨hg1, hg2⟩ := hg3 t0 ht0
        rw [hT0] at hg2 hS0
        refine WC.seq fun K104 hK104 => ?_
        -- region 22
        refine WC.region ?_
        -- R22.0 94 := convert.go:131 binOp
        refine WL.v (by first | exact r_lss rfl rfl (decide_eq_true (by omega)) | exact r_lss rfl rfl (decide_eq_false (by omega)) | exact r_lss rfl rfl rfl) rfl rfl rfl ?_
        refine WL.fin hK104 (fun _ _ h => h) ?_
        refine WC.seq fun K105 hK105 => ?_
        refine WC.condT rfl rfl ?_
        refine WC.skipF hK105 (fun _ _ h => h) ?_
        refine WC.seq fun K106 hK106 => ?_
        refine WC.block ?_
        refine WC.seq fun K107 hK107 => ?_
        -- region 23
        refine WC.region ?_
        -- R23.0 95 := convert.go:131 indexAddr
        refine WL.v (by exact r_indexS ty_sl25 rfl rfl rfl (by omega)) rfl rfl rfl ?_
        -- R23.1 96 := convert.go:131 load
        refine WL.v (by exact r_loadL (vs := [_, _]) ty_agg63 rfl ⟨((hrd [_, _, _] _ st k hlt3).1), ((hrd [_, _, _] _ st k hlt3).2), trivial⟩) rfl rfl rfl ?_
        -- R23.2 14 := convert.go:131 alloc
        refine WL.alloc st ty_zero63 rfl rfl rfl ?_
        intro b14 w st
        -- R23.3 None := convert.go:131 store
        first | refine WL.storeW (vs := [_, _]) st ty_agg63 rfl rfl rfl rfl rfl rfl ?_ | refine WL.storeL (vs := [_, _]) st ty_agg63 rfl rfl rfl rfl (by first | decide | omega) rfl rfl ?_ | refine WL.storeW (vs := [_, _]) st.front1 ty_agg63 rfl rfl rfl rfl rfl rfl ?_ | refine WL.storeL (vs := [_, _]) st.front1 ty_agg63 rfl rfl rfl rfl (by first | decide | omega) rfl rfl ?_ | refine WL.storeW (vs := [_, _]) st.front2 ty_agg63 rfl rfl rfl rfl rfl rfl ?_ | refine WL.storeL (vs := [_, _]) st.front2 ty_agg63 rfl rfl rfl rfl (by first | decide | omega) rfl rfl ?_ | refine WL.storeW (vs := [_, _]) st.front3 ty_agg63 rfl rfl rfl rfl rfl rfl ?_ | refine WL.storeL (vs := [_, _]) st.front3 ty_agg63 rfl rfl rfl rfl (by first | decide | omega) rfl rfl ?_ | refine WL.storeW (vs := [_, _]) st.front4 ty_agg63 rfl rfl rfl rfl rfl rfl ?_ | refine WL.storeL (vs := [_, _]) st.front4 ty_agg63 rfl rfl rfl rfl (by first | decide | omega) rfl rfl ?_ | refine WL.storeW (vs := [_, _]) st.front5 ty_agg63 rfl rfl rfl rfl rfl rfl ?_ | refine WL.storeL (vs := [_, _]) st.front5 ty_agg63 rfl rfl rfl rfl (by first | decide | omega) rfl rfl ?_ | refine WL.storeW (vs := [_, _]) st.front6 ty_agg63 rfl rfl rfl rfl rfl rfl ?_ | refine WL.storeL (vs := [_, _]) st.front6 ty_agg63 rfl rfl rfl rfl (by first | decide | omega) rfl rfl ?_ | refine WL.storeW (vs := [_, _]) st.front7 ty_agg63 rfl rfl rfl rfl rfl rfl ?_ | refine WL.storeL (vs := [_, _]) st.front7 ty_agg63 rfl rfl rfl rfl (by first | decide | omega) rfl rfl ?_ | refine WL.storeW (vs := [_, _]) st.front8 ty_agg63 rfl rfl rfl rfl rfl rfl ?_ | refine WL.storeL (vs := [_, _]) st.front8 ty_agg63 rfl rfl rfl rfl (by first | decide | omega) rfl rfl ?_
        intro w st
        refine WL.fin hK107 (fun _ _ h => h) ?_
        refine WC.seq fun K108 hK108 => ?_
        -- region 24 (draws)
        refine WC.quietS st ty_mixed (by kernel_rfl) fun Kq hKq => ?_
        -- R24.0 97 := convert.go:132 move
        refine QL.v (fun w st => by first | exact r_move (v := .slice _ _ _) rfl | exact r_move rfl) rfl rfl rfl ?_
        -- R24.1 98 := convert.go:132 move
        refine QL.v (fun w st => by first | exact r_move (v := .pointer _) rfl | exact r_move rfl) rfl rfl rfl ?_
        -- R24.2 99 := convert.go:132 fieldAddr
        refine QL.v (fun w st => by exact r_field ty_fld63_1 rfl) rfl rfl rfl ?_
        -- R24.3 100 := convert.go:132 load
        refine QL.v (fun w st => by exact r_load1 ty_one5 rfl (by first | assumption | exact st.c0 (by first | decide | omega) | exact st.c1 (by first | decide | omega) | exact st.c2 (by first | decide | omega) | exact st.c3 (by first | decide | omega) | exact st.c4 (by first | decide | omega) | exact st.c5 (by first | decide | omega) | exact st.c6 (by first | decide | omega) | exact st.c7 (by first | decide | omega) | exact st.c8 (by first | decide | omega))) rfl rfl rfl ?_
        -- R24.4 101 := convert.go:132 nilCheck
        refine QL.v (fun w st => by exact r_nilCheck rfl) rfl rfl rfl ?_
        -- R24.5 102 := convert.go:132 fieldAddr
        refine QL.v (fun w st => by exact r_field ty_fld27_1 rfl) rfl rfl rfl ?_
        -- R24.6 103 := convert.go:132 indexAddr
        refine QL.v (fun w st => by exact r_indexA (j := V k) ty_ar24 rfl rfl (by omega) (by omega)) rfl rfl rfl ?_
        -- R24.7 104 := convert.go:132 load
        refine QL.v (fun w st => by exact r_load1 ty_one21 rfl ((st.c3 (by omega)).trans (congrArg some hix))) rfl rfl rfl ?_
        -- R24.8 105 := convert.go:132 indexAddr
        refine QL.v (fun w st => by exact r_indexS (j := t0) ty_sl37 rfl rfl (by omega) (by omega)) rfl rfl rfl ?_
        -- R24.9 15 := convert.go:132 assign
        refine QL.v (fun w st => by first | exact r_assign (v := .pointer _) rfl | exact r_assign rfl) rfl rfl rfl ?_
        refine QL.wl hKq fun w st => ?_
        refine WL.fin hK108 (fun _ _ h => h) ?_
        -- region 25 (draws)
        refine WC.heldS2 [8, 9, 10, 11] [1, 2, 3, 4, 5, 6] [0] [7, 8, 9, 10, 11] st (st.drop2) ty_mixed (by kernel_rfl) fun w st Kq Kq2 hKq hKq2 => ?_
        -- R25.1 107 := convert.go:133 move
        refine HL.v (fun w st => by first | exact r_move (v := .pointer _) rfl | exact r_move rfl) rfl rfl rfl ?_
        -- R25.2 108 := convert.go:133 nilCheck
        refine HL.v (fun w st => by exact r_nilCheck rfl) rfl rfl rfl ?_
        -- R25.3 109 := convert.go:133 fieldAddr
        refine HL.v (fun w st => by exact r_field ty_fld60_1 rfl) rfl rfl rfl ?_
        -- R25.4 110 := convert.go:133 load
        refine HL.v (fun w st => by exact r_load1 ty_one58 rfl ((st.c1 (by omega)).trans (congrArg some hg2))) rfl rfl rfl ?_
        -- R25.5 111 := convert.go:133 fieldAddr
        refine HL.v (fun w st => by exact r_field ty_fld63_0 rfl) rfl rfl rfl ?_
        -- R25.6 112 := convert.go:133 load
        refine HL.v (fun w st => by exact r_load1 ty_one50 rfl (by first | assumption | exact st.c0 (by first | decide | omega) | exact st.c1 (by first | decide | omega) | exact st.c2 (by first | decide | omega) | exact st.c3 (by first | decide | omega) | exact st.c4 (by first | decide | omega) | exact st.c5 (by first | decide | omega) | exact st.c6 (by first | decide | omega) | exact st.c7 (by first | decide | omega) | exact st.c8 (by first | decide | omega))) rfl rfl rfl ?_
        refine HL.pure hKq ?_
        -- R25.0 106 := convert.go:133 move
        refine HL.v (fun w _ => by first | exact r_move (v := .pointer _) rfl | exact r_move rfl) rfl rfl rfl ?_
        refine HL.fin hKq2 ?_
        refine TL.at ?_
        -- R25.7 113 := convert.go:133 buildSlice
        first | refine WL.mkslice (m := 1) (vs := [.int _ _]) st ty_sl58 ty_zero50 rfl rfl rfl rfl rfl rfl ?_ | refine WL.mkslice (m := 1) (vs := [_]) st ty_sl58 ty_zero50 rfl rfl rfl rfl rfl rfl ?_ | refine WL.mkslice st ty_sl58 ty_zero50 rfl rfl rfl rfl rfl rfl ?_
        intro b113 w st
        refine TL.nxt (by first | exact st | exact st.drop | exact st.drop1 | exact st.drop2 | exact st.drop3 | exact st.drop4 | exact st.drop.drop | exact st.drop.drop1 | exact st.drop.drop2 | exact st.drop.drop3 | exact st.drop.drop4 | exact st.drop.drop.drop) ?_
        refine TL.at ?_
        -- R25.8 114 := convert.go:133 call
        refine WL.appendR (m := 1) st.front3 ty_sl58 rfl rfl (by omega) (by omega) (fun j hj => st.c0 (by omega)) (fun j hj => ?_) rfl rfl rfl ?_
        · match j, hj with
          | 0, _ => rfl
        intro w st
        refine TL.nxt' rfl ?_
        refine TL.at ?_
        -- R25.9 115 := convert.go:133 nilCheck
        refine WL.v (by exact r_nilCheck rfl) rfl rfl rfl ?_
        refine TL.nxt' rfl ?_
        refine TL.at ?_
        -- R25.10 116 := convert.go:133 fieldAddr
        refine WL.v (by exact r_field ty_fld60_1 rfl) rfl rfl rfl ?_
        refine TL.nxt' rfl ?_
        refine TL.at ?_
        -- R25.11 None := convert.go:133 store
        first | refine WL.store (v := .slice _ _ _) st ty_one58 rfl rfl rfl (by first | decide | omega) rfl rfl ?_ | refine WL.store (v := _) st ty_one58 rfl rfl rfl (by first | decide | omega) rfl rfl ?_ | refine WL.store (v := .slice _ _ _) st.front1 ty_one58 rfl rfl rfl (by first | decide | omega) rfl rfl ?_ | refine WL.store (v := _) st.front1 ty_one58 rfl rfl rfl (by first | decide | omega) rfl rfl ?_ | refine WL.store (v := .slice _ _ _) st.front2 ty_one58 rfl rfl rfl (by first | decide | omega) rfl rfl ?_ | refine WL.store (v := _) st.front2 ty_one58 rfl rfl rfl (by first | decide | omega) rfl rfl ?_ | refine WL.store (v := .slice _ _ _) st.front3 ty_one58 rfl rfl rfl (by first | decide | omega) rfl rfl ?_ | refine WL.store (v := _) st.front3 ty_one58 rfl rfl rfl (by first | decide | omega) rfl rfl ?_ | refine WL.store (v := .slice _ _ _) st.front4 ty_one58 rfl rfl rfl (by first | decide | omega) rfl rfl ?_ | refine WL.store (v := _) st.front4 ty_one58 rfl rfl rfl (by first | decide | omega) rfl rfl ?_ | refine WL.store (v := .slice _ _ _) st.front5 ty_one58 rfl rfl rfl (by first | decide | omega) rfl rfl ?_ | refine WL.store (v := _) st.front5 ty_one58 rfl rfl rfl (by first | decide | omega) rfl rfl ?_ | refine WL.store (v := .slice _ _ _) st.front6 ty_one58 rfl rfl rfl (by first | decide | omega) rfl rfl ?_ | refine WL.store (v := _) st.front6 ty_one58 rfl rfl rfl (by first | decide | omega) rfl rfl ?_ | refine WL.store (v := .slice _ _ _) st.front7 ty_one58 rfl rfl rfl (by first | decide | omega) rfl rfl ?_ | refine WL.store (v := _) st.front7 ty_one58 rfl rfl rfl (by first | decide | omega) rfl rfl ?_ | refine WL.store (v := .slice _ _ _) st.front8 ty_one58 rfl rfl rfl (by first | decide | omega) rfl rfl ?_ | refine WL.store (v := _) st.front8 ty_one58 rfl rfl rfl (by first | decide | omega) rfl rfl ?_
        intro w st
        refine TL.nxt' rfl ?_
        refine TL.wl ?_
        refine WL.fin hK106 (fun _ _ h => h) ?_
        -- region 26
        refine WC.region ?_
        -- R26.0 117 := convert.go:131 binOp
        refine WL.v (by first | exact r_add rfl rfl (wi64 (by omega) (by omega)) | exact r_add rfl rfl rfl) rfl rfl rfl ?_
        -- R26.1 93 := convert.go:131 move
        refine WL.v (by first | exact r_move (v := .int _ _) rfl | exact r_move rfl) rfl rfl rfl ?_
        refine WL.next hK3 (fun _ _ h => h) (k + 1, (fun p => if p = bas c (255 - V k) + lc V k (255 - V k) then X k else A p), _, _) ⟨st.drop2.drop2, by show k + 1 ≤ i; omega, ?_, ?_, ?_⟩ (by show i - (k + 1) < i - k; omega) (by repeat (first | exact sub_nil _ | refine sub_cons rfl rfl ?_))
        · rw [← hcc] at hnew ⊢; exact hnew
        · have := hg3.dealt (x := lc V k (255 - V k) + 1) (L' := lc V (k + 1)) ht0 (by rw [hT0, lc_step V (by omega) hv2, if_pos rfl]) (fun t ht hne => by
            have hTl := (hL.lt t ht).1
            rw [lc_step V hTl hv2, if_neg (fun h => hne (hL.inj ht ht0 (h.trans hT0.symm)))]; rfl)
          rw [hT0] at this
          exact this
        · intro s hs j hj
          have hj : j < lc V (k + 1) s := hj
          show upds fd (0 + S t0 * 1 + lc V k (255 - V k) * 1) (1 * 1) (fun j => nth [.int .u32 (X k).1] (0 + j)) (0 + (bas c s + j) * 1) = .int .u32 (if bas c s + j = bas c (255 - V k) + lc V k (255 - V k) then X k else A (bas c s + j)).1
          simp only [upds_eq]
          by_cases hp : bas c s + j = bas c (255 - V k) + lc V k (255 - V k)
          · rw [if_pos hp, if_pos (by omega), show 0 + (bas c s + j) * 1 - (0 + S t0 * 1 + lc V k (255 - V k) * 1) = 0 by omega]; rfl
          · rw [if_neg hp, if_neg (by omega)]
            refine hfd s hs j ?_
            rw [lc_step V hs hv2] at hj
            split at hj
            · rename_i he
              subst he
              omega
            · exact hj
      · obtain rfl : k = i := by omega
        have hO := hD.out hvn (by rw [hcc]; exact hL)
        rw [hcc] at hg3 hfd
        refine WC.seq fun K109 hK109 => ?_
        -- region 22
        refine WC.region ?_
        -- R22.0 94 := convert.go:131 binOp
        refine WL.v (by first | exact r_lss rfl rfl (decide_eq_true (by omega)) | exact r_lss rfl rfl (decide_eq_false (by omega)) | exact r_lss rfl rfl rfl) rfl rfl rfl ?_
        refine WL.fin hK109 (fun _ _ h => h) ?_
        refine WC.seq fun K110 hK110 => ?_
        refine WC.condF rfl rfl ?_
        refine WC.exitF hK102 (fun _ _ h => h) ?_
        refine WC.seq fun K111 hK111 => ?_
        -- region 27
        refine WC.region ?_
        -- R27.0 118 := convert.go:135 move
        refine WL.v (by first | exact r_move (v := .slice _ _ _) rfl | exact r_move rfl) rfl rfl rfl ?_
        -- R27.1 4 := convert.go:135 assign
        refine WL.v (by first | exact r_assign (v := .slice _ _ _) rfl | exact r_assign rfl) rfl rfl rfl ?_
        refine WL.fin hK111 (fun _ _ h => h) ?_
        refine WC.ret1 Try.results20 (fun _ _ h => h) rfl ?_
        refine ⟨_, rfl, b45, qn c 256, b48, q, S, A, g3, fd, F2, rfl, hO, fun t ht => ?_, fun p hp => ?_, by omega, hF2, st⟩
        · obtain ⟨h1, h2⟩ := hg3 t ht
          obtain ⟨h3, h4⟩ := hL.lt t ht
          have h5 := (hD.src (T t) 0 h3 (by rw [hcc]; exact h4)).1
          rw [hcc, Nat.add_zero, ← hL.at_ t ht] at h5
          refine ⟨by rw [h1, h5], _, by rw [h2, hL.step t ht, show S t + c (T t) - S t = c (T t) by omega, show 0 + S t * 1 = S t by omega]⟩
        · obtain ⟨s, hs, j, hj, rfl⟩ := level_of c 256 (show p < bas c 256 by omega)
          exact hfd s hs j hj

end Go.Proofs.Qxb6500835a

