import Derived.Test.Qxb6500835aFmtW5
set_option linter.unusedVariables false
set_option linter.unusedSimpArgs false
namespace Go.Proofs.Qxb6500835aFmt
open Go.RowKit Go.E1 Go.Conv

/-- The converter's struct and its scratch to the front. -/
theorem st_conv2 {w0 : World} {M : Nat → Prop} {x y c : HI} {FI R : List HI} {w : World} (h : St w0 M (x :: y :: c :: (FI ++ R)) w) : St w0 M (c :: (FI ++ (x :: y :: R))) w :=
  st_pull (P := [x, y]) (Q := c :: FI) (R := R) h
theorem st_back2 {w0 : World} {M : Nat → Prop} {x y c : HI} {FI I J R : List HI} {w : World} (h : St w0 M (c :: (FI ++ (I ++ (x :: y :: (J ++ R))))) w) : St w0 M (x :: y :: c :: (FI ++ ((I ++ J) ++ R))) w := by
  have := st_pull (P := c :: (FI ++ I)) (Q := [x, y]) (R := J ++ R) (by simpa only [List.append_assoc, List.cons_append, List.nil_append] using h)
  simpa only [List.append_assoc, List.cons_append, List.nil_append] using this

/-- The index to convert: terms and lists. -/
structure IxAt (w : World) (xb m : Nat) (T : Nat → ByteArray) (lb lo ln lcp : Nat → Nat) (X : Nat → Nat → Pr) : Prop where
  term : ∀ t, t < m → w.cell? ⟨xb, 0 + t * 2, none⟩ = some (.string (T t))
  list : ∀ t, t < m → w.cell? ⟨xb, 0 + t * 2 + 1, none⟩ = some (.slice (some ⟨lb t, lo t, none⟩) (ln t) (lcp t))
  at_ : ∀ t, t < m → LAt w (lb t) (lo t) (ln t) (X t)

/-- The converted index. -/
def IxOut (w0 : World) (M : Nat → Prop) (its : List HI) (og : Nat → Value) (k : Nat) (T : Nat → ByteArray) (ln : Nat → Nat) (X : Nat → Nat → Pr) (gb gc q : Nat → Nat) (S : Nat → Nat → Nat) (A : Nat → Nat → Pr) : Prop :=
  ∀ t, t < k → og (0 + t * 2) = .string (T t) ∧ og (0 + t * 2 + 1) = .slice (some ⟨gb t, 0, none⟩) (q t) (gc t) ∧ Out (ln t) (X t) (A t) (q t) (S t) ∧ GIs w0 M its (gb t) (q t) (S t) (A t)

theorem IxOut.more {w0 : World} {M : Nat → Prop} {its : List HI} {og : Nat → Value} {k : Nat} {T : Nat → ByteArray} {ln : Nat → Nat} {X : Nat → Nat → Pr} {gb gc q : Nat → Nat} {S : Nat → Nat → Nat} {A : Nat → Nat → Pr}
    (h : IxOut w0 M its og k T ln X gb gc q S A) {its2 : List HI} {g1 c1 q1 : Nat} {S1 : Nat → Nat} {A1 : Nat → Pr} (hO : Out (ln k) (X k) A1 q1 S1) (hG : GIs w0 M its2 g1 q1 S1 A1) {vs : List Value} (h0 : vs = [.string (T k), .slice (some ⟨g1, 0, none⟩) q1 c1]) :
    IxOut w0 M (its2 ++ its) (upds og (0 + k * 2) 2 (nth vs)) (k + 1) T ln X (fun t => if t = k then g1 else gb t) (fun t => if t = k then c1 else gc t) (fun t => if t = k then q1 else q t) (fun t => if t = k then S1 else S t) (fun t => if t = k then A1 else A t) := by
  subst h0
  intro t ht
  by_cases htk : t = k
  · subst htk
    simp only [upds_eq, if_pos rfl]
    refine ⟨?_, ?_, hO, hG.mono (by simp)⟩
    · rw [if_pos (by omega), show 0 + t * 2 - (0 + t * 2) = 0 by omega]; simp [nth]
    · rw [if_pos (by omega), show 0 + t * 2 + 1 - (0 + t * 2) = 1 by omega]; simp [nth]
  · obtain ⟨h1, h2, h3, h4⟩ := h t (by omega)
    simp only [upds_eq, if_neg htk]
    rw [if_neg (by omega), if_neg (by omega)]
    exact ⟨h1, h2, h3, h4.mono (by simp)⟩

set_option maxHeartbeats 4000000 in
theorem convertIndex_ok (cb xb m xcap : Nat) (a : Option Addr) (T : Nat → ByteArray) (lb lo ln lcp : Nat → Nat) (X : Nat → Nat → Pr) (V : Nat → Nat → Nat) (F : Nat → Value) (fv : Value) (FI : List HI) {w0 : World} {M : Nat → Prop} {L : List HI} {w : World}
    (hm : m ≤ 65536) (ha : 0 < m → a = some ⟨xb, 0, none⟩) (hne : ∀ t, t < m → ((T t).toList == (ByteArray.mk #[]).toList) = false) (hinc : ∀ t, 0 < t → t < m → Op.bytesLess (T (t - 1)).toList (T t).toList = true)
    (hln : ∀ t, t < m → 1 ≤ ln t ∧ ln t ≤ 65536) (hok : ∀ t, t < m → OKL (ln t) (X t)) (hV : ∀ t, t < m → ∀ k, k < ln t → (X t k).2 = (V t k : Int) ∧ V t k < 256) (hD : ∀ t, t < m → ∀ k, k < ln t → 0 ≤ (X t k).1 ∧ (X t k).1 < 4294967296)
    (hrd : ∀ its w', St w0 M (its ++ L) w' → IxAt w' xb m T lb lo ln lcp X) (hF : ConvF F fv) (hfew : FewOk fv FI) (st : St w0 M ((cb, Row 27 513 F) :: (FI ++ L)) w) :
    Calls Tryf.prog 8 #[.pointer (some ⟨cb, 0, none⟩), .slice a m xcap] w
      (Ret fun v w' => ∃ ob og its F' fv' FI' gb gc q S A, v = .tuple #[.slice (some ⟨ob, 0, none⟩) m m, .nilIface] ∧ IxOut w0 M its og m T ln X gb gc q S A ∧ ConvF F' fv' ∧ FewOk fv' FI' ∧
        St w0 M ((ob, Row 65 (m * 2) og) :: (cb, Row 27 513 F') :: (FI' ++ (its ++ L))) w') := by
  refine enter [.pointer (some ⟨cb, 0, none⟩), .slice a m xcap] Tryf.func8 rfl Tryf.ntmps8 rfl ?_
  show WC _ _ _ 71 [] [(0, .pointer (some ⟨cb, 0, none⟩)), (1, .slice a m xcap)] _
  refine WC.seq fun K180 hK180 => ?_
  -- region 0
  refine WC.region ?_
  -- R0.0 4 := convert.go:37 assign
  refine WL.v (by first | exact r_assign (v := .slice _ _ _) rfl | exact r_assign rfl) rfl rfl rfl ?_
  -- R0.1 5 := convert.go:37 assign
  refine WL.v (by first | exact r_assign (v := .nilIface) rfl | exact r_assign (v := .iface _ _) rfl | exact r_assign rfl) rfl rfl rfl ?_
  refine WL.fin hK180 (fun _ _ h => h) ?_
  refine WC.seq fun K181 hK181 => ?_
  -- region 1
  refine WC.region ?_
  -- R1.0 11 := convert.go:38 move
  refine WL.v (by first | exact r_move (v := .slice _ _ _) rfl | exact r_move rfl) rfl rfl rfl ?_
  -- R1.1 12 := convert.go:38 call
  refine WL.v (by exact r_len ty_usl28 rfl) rfl rfl rfl ?_
  -- R1.2 13 := convert.go:38 makeSlice
  refine WL.make st ty_mk61 ty_zero65 rfl rfl (by first | rfl | omega) (by first | rfl | omega) (by omega) (by omega) (by omega) rfl rfl rfl rfl ?_
  intro b13 w st
  -- R1.3 6 := convert.go:38 assign
  refine WL.v (by first | exact r_assign (v := .slice _ _ _) rfl | exact r_assign rfl) rfl rfl rfl ?_
  refine WL.fin hK181 (fun _ _ h => h) ?_
  refine WC.seq fun K182 hK182 => ?_
  refine WC.seq fun K183 hK183 => ?_
  -- region 2
  refine WC.region ?_
  -- R2.0 14 := convert.go:39 move
  refine WL.v (by first | exact r_move (v := .slice _ _ _) rfl | exact r_move rfl) rfl rfl rfl ?_
  -- R2.1 15 := convert.go:39 call
  refine WL.v (by exact r_len ty_usl28 rfl) rfl rfl rfl ?_
  -- R2.2 16 := convert.go:39 move
  refine WL.v (by first | exact r_move (v := .int _ _) rfl | exact r_move rfl) rfl rfl rfl ?_
  refine WL.fin hK183 (fun _ _ h => h) ?_
  refine WC.block ?_
  refine WC.loop (ι := Nat × (Nat → Value) × List HI × (Nat → Value) × Value × List HI) (fun z => [(0, .pointer (some ⟨cb, 0, none⟩)), (1, .slice a m xcap), (6, .slice (some ⟨b13, 0, none⟩) m m), (14, .slice a m xcap), (15, .int .i64 (m : Nat)), (16, .int .i64 (z.1 : Nat))])
    (fun z w' => St w0 M ((b13, Row 65 (m * 2) z.2.1) :: (cb, Row 27 513 z.2.2.2.1) :: (z.2.2.2.2.2 ++ (z.2.2.1 ++ L))) w' ∧ z.1 ≤ m ∧ ConvF z.2.2.2.1 z.2.2.2.2.1 ∧ FewOk z.2.2.2.2.1 z.2.2.2.2.2 ∧
      ∃ gb gc q S A, IxOut w0 M z.2.2.1 z.2.1 z.1 T ln X gb gc q S A) (fun z => m - z.1) (0, _, [], F, fv, FI) ⟨st, Nat.zero_le _, hF, hfew, fun _ => 0, fun _ => 0, fun _ => 0, fun _ _ => 0, fun _ _ => (0, 0), fun t ht => absurd ht (Nat.not_lt_zero _)⟩ ?_ ?_
  · skip
    repeat (first | exact sub_nil _ | refine sub_cons rfl rfl ?_)
  rintro ⟨k, og, its, F, fv, FI⟩ w ⟨st, hk, hF, hfew, gb, gc, q, S, A, hI⟩ K1 hK1
  simp only at st hk hF hfew hI hK1 ⊢
  by_cases hlt : k < m
  · obtain rfl := ha (by omega)
    have hr0 := fun its1 w' (s' : St w0 M (its1 ++ (FI ++ (its ++ L))) w') => hrd (its1 ++ (FI ++ its)) w' (by simpa only [List.append_assoc] using s')
    obtain ⟨hl1, hl2⟩ := hln k hlt
    by_cases hk0 : 0 < k
    · skip
      refine WC.seq fun K184 hK184 => ?_
      -- region 3
      refine WC.region ?_
      -- R3.0 17 := convert.go:39 binOp
      refine WL.v (by first | exact r_lss rfl rfl (decide_eq_true (by omega)) | exact r_lss rfl rfl (decide_eq_false (by omega)) | exact r_lss rfl rfl rfl) rfl rfl rfl ?_
      refine WL.fin hK184 (fun _ _ h => h) ?_
      refine WC.seq fun K185 hK185 => ?_
      refine WC.condT rfl rfl ?_
      refine WC.skipF hK185 (fun _ _ h => h) ?_
      refine WC.seq fun K186 hK186 => ?_
      refine WC.block ?_
      refine WC.seq fun K187 hK187 => ?_
      -- region 4
      refine WC.region ?_
      -- R4.0 18 := convert.go:39 move
      refine WL.v (by first | exact r_move (v := .int _ _) rfl | exact r_move rfl) rfl rfl rfl ?_
      -- R4.1 19 := convert.go:39 indexAddr
      refine WL.v (by exact r_indexS ty_sl28 rfl rfl rfl (by omega)) rfl rfl rfl ?_
      -- R4.2 20 := convert.go:39 load
      refine WL.v (by exact r_loadL (vs := [_, _]) ty_agg58 rfl ⟨((hr0 [_, _] _ st).term k hlt), ((hr0 [_, _] _ st).list k hlt), trivial⟩) rfl rfl rfl ?_
      -- R4.3 8 := convert.go:39 alloc
      refine WL.alloc st ty_zero58 rfl rfl rfl ?_
      intro b8 w st
      -- R4.4 7 := convert.go:39 assign
      refine WL.v (by first | exact r_assign (v := .int _ _) rfl | exact r_assign rfl) rfl rfl rfl ?_
      -- R4.5 None := convert.go:39 store
      first | refine WL.storeW (vs := [_, _]) st ty_agg58 rfl rfl rfl rfl rfl rfl ?_ | refine WL.storeL (vs := [_, _]) st ty_agg58 rfl rfl rfl rfl (by first | decide | omega) rfl rfl ?_ | refine WL.storeW (vs := [_, _]) st.front1 ty_agg58 rfl rfl rfl rfl rfl rfl ?_ | refine WL.storeL (vs := [_, _]) st.front1 ty_agg58 rfl rfl rfl rfl (by first | decide | omega) rfl rfl ?_ | refine WL.storeW (vs := [_, _]) st.front2 ty_agg58 rfl rfl rfl rfl rfl rfl ?_ | refine WL.storeL (vs := [_, _]) st.front2 ty_agg58 rfl rfl rfl rfl (by first | decide | omega) rfl rfl ?_ | refine WL.storeW (vs := [_, _]) st.front3 ty_agg58 rfl rfl rfl rfl rfl rfl ?_ | refine WL.storeL (vs := [_, _]) st.front3 ty_agg58 rfl rfl rfl rfl (by first | decide | omega) rfl rfl ?_ | refine WL.storeW (vs := [_, _]) st.front4 ty_agg58 rfl rfl rfl rfl rfl rfl ?_ | refine WL.storeL (vs := [_, _]) st.front4 ty_agg58 rfl rfl rfl rfl (by first | decide | omega) rfl rfl ?_ | refine WL.storeW (vs := [_, _]) st.front5 ty_agg58 rfl rfl rfl rfl rfl rfl ?_ | refine WL.storeL (vs := [_, _]) st.front5 ty_agg58 rfl rfl rfl rfl (by first | decide | omega) rfl rfl ?_ | refine WL.storeW (vs := [_, _]) st.front6 ty_agg58 rfl rfl rfl rfl rfl rfl ?_ | refine WL.storeL (vs := [_, _]) st.front6 ty_agg58 rfl rfl rfl rfl (by first | decide | omega) rfl rfl ?_ | refine WL.storeW (vs := [_, _]) st.front7 ty_agg58 rfl rfl rfl rfl rfl rfl ?_ | refine WL.storeL (vs := [_, _]) st.front7 ty_agg58 rfl rfl rfl rfl (by first | decide | omega) rfl rfl ?_ | refine WL.storeW (vs := [_, _]) st.front8 ty_agg58 rfl rfl rfl rfl rfl rfl ?_ | refine WL.storeL (vs := [_, _]) st.front8 ty_agg58 rfl rfl rfl rfl (by first | decide | omega) rfl rfl ?_
      intro w st
      refine WL.fin hK187 (fun _ _ h => h) ?_
      refine WC.seq fun K188 hK188 => ?_
      refine WC.seq fun K189 hK189 => ?_
      -- region 5
      refine WC.region ?_
      -- R5.0 21 := convert.go:40 fieldAddr
      refine WL.v (by exact r_field ty_fld58_0 rfl) rfl rfl rfl ?_
      -- R5.1 22 := convert.go:40 load
      refine WL.v (by exact r_load1 ty_one9 rfl (by first | assumption | exact st.c0 (by first | decide | omega) | exact st.c1 (by first | decide | omega) | exact st.c2 (by first | decide | omega) | exact st.c3 (by first | decide | omega) | exact st.c4 (by first | decide | omega) | exact st.c5 (by first | decide | omega) | exact st.c6 (by first | decide | omega) | exact st.c7 (by first | decide | omega) | exact st.c8 (by first | decide | omega))) rfl rfl rfl ?_
      -- R5.2 23 := convert.go:40 binOp
      refine WL.v (by exact r_seql rfl rfl (hne k hlt)) rfl rfl rfl ?_
      refine WL.fin hK189 (fun _ _ h => h) ?_
      refine WC.condF rfl rfl ?_
      refine WC.skipF hK188 (fun _ _ h => h) ?_
      refine WC.seq fun K190 hK190 => ?_
      refine WC.seq fun K191 hK191 => ?_
      -- region 7 (draws)
      refine WC.quietS st ty_mixed (by kernel_rfl) fun Kq hKq => ?_
      -- R7.0 26 := convert.go:43 move
      refine QL.v (fun w st => by first | exact r_move (v := .int _ _) rfl | exact r_move rfl) rfl rfl rfl ?_
      -- R7.1 27 := convert.go:43 binOp
      refine QL.v (fun w st => by first | exact r_gtr rfl rfl (decide_eq_true (by omega)) | exact r_gtr rfl rfl (decide_eq_false (by omega)) | exact r_gtr rfl rfl rfl) rfl rfl rfl ?_
      -- R7.2 28 := convert.go:43 move
      refine QL.v (fun w st => by first | exact r_move (v := .bool _) rfl | exact r_move rfl) rfl rfl rfl ?_
      -- R7.3 29 := convert.go:43 move
      refine QL.v (fun w st => by first | exact r_move (v := .slice _ _ _) rfl | exact r_move rfl) rfl rfl rfl ?_
      -- R7.4 30 := convert.go:43 move
      refine QL.v (fun w st => by first | exact r_move (v := .int _ _) rfl | exact r_move rfl) rfl rfl rfl ?_
      -- R7.5 31 := convert.go:43 binOp
      refine QL.v (fun w st => by first | exact r_sub rfl rfl (wi64 (by omega) (by omega)) | exact r_sub rfl rfl rfl) rfl rfl rfl ?_
      -- R7.6 32 := convert.go:43 indexAddr
      refine QL.v (fun w st => by exact r_indexS (j := k - 1) ty_sl28 rfl rfl (by omega) (by omega)) rfl rfl rfl ?_
      -- R7.7 33 := convert.go:43 fieldAddr
      refine QL.v (fun w st => by exact r_field ty_fld58_0 rfl) rfl rfl rfl ?_
      -- R7.8 34 := convert.go:43 load
      refine QL.v (fun w st => by exact r_load1 ty_one9 rfl ((hr0 [_, _, _] _ st).term (k - 1) (by omega))) rfl rfl rfl ?_
      -- R7.9 35 := convert.go:43 fieldAddr
      refine QL.v (fun w st => by exact r_field ty_fld58_0 rfl) rfl rfl rfl ?_
      -- R7.10 36 := convert.go:43 load
      refine QL.v (fun w st => by exact r_load1 ty_one9 rfl (by first | assumption | exact st.c0 (by first | decide | omega) | exact st.c1 (by first | decide | omega) | exact st.c2 (by first | decide | omega) | exact st.c3 (by first | decide | omega) | exact st.c4 (by first | decide | omega) | exact st.c5 (by first | decide | omega) | exact st.c6 (by first | decide | omega) | exact st.c7 (by first | decide | omega) | exact st.c8 (by first | decide | omega))) rfl rfl rfl ?_
      -- R7.11 37 := convert.go:43 binOp
      refine QL.v (fun w st => by exact r_sgeq (t := false) rfl rfl (by rw [hinc k hk0 hlt]; rfl)) rfl rfl rfl ?_
      -- R7.12 38 := convert.go:43 pick
      refine QL.v (fun w st => by first | exact r_pickT (v := .bool _) rfl rfl | exact r_pickF (v := .bool _) rfl rfl) rfl rfl rfl ?_
      refine QL.wl hKq fun w st => ?_
      refine WL.fin hK191 (fun _ _ h => h) ?_
      refine WC.condF rfl rfl ?_
      refine WC.skipF hK190 (fun _ _ h => h) ?_
      refine WC.seq fun K192 hK192 => ?_
      refine WC.seq fun K193 hK193 => ?_
      -- region 9
      refine WC.region ?_
      -- R9.0 41 := convert.go:46 fieldAddr
      refine WL.v (by exact r_field ty_fld58_1 rfl) rfl rfl rfl ?_
      -- R9.1 42 := convert.go:46 load
      refine WL.v (by exact r_load1 ty_one25 rfl (by first | assumption | exact st.c0 (by first | decide | omega) | exact st.c1 (by first | decide | omega) | exact st.c2 (by first | decide | omega) | exact st.c3 (by first | decide | omega) | exact st.c4 (by first | decide | omega) | exact st.c5 (by first | decide | omega) | exact st.c6 (by first | decide | omega) | exact st.c7 (by first | decide | omega) | exact st.c8 (by first | decide | omega))) rfl rfl rfl ?_
      -- R9.2 43 := convert.go:46 call
      refine WL.v (by exact r_len ty_usl25 rfl) rfl rfl rfl ?_
      -- R9.3 44 := convert.go:46 binOp
      refine WL.v (by first | exact r_eql rfl rfl (decide_eq_true (by omega)) | exact r_eql rfl rfl (decide_eq_false (by omega)) | exact r_eql rfl rfl rfl) rfl rfl rfl ?_
      refine WL.fin hK193 (fun _ _ h => h) ?_
      refine WC.condF rfl rfl ?_
      refine WC.skipF hK192 (fun _ _ h => h) ?_
      refine WC.seq fun K194 hK194 => ?_
      -- region 11
      refine WC.region ?_
      -- R11.0 48 := convert.go:49 move
      refine WL.v (by first | exact r_move (v := .pointer _) rfl | exact r_move rfl) rfl rfl rfl ?_
      -- R11.1 49 := convert.go:49 fieldAddr
      refine WL.v (by exact r_field ty_fld58_1 rfl) rfl rfl rfl ?_
      -- R11.2 50 := convert.go:49 load
      refine WL.v (by exact r_load1 ty_one25 rfl (by first | assumption | exact st.c0 (by first | decide | omega) | exact st.c1 (by first | decide | omega) | exact st.c2 (by first | decide | omega) | exact st.c3 (by first | decide | omega) | exact st.c4 (by first | decide | omega) | exact st.c5 (by first | decide | omega) | exact st.c6 (by first | decide | omega) | exact st.c7 (by first | decide | omega) | exact st.c8 (by first | decide | omega))) rfl rfl rfl ?_
      -- R11.3 51 := convert.go:49 call
      refine WL.call (r_call ty_call5 rfl) rfl rfl rfl (convert_ok cb (lb k) (lo k) (ln k) (lcp k) _ (X k) (V k) F fv FI hl2 (fun _ => rfl) (hV k hlt) (hD k hlt)
        (fun its' w' s' => (hrd (its' ++ (_ :: _ :: its)) w' (by simpa only [List.append_assoc, List.cons_append] using s')).at_ k hlt) hF hfew (st_conv2 st)) ?_
      rintro v w (⟨hno, _⟩ | ⟨_, h0, _⟩ | ⟨_, _, gv, rfl, g1, c1, q1, S1, A1, its2, F2, fv2, FI2, rfl, hO, hG, hF2, hfew2, st⟩)
      · exact absurd (hok k hlt) hno
      · omega
      have st := st_back2 st
      -- R11.4 47 := convert.go:49 move
      refine WL.v (by first | exact r_move (v := .tuple _) rfl | exact r_move rfl) rfl rfl rfl ?_
      -- R11.5 52 := convert.go:49 extract
      refine WL.v (by first | exact r_extract (v := .slice _ _ _) rfl rfl | exact r_extract rfl rfl) rfl rfl rfl ?_
      -- R11.6 53 := convert.go:49 extract
      refine WL.v (by first | exact r_extract (v := .nilIface) rfl rfl | exact r_extract (v := .iface _ _) rfl rfl | exact r_extract rfl rfl) rfl rfl rfl ?_
      -- R11.7 9 := convert.go:49 assign
      refine WL.v (by first | exact r_assign (v := .slice _ _ _) rfl | exact r_assign rfl) rfl rfl rfl ?_
      -- R11.8 10 := convert.go:49 assign
      refine WL.v (by first | exact r_assign (v := .nilIface) rfl | exact r_assign (v := .iface _ _) rfl | exact r_assign rfl) rfl rfl rfl ?_
      refine WL.fin hK194 (fun _ _ h => h) ?_
      refine WC.seq fun K195 hK195 => ?_
      refine WC.seq fun K196 hK196 => ?_
      -- region 12
      refine WC.region ?_
      -- R12.0 54 := convert.go:50 move
      refine WL.v (by first | exact r_move (v := .nilIface) rfl | exact r_move (v := .iface _ _) rfl | exact r_move rfl) rfl rfl rfl ?_
      -- R12.1 55 := convert.go:50 binOp
      refine WL.v (by first | exact r_nil_neq ty_ifc48 rfl | exact r_some_neq ty_ifc48 rfl) rfl rfl rfl ?_
      refine WL.fin hK196 (fun _ _ h => h) ?_
      refine WC.condF rfl rfl ?_
      refine WC.skipF hK195 (fun _ _ h => h) ?_
      -- region 15
      refine WC.region ?_
      -- R15.0 62 := convert.go:54 move
      refine WL.v (by first | exact r_move (v := .slice _ _ _) rfl | exact r_move rfl) rfl rfl rfl ?_
      -- R15.1 63 := convert.go:54 move
      refine WL.v (by first | exact r_move (v := .int _ _) rfl | exact r_move rfl) rfl rfl rfl ?_
      -- R15.2 64 := convert.go:54 fieldAddr
      refine WL.v (by exact r_field ty_fld58_0 rfl) rfl rfl rfl ?_
      -- R15.3 65 := convert.go:54 load
      refine WL.v (by exact r_load1 ty_one9 rfl (by first | assumption | exact st.c0 (by first | decide | omega) | exact st.c1 (by first | decide | omega) | exact st.c2 (by first | decide | omega) | exact st.c3 (by first | decide | omega) | exact st.c4 (by first | decide | omega) | exact st.c5 (by first | decide | omega) | exact st.c6 (by first | decide | omega) | exact st.c7 (by first | decide | omega) | exact st.c8 (by first | decide | omega))) rfl rfl rfl ?_
      -- R15.4 66 := convert.go:54 move
      refine WL.v (by first | exact r_move (v := .slice _ _ _) rfl | exact r_move rfl) rfl rfl rfl ?_
      -- R15.5 67 := convert.go:54 build
      refine WL.v (by first | exact r_build (vs := [.string _, .slice _ _ _]) ty_pl65 ty_zero65 rfl rfl | exact r_build (vs := [_, _]) ty_pl65 ty_zero65 rfl rfl | exact r_build ty_pl65 ty_zero65 rfl rfl) rfl rfl rfl ?_
      -- R15.6 68 := convert.go:54 indexAddr
      refine WL.v (by exact r_indexS ty_sl61 rfl rfl rfl (by omega)) rfl rfl rfl ?_
      -- R15.7 None := convert.go:54 store
      first | refine WL.storeW (vs := [_, _]) st ty_agg65 rfl rfl rfl rfl rfl rfl ?_ | refine WL.storeL (vs := [_, _]) st ty_agg65 rfl rfl rfl rfl (by first | decide | omega) rfl rfl ?_ | refine WL.storeW (vs := [_, _]) st.front1 ty_agg65 rfl rfl rfl rfl rfl rfl ?_ | refine WL.storeL (vs := [_, _]) st.front1 ty_agg65 rfl rfl rfl rfl (by first | decide | omega) rfl rfl ?_ | refine WL.storeW (vs := [_, _]) st.front2 ty_agg65 rfl rfl rfl rfl rfl rfl ?_ | refine WL.storeL (vs := [_, _]) st.front2 ty_agg65 rfl rfl rfl rfl (by first | decide | omega) rfl rfl ?_ | refine WL.storeW (vs := [_, _]) st.front3 ty_agg65 rfl rfl rfl rfl rfl rfl ?_ | refine WL.storeL (vs := [_, _]) st.front3 ty_agg65 rfl rfl rfl rfl (by first | decide | omega) rfl rfl ?_ | refine WL.storeW (vs := [_, _]) st.front4 ty_agg65 rfl rfl rfl rfl rfl rfl ?_ | refine WL.storeL (vs := [_, _]) st.front4 ty_agg65 rfl rfl rfl rfl (by first | decide | omega) rfl rfl ?_ | refine WL.storeW (vs := [_, _]) st.front5 ty_agg65 rfl rfl rfl rfl rfl rfl ?_ | refine WL.storeL (vs := [_, _]) st.front5 ty_agg65 rfl rfl rfl rfl (by first | decide | omega) rfl rfl ?_ | refine WL.storeW (vs := [_, _]) st.front6 ty_agg65 rfl rfl rfl rfl rfl rfl ?_ | refine WL.storeL (vs := [_, _]) st.front6 ty_agg65 rfl rfl rfl rfl (by first | decide | omega) rfl rfl ?_ | refine WL.storeW (vs := [_, _]) st.front7 ty_agg65 rfl rfl rfl rfl rfl rfl ?_ | refine WL.storeL (vs := [_, _]) st.front7 ty_agg65 rfl rfl rfl rfl (by first | decide | omega) rfl rfl ?_ | refine WL.storeW (vs := [_, _]) st.front8 ty_agg65 rfl rfl rfl rfl rfl rfl ?_ | refine WL.storeL (vs := [_, _]) st.front8 ty_agg65 rfl rfl rfl rfl (by first | decide | omega) rfl rfl ?_
      intro w st
      refine WL.fin hK186 (fun _ _ h => h) ?_
      -- region 16
      refine WC.region ?_
      -- R16.0 69 := convert.go:39 binOp
      refine WL.v (by first | exact r_add rfl rfl (wi64 (by omega) (by omega)) | exact r_add rfl rfl rfl) rfl rfl rfl ?_
      -- R16.1 16 := convert.go:39 move
      refine WL.v (by first | exact r_move (v := .int _ _) rfl | exact r_move rfl) rfl rfl rfl ?_
      refine WL.next hK1 (fun _ _ h => h) (k + 1, _, its2 ++ its, F2, fv2, FI2) ⟨st.drop1, by show k + 1 ≤ m; omega, hF2, hfew2, _, _, _, _, _, hI.more hO hG rfl⟩ (by show m - (k + 1) < m - k; omega) (by repeat (first | exact sub_nil _ | refine sub_cons rfl rfl ?_))
    · skip
      refine WC.seq fun K197 hK197 => ?_
      -- region 3
      refine WC.region ?_
      -- R3.0 17 := convert.go:39 binOp
      refine WL.v (by first | exact r_lss rfl rfl (decide_eq_true (by omega)) | exact r_lss rfl rfl (decide_eq_false (by omega)) | exact r_lss rfl rfl rfl) rfl rfl rfl ?_
      refine WL.fin hK197 (fun _ _ h => h) ?_
      refine WC.seq fun K198 hK198 => ?_
      refine WC.condT rfl rfl ?_
      refine WC.skipF hK198 (fun _ _ h => h) ?_
      refine WC.seq fun K199 hK199 => ?_
      refine WC.block ?_
      refine WC.seq fun K200 hK200 => ?_
      -- region 4
      refine WC.region ?_
      -- R4.0 18 := convert.go:39 move
      refine WL.v (by first | exact r_move (v := .int _ _) rfl | exact r_move rfl) rfl rfl rfl ?_
      -- R4.1 19 := convert.go:39 indexAddr
      refine WL.v (by exact r_indexS ty_sl28 rfl rfl rfl (by omega)) rfl rfl rfl ?_
      -- R4.2 20 := convert.go:39 load
      refine WL.v (by exact r_loadL (vs := [_, _]) ty_agg58 rfl ⟨((hr0 [_, _] _ st).term k hlt), ((hr0 [_, _] _ st).list k hlt), trivial⟩) rfl rfl rfl ?_
      -- R4.3 8 := convert.go:39 alloc
      refine WL.alloc st ty_zero58 rfl rfl rfl ?_
      intro b8 w st
      -- R4.4 7 := convert.go:39 assign
      refine WL.v (by first | exact r_assign (v := .int _ _) rfl | exact r_assign rfl) rfl rfl rfl ?_
      -- R4.5 None := convert.go:39 store
      first | refine WL.storeW (vs := [_, _]) st ty_agg58 rfl rfl rfl rfl rfl rfl ?_ | refine WL.storeL (vs := [_, _]) st ty_agg58 rfl rfl rfl rfl (by first | decide | omega) rfl rfl ?_ | refine WL.storeW (vs := [_, _]) st.front1 ty_agg58 rfl rfl rfl rfl rfl rfl ?_ | refine WL.storeL (vs := [_, _]) st.front1 ty_agg58 rfl rfl rfl rfl (by first | decide | omega) rfl rfl ?_ | refine WL.storeW (vs := [_, _]) st.front2 ty_agg58 rfl rfl rfl rfl rfl rfl ?_ | refine WL.storeL (vs := [_, _]) st.front2 ty_agg58 rfl rfl rfl rfl (by first | decide | omega) rfl rfl ?_ | refine WL.storeW (vs := [_, _]) st.front3 ty_agg58 rfl rfl rfl rfl rfl rfl ?_ | refine WL.storeL (vs := [_, _]) st.front3 ty_agg58 rfl rfl rfl rfl (by first | decide | omega) rfl rfl ?_ | refine WL.storeW (vs := [_, _]) st.front4 ty_agg58 rfl rfl rfl rfl rfl rfl ?_ | refine WL.storeL (vs := [_, _]) st.front4 ty_agg58 rfl rfl rfl rfl (by first | decide | omega) rfl rfl ?_ | refine WL.storeW (vs := [_, _]) st.front5 ty_agg58 rfl rfl rfl rfl rfl rfl ?_ | refine WL.storeL (vs := [_, _]) st.front5 ty_agg58 rfl rfl rfl rfl (by first | decide | omega) rfl rfl ?_ | refine WL.storeW (vs := [_, _]) st.front6 ty_agg58 rfl rfl rfl rfl rfl rfl ?_ | refine WL.storeL (vs := [_, _]) st.front6 ty_agg58 rfl rfl rfl rfl (by first | decide | omega) rfl rfl ?_ | refine WL.storeW (vs := [_, _]) st.front7 ty_agg58 rfl rfl rfl rfl rfl rfl ?_ | refine WL.storeL (vs := [_, _]) st.front7 ty_agg58 rfl rfl rfl rfl (by first | decide | omega) rfl rfl ?_ | refine WL.storeW (vs := [_, _]) st.front8 ty_agg58 rfl rfl rfl rfl rfl rfl ?_ | refine WL.storeL (vs := [_, _]) st.front8 ty_agg58 rfl rfl rfl rfl (by first | decide | omega) rfl rfl ?_
      intro w st
      refine WL.fin hK200 (fun _ _ h => h) ?_
      refine WC.seq fun K201 hK201 => ?_
      refine WC.seq fun K202 hK202 => ?_
      -- region 5
      refine WC.region ?_
      -- R5.0 21 := convert.go:40 fieldAddr
      refine WL.v (by exact r_field ty_fld58_0 rfl) rfl rfl rfl ?_
      -- R5.1 22 := convert.go:40 load
      refine WL.v (by exact r_load1 ty_one9 rfl (by first | assumption | exact st.c0 (by first | decide | omega) | exact st.c1 (by first | decide | omega) | exact st.c2 (by first | decide | omega) | exact st.c3 (by first | decide | omega) | exact st.c4 (by first | decide | omega) | exact st.c5 (by first | decide | omega) | exact st.c6 (by first | decide | omega) | exact st.c7 (by first | decide | omega) | exact st.c8 (by first | decide | omega))) rfl rfl rfl ?_
      -- R5.2 23 := convert.go:40 binOp
      refine WL.v (by exact r_seql rfl rfl (hne k hlt)) rfl rfl rfl ?_
      refine WL.fin hK202 (fun _ _ h => h) ?_
      refine WC.condF rfl rfl ?_
      refine WC.skipF hK201 (fun _ _ h => h) ?_
      refine WC.seq fun K203 hK203 => ?_
      refine WC.seq fun K204 hK204 => ?_
      -- region 7 (draws)
      refine WC.quietS st ty_mixed (by kernel_rfl) fun Kq hKq => ?_
      -- R7.0 26 := convert.go:43 move
      refine QL.v (fun w st => by first | exact r_move (v := .int _ _) rfl | exact r_move rfl) rfl rfl rfl ?_
      -- R7.1 27 := convert.go:43 binOp
      refine QL.v (fun w st => by first | exact r_gtr rfl rfl (decide_eq_true (by omega)) | exact r_gtr rfl rfl (decide_eq_false (by omega)) | exact r_gtr rfl rfl rfl) rfl rfl rfl ?_
      -- R7.2 28 := convert.go:43 move
      refine QL.v (fun w st => by first | exact r_move (v := .bool _) rfl | exact r_move rfl) rfl rfl rfl ?_
      -- R7.3 29 := convert.go:43 move
      refine QL.no rfl rfl ?_
      -- R7.4 30 := convert.go:43 move
      refine QL.no rfl rfl ?_
      -- R7.5 31 := convert.go:43 binOp
      refine QL.no rfl rfl ?_
      -- R7.6 32 := convert.go:43 indexAddr
      refine QL.no rfl rfl ?_
      -- R7.7 33 := convert.go:43 fieldAddr
      refine QL.no rfl rfl ?_
      -- R7.8 34 := convert.go:43 load
      refine QL.no rfl rfl ?_
      -- R7.9 35 := convert.go:43 fieldAddr
      refine QL.no rfl rfl ?_
      -- R7.10 36 := convert.go:43 load
      refine QL.no rfl rfl ?_
      -- R7.11 37 := convert.go:43 binOp
      refine QL.no rfl rfl ?_
      -- R7.12 38 := convert.go:43 pick
      refine QL.v (fun w st => by first | exact r_pickT (v := .bool _) rfl rfl | exact r_pickF (v := .bool _) rfl rfl) rfl rfl rfl ?_
      refine QL.wl hKq fun w st => ?_
      refine WL.fin hK204 (fun _ _ h => h) ?_
      refine WC.condF rfl rfl ?_
      refine WC.skipF hK203 (fun _ _ h => h) ?_
      refine WC.seq fun K205 hK205 => ?_
      refine WC.seq fun K206 hK206 => ?_
      -- region 9
      refine WC.region ?_
      -- R9.0 41 := convert.go:46 fieldAddr
      refine WL.v (by exact r_field ty_fld58_1 rfl) rfl rfl rfl ?_
      -- R9.1 42 := convert.go:46 load
      refine WL.v (by exact r_load1 ty_one25 rfl (by first | assumption | exact st.c0 (by first | decide | omega) | exact st.c1 (by first | decide | omega) | exact st.c2 (by first | decide | omega) | exact st.c3 (by first | decide | omega) | exact st.c4 (by first | decide | omega) | exact st.c5 (by first | decide | omega) | exact st.c6 (by first | decide | omega) | exact st.c7 (by first | decide | omega) | exact st.c8 (by first | decide | omega))) rfl rfl rfl ?_
      -- R9.2 43 := convert.go:46 call
      refine WL.v (by exact r_len ty_usl25 rfl) rfl rfl rfl ?_
      -- R9.3 44 := convert.go:46 binOp
      refine WL.v (by first | exact r_eql rfl rfl (decide_eq_true (by omega)) | exact r_eql rfl rfl (decide_eq_false (by omega)) | exact r_eql rfl rfl rfl) rfl rfl rfl ?_
      refine WL.fin hK206 (fun _ _ h => h) ?_
      refine WC.condF rfl rfl ?_
      refine WC.skipF hK205 (fun _ _ h => h) ?_
      refine WC.seq fun K207 hK207 => ?_
      -- region 11
      refine WC.region ?_
      -- R11.0 48 := convert.go:49 move
      refine WL.v (by first | exact r_move (v := .pointer _) rfl | exact r_move rfl) rfl rfl rfl ?_
      -- R11.1 49 := convert.go:49 fieldAddr
      refine WL.v (by exact r_field ty_fld58_1 rfl) rfl rfl rfl ?_
      -- R11.2 50 := convert.go:49 load
      refine WL.v (by exact r_load1 ty_one25 rfl (by first | assumption | exact st.c0 (by first | decide | omega) | exact st.c1 (by first | decide | omega) | exact st.c2 (by first | decide | omega) | exact st.c3 (by first | decide | omega) | exact st.c4 (by first | decide | omega) | exact st.c5 (by first | decide | omega) | exact st.c6 (by first | decide | omega) | exact st.c7 (by first | decide | omega) | exact st.c8 (by first | decide | omega))) rfl rfl rfl ?_
      -- R11.3 51 := convert.go:49 call
      refine WL.call (r_call ty_call5 rfl) rfl rfl rfl (convert_ok cb (lb k) (lo k) (ln k) (lcp k) _ (X k) (V k) F fv FI hl2 (fun _ => rfl) (hV k hlt) (hD k hlt)
        (fun its' w' s' => (hrd (its' ++ (_ :: _ :: its)) w' (by simpa only [List.append_assoc, List.cons_append] using s')).at_ k hlt) hF hfew (st_conv2 st)) ?_
      rintro v w (⟨hno, _⟩ | ⟨_, h0, _⟩ | ⟨_, _, gv, rfl, g1, c1, q1, S1, A1, its2, F2, fv2, FI2, rfl, hO, hG, hF2, hfew2, st⟩)
      · exact absurd (hok k hlt) hno
      · omega
      have st := st_back2 st
      -- R11.4 47 := convert.go:49 move
      refine WL.v (by first | exact r_move (v := .tuple _) rfl | exact r_move rfl) rfl rfl rfl ?_
      -- R11.5 52 := convert.go:49 extract
      refine WL.v (by first | exact r_extract (v := .slice _ _ _) rfl rfl | exact r_extract rfl rfl) rfl rfl rfl ?_
      -- R11.6 53 := convert.go:49 extract
      refine WL.v (by first | exact r_extract (v := .nilIface) rfl rfl | exact r_extract (v := .iface _ _) rfl rfl | exact r_extract rfl rfl) rfl rfl rfl ?_
      -- R11.7 9 := convert.go:49 assign
      refine WL.v (by first | exact r_assign (v := .slice _ _ _) rfl | exact r_assign rfl) rfl rfl rfl ?_
      -- R11.8 10 := convert.go:49 assign
      refine WL.v (by first | exact r_assign (v := .nilIface) rfl | exact r_assign (v := .iface _ _) rfl | exact r_assign rfl) rfl rfl rfl ?_
      refine WL.fin hK207 (fun _ _ h => h) ?_
      refine WC.seq fun K208 hK208 => ?_
      refine WC.seq fun K209 hK209 => ?_
      -- region 12
      refine WC.region ?_
      -- R12.0 54 := convert.go:50 move
      refine WL.v (by first | exact r_move (v := .nilIface) rfl | exact r_move (v := .iface _ _) rfl | exact r_move rfl) rfl rfl rfl ?_
      -- R12.1 55 := convert.go:50 binOp
      refine WL.v (by first | exact r_nil_neq ty_ifc48 rfl | exact r_some_neq ty_ifc48 rfl) rfl rfl rfl ?_
      refine WL.fin hK209 (fun _ _ h => h) ?_
      refine WC.condF rfl rfl ?_
      refine WC.skipF hK208 (fun _ _ h => h) ?_
      -- region 15
      refine WC.region ?_
      -- R15.0 62 := convert.go:54 move
      refine WL.v (by first | exact r_move (v := .slice _ _ _) rfl | exact r_move rfl) rfl rfl rfl ?_
      -- R15.1 63 := convert.go:54 move
      refine WL.v (by first | exact r_move (v := .int _ _) rfl | exact r_move rfl) rfl rfl rfl ?_
      -- R15.2 64 := convert.go:54 fieldAddr
      refine WL.v (by exact r_field ty_fld58_0 rfl) rfl rfl rfl ?_
      -- R15.3 65 := convert.go:54 load
      refine WL.v (by exact r_load1 ty_one9 rfl (by first | assumption | exact st.c0 (by first | decide | omega) | exact st.c1 (by first | decide | omega) | exact st.c2 (by first | decide | omega) | exact st.c3 (by first | decide | omega) | exact st.c4 (by first | decide | omega) | exact st.c5 (by first | decide | omega) | exact st.c6 (by first | decide | omega) | exact st.c7 (by first | decide | omega) | exact st.c8 (by first | decide | omega))) rfl rfl rfl ?_
      -- R15.4 66 := convert.go:54 move
      refine WL.v (by first | exact r_move (v := .slice _ _ _) rfl | exact r_move rfl) rfl rfl rfl ?_
      -- R15.5 67 := convert.go:54 build
      refine WL.v (by first | exact r_build (vs := [.string _, .slice _ _ _]) ty_pl65 ty_zero65 rfl rfl | exact r_build (vs := [_, _]) ty_pl65 ty_zero65 rfl rfl | exact r_build ty_pl65 ty_zero65 rfl rfl) rfl rfl rfl ?_
      -- R15.6 68 := convert.go:54 indexAddr
      refine WL.v (by exact r_indexS ty_sl61 rfl rfl rfl (by omega)) rfl rfl rfl ?_
      -- R15.7 None := convert.go:54 store
      first | refine WL.storeW (vs := [_, _]) st ty_agg65 rfl rfl rfl rfl rfl rfl ?_ | refine WL.storeL (vs := [_, _]) st ty_agg65 rfl rfl rfl rfl (by first | decide | omega) rfl rfl ?_ | refine WL.storeW (vs := [_, _]) st.front1 ty_agg65 rfl rfl rfl rfl rfl rfl ?_ | refine WL.storeL (vs := [_, _]) st.front1 ty_agg65 rfl rfl rfl rfl (by first | decide | omega) rfl rfl ?_ | refine WL.storeW (vs := [_, _]) st.front2 ty_agg65 rfl rfl rfl rfl rfl rfl ?_ | refine WL.storeL (vs := [_, _]) st.front2 ty_agg65 rfl rfl rfl rfl (by first | decide | omega) rfl rfl ?_ | refine WL.storeW (vs := [_, _]) st.front3 ty_agg65 rfl rfl rfl rfl rfl rfl ?_ | refine WL.storeL (vs := [_, _]) st.front3 ty_agg65 rfl rfl rfl rfl (by first | decide | omega) rfl rfl ?_ | refine WL.storeW (vs := [_, _]) st.front4 ty_agg65 rfl rfl rfl rfl rfl rfl ?_ | refine WL.storeL (vs := [_, _]) st.front4 ty_agg65 rfl rfl rfl rfl (by first | decide | omega) rfl rfl ?_ | refine WL.storeW (vs := [_, _]) st.front5 ty_agg65 rfl rfl rfl rfl rfl rfl ?_ | refine WL.storeL (vs := [_, _]) st.front5 ty_agg65 rfl rfl rfl rfl (by first | decide | omega) rfl rfl ?_ | refine WL.storeW (vs := [_, _]) st.front6 ty_agg65 rfl rfl rfl rfl rfl rfl ?_ | refine WL.storeL (vs := [_, _]) st.front6 ty_agg65 rfl rfl rfl rfl (by first | decide | omega) rfl rfl ?_ | refine WL.storeW (vs := [_, _]) st.front7 ty_agg65 rfl rfl rfl rfl rfl rfl ?_ | refine WL.storeL (vs := [_, _]) st.front7 ty_agg65 rfl rfl rfl rfl (by first | decide | omega) rfl rfl ?_ | refine WL.storeW (vs := [_, _]) st.front8 ty_agg65 rfl rfl rfl rfl rfl rfl ?_ | refine WL.storeL (vs := [_, _]) st.front8 ty_agg65 rfl rfl rfl rfl (by first | decide | omega) rfl rfl ?_
      intro w st
      refine WL.fin hK199 (fun _ _ h => h) ?_
      -- region 16
      refine WC.region ?_
      -- R16.0 69 := convert.go:39 binOp
      refine WL.v (by first | exact r_add rfl rfl (wi64 (by omega) (by omega)) | exact r_add rfl rfl rfl) rfl rfl rfl ?_
      -- R16.1 16 := convert.go:39 move
      refine WL.v (by first | exact r_move (v := .int _ _) rfl | exact r_move rfl) rfl rfl rfl ?_
      refine WL.next hK1 (fun _ _ h => h) (k + 1, _, its2 ++ its, F2, fv2, FI2) ⟨st.drop1, by show k + 1 ≤ m; omega, hF2, hfew2, _, _, _, _, _, hI.more hO hG rfl⟩ (by show m - (k + 1) < m - k; omega) (by repeat (first | exact sub_nil _ | refine sub_cons rfl rfl ?_))
  · obtain rfl : k = m := by omega
    refine WC.seq fun K210 hK210 => ?_
    -- region 3
    refine WC.region ?_
    -- R3.0 17 := convert.go:39 binOp
    refine WL.v (by first | exact r_lss rfl rfl (decide_eq_true (by omega)) | exact r_lss rfl rfl (decide_eq_false (by omega)) | exact r_lss rfl rfl rfl) rfl rfl rfl ?_
    refine WL.fin hK210 (fun _ _ h => h) ?_
    refine WC.seq fun K211 hK211 => ?_
    refine WC.condF rfl rfl ?_
    refine WC.exitF hK182 (fun _ _ h => h) ?_
    refine WC.seq fun K212 hK212 => ?_
    -- region 17
    refine WC.region ?_
    -- R17.0 70 := convert.go:56 move
    refine WL.v (by first | exact r_move (v := .slice _ _ _) rfl | exact r_move rfl) rfl rfl rfl ?_
    -- R17.1 4 := convert.go:56 assign
    refine WL.v (by first | exact r_assign (v := .slice _ _ _) rfl | exact r_assign rfl) rfl rfl rfl ?_
    -- R17.2 5 := convert.go:56 assign
    refine WL.v (by first | exact r_assign (v := .nilIface) rfl | exact r_assign (v := .iface _ _) rfl | exact r_assign rfl) rfl rfl rfl ?_
    refine WL.fin hK212 (fun _ _ h => h) ?_
    refine WC.ret2 Tryf.results8 (fun _ _ h => h) rfl ?_
    exact ⟨_, rfl, b13, og, its, F, fv, FI, gb, gc, q, S, A, rfl, hI, hF, hfew, st⟩
end Go.Proofs.Qxb6500835aFmt

