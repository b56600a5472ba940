import Derived.Test.Qxb6500834aGreatDoorK13
set_option linter.unusedVariables false
set_option linter.unusedSimpArgs false
set_option maxRecDepth 20000
namespace Go.Proofs.Qxb6500834aGreatDoor
open Go.RowKit Go.E1 Go.Kern
variable {w0 : World} {L L' l I J K K' X : List HI} {w : World} {M : KM} {s : KS} {XQ : Nat → List HI}
variable {bk br bp bm mode now armed t r : Nat} {held claim : Nat → Nat → Nat} {qv : Nat → Value} {tk : Nat → TK} {cells : Nat → Nat} {births : Nat} {ov v : Value} {Q : List (Nat × Nat)} {queue : Nat → List (Nat × Nat)}

abbrev kR (bk bm br bp : Nat) (tk : Nat → TK) (cells : Nat → Nat) (births : Nat) (ov : Value) : HI := (bk, Row 120 2177 (kF bm br bp tk cells births ov))
theorem tkF_e {T : TK} {i : Nat} : tkF T (7 + i * 2) = .int .i64 (T.ec i : Nat) := by
  unfold tkF
  rw [if_neg (by omega), if_pos (by omega), show (7 + i * 2 - 7) / 2 = i by omega]
theorem tkF_o {T : TK} {i : Nat} : tkF T (8 + i * 2) = .int .u64 (T.eo i : Nat) := by
  unfold tkF
  rw [if_neg (by omega), if_neg (by omega), show (8 + i * 2 - 7) / 2 = i by omega]
theorem c_tk {j a : Nat} (hm : kR bk bm br bp tk cells births ov ∈ l) (ht : t < 16) (hj : j < 135) (ha : a = 3 + t * 135 + j) (st : S0 w0 l w) : w.cell? ⟨bk, a, none⟩ = some (tkF (tk t) j) := by
  rw [st.cell hm (by omega), ha, kF_t ht hj]
theorem c_cell {c a : Nat} (hm : kR bk bm br bp tk cells births ov ∈ l) (hc : c < 12) (ha : a = 2163 + c) (st : S0 w0 l w) : w.cell? ⟨bk, a, none⟩ = some (.int .u64 (cells c : Nat)) := by
  rw [st.cell hm (by omega), ha]
  unfold kF
  rw [if_neg (by omega), if_neg (by omega), if_pos (by omega), show 2163 + c - 2163 = c by omega]
theorem kF_setU {T' : TK} {j m a : Nat} {g : Nat → Value} (ht : t < 16) (hj : j + m ≤ 135) (ha : a = 3 + t * 135 + j) (hT : ∀ i, i < 135 → tkF T' i = if j ≤ i ∧ i < j + m then g (i - j) else tkF (tk t) i) : ∀ k, k < 2177 → upds (kF bm br bp tk cells births ov) a m g k = kF bm br bp (updN tk t T') cells births ov k := fun k hk => by
  subst ha
  rw [upds_eq]
  unfold kF updN
  by_cases h : 3 + t * 135 + j ≤ k ∧ k < 3 + t * 135 + j + m
  · rw [if_pos h, if_neg (by omega), if_pos (by omega), if_pos (by omega), hT _ (by omega), if_pos (by omega), show (k - 3) % 135 - j = k - (3 + t * 135 + j) by omega]
  · rw [if_neg h]
    by_cases h1 : k < 3
    · rw [if_pos h1, if_pos h1]
    · rw [if_neg h1, if_neg h1]
      by_cases h2 : k < 2163
      · rw [if_pos h2, if_pos h2]
        by_cases h3 : (k - 3) / 135 = t
        · rw [if_pos h3, hT _ (by omega), if_neg (by omega), h3]
        · rw [if_neg h3]
      · rw [if_neg h2, if_neg h2]
theorem kF_setT' {T' : TK} {j a : Nat} {v : Value} (ht : t < 16) (hj : j < 135) (ha : a = 3 + t * 135 + j) (hT : ∀ i, i < 135 → tkF T' i = if i = j then v else tkF (tk t) i) : ∀ k, k < 2177 → upd (kF bm br bp tk cells births ov) a v k = kF bm br bp (updN tk t T') cells births ov k := by
  have := kF_setT (bm := bm) (br := br) (bp := bp) (tk := tk) (cells := cells) (births := births) (ov := ov) (T' := T') (v := v) ht hj hT
  rw [show 0 + 3 + t * 135 + j = a by omega] at this
  exact this
theorem updN_updN {α : Type} {f : Nat → α} {i : Nat} {a b : α} : updN (updN f i a) i b = updN f i b := by
  funext j
  unfold updN
  split <;> rfl
/-- A field of a task, changed. -/
theorem tkF_low {T T' : TK} {j : Nat} (h1 : T'.ec = T.ec) (h2 : T'.eo = T.eo) (hj : j < 7) (h : ∀ i, i < 7 → i ≠ j → tkF T' i = tkF T i) : ∀ i, i < 135 → tkF T' i = if i = j then tkF T' j else tkF T i := fun i _ => by
  by_cases hi : i = j
  · rw [if_pos hi, hi]
  · rw [if_neg hi]
    by_cases h7 : i < 7
    · exact h i h7 hi
    · unfold tkF
      rw [if_neg h7, if_neg h7, h1, h2]
theorem full_ok {a : Nat} (hm : kR bk bm br bp tk cells births ov ∈ l) (ht : t < 16) (ha : a = 3 + t * 135 + 6) (st : S0 w0 l w) :
    Calls Tryz.prog 108 #[.pointer (some ⟨bk, a, none⟩)] w (Ret fun v w' => v = .bool ((tk t).n == 64) ∧ S0 w0 l w') := by
  refine enter [.pointer (some ⟨bk, a, none⟩)] Tryz.func108 rfl Tryz.ntmps108 rfl ?_
  show WC _ _ _ 8 [] [(0, .pointer (some ⟨bk, a, none⟩))] _
  refine WC.seq fun K488 hK488 => ?_
  -- region 0
  refine WC.region ?_
  -- R0.0 2 := undo.go:17 assign
  refine WL.v (by first | exact r_assign (v := .bool _) rfl | exact r_assign rfl) rfl rfl rfl ?_
  refine WL.fin hK488 (fun _ _ h => h) ?_
  refine WC.seq fun K489 hK489 => ?_
  -- region 1
  refine WC.region ?_
  -- R1.0 3 := undo.go:17 move
  refine WL.v (by first | exact r_move (v := .pointer _) rfl | exact r_move rfl) rfl rfl rfl ?_
  -- R1.1 4 := undo.go:17 nilCheck
  refine WL.v (by exact r_nilCheck rfl) rfl rfl rfl ?_
  -- R1.2 5 := undo.go:17 fieldAddr
  refine WL.v (by exact r_field ty_fld115_0 rfl) rfl rfl rfl ?_
  -- R1.3 6 := undo.go:17 load
  refine WL.v (by exact r_load1 (v := .int .i64 ((tk t).n : Nat)) ty_one3 rfl (c_tk hm ht (j := 6) (by omega) (by omega) st)) rfl rfl rfl ?_
  -- R1.4 7 := undo.go:17 binOp
  refine WL.v (by exact r_eql (t := (tk t).n == 64) rfl rfl (beqI (b := 64))) rfl rfl rfl ?_
  -- R1.5 2 := undo.go:17 assign
  refine WL.v (by first | exact r_assign (v := .bool _) rfl | exact r_assign rfl) rfl rfl rfl ?_
  refine WL.fin hK489 (fun _ _ h => h) ?_
  refine WC.ret1 Tryz.results108 (fun _ _ h => h) rfl ?_
  exact ⟨_, rfl, rfl, st⟩
theorem forget_ok {a : Nat} (ht : t < 16) (ha : a = 3 + t * 135 + 6) (st : S0 w0 (kR bk bm br bp tk cells births ov :: l) w) :
    Calls Tryz.prog 110 #[.pointer (some ⟨bk, a, none⟩)] w (Ret fun v w' => v = .tuple #[] ∧ S0 w0 (kR bk bm br bp (updN tk t { tk t with n := 0 }) cells births ov :: l) w') := by
  refine enter [.pointer (some ⟨bk, a, none⟩)] Tryz.func110 rfl Tryz.ntmps110 rfl ?_
  show WC _ _ _ 5 [] [(0, .pointer (some ⟨bk, a, none⟩))] _
  -- region 0
  refine WC.region ?_
  -- R0.0 2 := undo.go:44 move
  refine WL.v (by first | exact r_move (v := .pointer _) rfl | exact r_move rfl) rfl rfl rfl ?_
  -- R0.1 3 := undo.go:44 nilCheck
  refine WL.v (by exact r_nilCheck rfl) rfl rfl rfl ?_
  -- R0.2 4 := undo.go:44 fieldAddr
  refine WL.v (by exact r_field ty_fld115_0 rfl) rfl rfl rfl ?_
  -- R0.3 None := undo.go:44 store
  first | refine WL.store (v := .int _ _) st ty_one3 rfl rfl rfl (by first | decide | omega) rfl rfl ?_ | refine WL.store (v := _) st ty_one3 rfl rfl rfl (by first | decide | omega) rfl rfl ?_ | refine WL.store (v := .int _ _) st.front1 ty_one3 rfl rfl rfl (by first | decide | omega) rfl rfl ?_ | refine WL.store (v := _) st.front1 ty_one3 rfl rfl rfl (by first | decide | omega) rfl rfl ?_ | refine WL.store (v := .int _ _) st.front2 ty_one3 rfl rfl rfl (by first | decide | omega) rfl rfl ?_ | refine WL.store (v := _) st.front2 ty_one3 rfl rfl rfl (by first | decide | omega) rfl rfl ?_ | refine WL.store (v := .int _ _) st.front3 ty_one3 rfl rfl rfl (by first | decide | omega) rfl rfl ?_ | refine WL.store (v := _) st.front3 ty_one3 rfl rfl rfl (by first | decide | omega) rfl rfl ?_ | refine WL.store (v := .int _ _) st.front4 ty_one3 rfl rfl rfl (by first | decide | omega) rfl rfl ?_ | refine WL.store (v := _) st.front4 ty_one3 rfl rfl rfl (by first | decide | omega) rfl rfl ?_ | refine WL.store (v := .int _ _) st.front5 ty_one3 rfl rfl rfl (by first | decide | omega) rfl rfl ?_ | refine WL.store (v := _) st.front5 ty_one3 rfl rfl rfl (by first | decide | omega) rfl rfl ?_ | refine WL.store (v := .int _ _) st.front6 ty_one3 rfl rfl rfl (by first | decide | omega) rfl rfl ?_ | refine WL.store (v := _) st.front6 ty_one3 rfl rfl rfl (by first | decide | omega) rfl rfl ?_ | refine WL.store (v := .int _ _) st.front7 ty_one3 rfl rfl rfl (by first | decide | omega) rfl rfl ?_ | refine WL.store (v := _) st.front7 ty_one3 rfl rfl rfl (by first | decide | omega) rfl rfl ?_ | refine WL.store (v := .int _ _) st.front8 ty_one3 rfl rfl rfl (by first | decide | omega) rfl rfl ?_ | refine WL.store (v := _) st.front8 ty_one3 rfl rfl rfl (by first | decide | omega) rfl rfl ?_
  intro w st
  refine WL.end0 Tryz.results110 (fun _ _ h => h) ?_
  exact ⟨_, rfl, rfl, stE (kF_setT' (j := 6) ht (by decide) (by omega) (tkF_low (T := tk t) (T' := { tk t with n := 0 }) rfl rfl (by decide) (fun i h1 h2 => by match i with | 0 | 1 | 2 | 3 | 4 | 5 => rfl | 6 => exact absurd rfl h2 | i + 7 => omega))) st⟩
def entP (T : TK) (c old : Nat) : TK := { T with ec := updN T.ec T.n c, eo := updN T.eo T.n old }
theorem tkF_ent {T : TK} {c old i : Nat} : tkF (entP T c old) i = if 7 + T.n * 2 ≤ i ∧ i < 7 + T.n * 2 + 2 then nth [.int .i64 (c : Nat), .int .u64 (old : Nat)] (i - (7 + T.n * 2)) else tkF T i := by
  by_cases h7 : i < 7
  · rw [if_neg (by omega)]; unfold tkF; rw [if_pos h7, if_pos h7]; rfl
  · unfold tkF
    rw [if_neg h7, if_neg h7]
    show (if (i - 7) % 2 = 0 then Value.int .i64 (updN T.ec T.n c ((i - 7) / 2) : Nat) else Value.int .u64 (updN T.eo T.n old ((i - 7) / 2) : Nat)) = _
    unfold updN
    by_cases h2 : (i - 7) % 2 = 0
    · rw [if_pos h2, if_pos h2]
      by_cases h3 : (i - 7) / 2 = T.n
      · rw [if_pos h3, if_pos (by omega), show i - (7 + T.n * 2) = 0 by omega]; rfl
      · rw [if_neg h3, if_neg (by omega)]
    · rw [if_neg h2, if_neg h2]
      by_cases h3 : (i - 7) / 2 = T.n
      · rw [if_pos h3, if_pos (by omega), show i - (7 + T.n * 2) = 1 by omega]; rfl
      · rw [if_neg h3, if_neg (by omega)]
def pushP (T : TK) (c old : Nat) : TK := { T with n := T.n + 1, ec := updN T.ec T.n c, eo := updN T.eo T.n old }
set_option maxHeartbeats 4000000 in
theorem push_ok {a c old : Nat} (ht : t < 16) (ha : a = 3 + t * 135 + 6) (hn : (tk t).n < 64) (st : S0 w0 (kR bk bm br bp tk cells births ov :: l) w) :
    Calls Tryz.prog 109 #[.pointer (some ⟨bk, a, none⟩), .int .i64 (c : Nat), .int .u64 (old : Nat)] w (Ret fun v w' => v = .tuple #[] ∧ S0 w0 (kR bk bm br bp (updN tk t (pushP (tk t) c old)) cells births ov :: l) w') := by
  have hrd : ∀ {w : World}, S0 w0 (kR bk bm br bp tk cells births ov :: l) w → w.cell? ⟨bk, a + 0, none⟩ = some (.int .i64 ((tk t).n : Nat)) := fun st => c_tk List.mem_cons_self ht (j := 6) (by omega) (by omega) st
  refine enter [.pointer (some ⟨bk, a, none⟩), .int .i64 (c : Nat), .int .u64 (old : Nat)] Tryz.func109 rfl Tryz.ntmps109 rfl ?_
  show WC _ _ _ 24 [] [(0, .pointer (some ⟨bk, a, none⟩)), (1, .int .i64 (c : Nat)), (2, .int .u64 (old : Nat))] _
  refine WC.seq fun K490 hK490 => ?_
  -- region 0 (draws)
  refine WC.tailS 11 st ty_mixed (by kernel_rfl) fun w st Kq hKq => ?_
  -- R0.0 6 := undo.go:21 move
  refine SL.v (by first | exact r_move (v := .pointer _) rfl | exact r_move rfl) rfl rfl rfl ?_
  -- R0.1 7 := undo.go:21 move
  refine SL.v (by first | exact r_move (v := .pointer _) rfl | exact r_move rfl) rfl rfl rfl ?_
  -- R0.2 8 := undo.go:21 nilCheck
  refine SL.v (by exact r_nilCheck rfl) rfl rfl rfl ?_
  -- R0.3 9 := undo.go:21 fieldAddr
  refine SL.v (by exact r_field ty_fld115_0 rfl) rfl rfl rfl ?_
  -- R0.4 10 := undo.go:21 load
  refine SL.v (by exact r_load1 (v := .int .i64 ((tk t).n : Nat)) ty_one3 rfl (hrd st)) rfl rfl rfl ?_
  -- R0.5 11 := undo.go:21 move
  refine SL.v (by first | exact r_move (v := .int _ _) rfl | exact r_move rfl) rfl rfl rfl ?_
  -- R0.6 12 := undo.go:21 move
  refine SL.v (by first | exact r_move (v := .int _ _) rfl | exact r_move rfl) rfl rfl rfl ?_
  -- R0.7 13 := undo.go:21 build
  refine SL.v (by exact r_build (ps := [(0, .int _ _), (1, .int _ _)]) (vs := [_, _]) ty_pl112 ty_zero112 rfl (fill_step (pv := [_]) (cs' := [_, _]) rfl rfl rfl rfl (fill_step (pv := [_]) (cs' := [_, _]) rfl rfl rfl rfl (fill_nil)))) rfl rfl rfl ?_
  -- R0.8 14 := undo.go:21 nilCheck
  refine SL.v (by exact r_nilCheck rfl) rfl rfl rfl ?_
  -- R0.9 15 := undo.go:21 fieldAddr
  refine SL.v (by exact r_field ty_fld115_1 rfl) rfl rfl rfl ?_
  -- R0.10 16 := undo.go:21 indexAddr
  refine SL.v (by exact r_indexA ty_ar113 rfl rfl rfl (by omega)) rfl rfl rfl ?_
  refine SL.fin hKq ?_
  -- R0.11 None := undo.go:21 store
  refine WL.storeL (vs := [.int .i64 (c : Nat), .int .u64 (old : Nat)]) st ty_agg112 rfl rfl rfl rfl (by omega) rfl rfl ?_
  intro w st
  have st : S0 w0 (kR bk bm br bp (updN tk t (entP (tk t) c old)) cells births ov :: l) w := stE (kF_setU (j := 7 + (tk t).n * 2) ht (by omega) (by omega) (fun i hi => tkF_ent)) st
  refine WL.fin hK490 (fun _ _ h => h) ?_
  -- region 1
  refine WC.region ?_
  -- R1.0 17 := undo.go:22 move
  refine WL.v (by first | exact r_move (v := .pointer _) rfl | exact r_move rfl) rfl rfl rfl ?_
  -- R1.1 18 := undo.go:22 nilCheck
  refine WL.v (by exact r_nilCheck rfl) rfl rfl rfl ?_
  -- R1.2 19 := undo.go:22 fieldAddr
  refine WL.v (by exact r_field ty_fld115_0 rfl) rfl rfl rfl ?_
  -- R1.3 20 := undo.go:22 load
  refine WL.v (by exact r_load1 (v := .int .i64 ((tk t).n : Nat)) ty_one3 rfl (by rw [c_tk List.mem_cons_self ht (j := 6) (by omega) (by omega) st, updN_same]; rfl)) rfl rfl rfl ?_
  -- R1.4 21 := undo.go:22 binOp
  refine WL.v (by first | exact r_add rfl rfl (wi64 (by omega) (by omega)) | exact r_add rfl rfl rfl) rfl rfl rfl ?_
  -- R1.5 22 := undo.go:22 nilCheck
  refine WL.v (by exact r_nilCheck rfl) rfl rfl rfl ?_
  -- R1.6 23 := undo.go:22 fieldAddr
  refine WL.v (by exact r_field ty_fld115_0 rfl) rfl rfl rfl ?_
  -- R1.7 None := undo.go:22 store
  first | refine WL.store (v := .int _ _) st ty_one3 rfl rfl rfl (by first | decide | omega) rfl rfl ?_ | refine WL.store (v := _) st ty_one3 rfl rfl rfl (by first | decide | omega) rfl rfl ?_ | refine WL.store (v := .int _ _) st.front1 ty_one3 rfl rfl rfl (by first | decide | omega) rfl rfl ?_ | refine WL.store (v := _) st.front1 ty_one3 rfl rfl rfl (by first | decide | omega) rfl rfl ?_ | refine WL.store (v := .int _ _) st.front2 ty_one3 rfl rfl rfl (by first | decide | omega) rfl rfl ?_ | refine WL.store (v := _) st.front2 ty_one3 rfl rfl rfl (by first | decide | omega) rfl rfl ?_ | refine WL.store (v := .int _ _) st.front3 ty_one3 rfl rfl rfl (by first | decide | omega) rfl rfl ?_ | refine WL.store (v := _) st.front3 ty_one3 rfl rfl rfl (by first | decide | omega) rfl rfl ?_ | refine WL.store (v := .int _ _) st.front4 ty_one3 rfl rfl rfl (by first | decide | omega) rfl rfl ?_ | refine WL.store (v := _) st.front4 ty_one3 rfl rfl rfl (by first | decide | omega) rfl rfl ?_ | refine WL.store (v := .int _ _) st.front5 ty_one3 rfl rfl rfl (by first | decide | omega) rfl rfl ?_ | refine WL.store (v := _) st.front5 ty_one3 rfl rfl rfl (by first | decide | omega) rfl rfl ?_ | refine WL.store (v := .int _ _) st.front6 ty_one3 rfl rfl rfl (by first | decide | omega) rfl rfl ?_ | refine WL.store (v := _) st.front6 ty_one3 rfl rfl rfl (by first | decide | omega) rfl rfl ?_ | refine WL.store (v := .int _ _) st.front7 ty_one3 rfl rfl rfl (by first | decide | omega) rfl rfl ?_ | refine WL.store (v := _) st.front7 ty_one3 rfl rfl rfl (by first | decide | omega) rfl rfl ?_ | refine WL.store (v := .int _ _) st.front8 ty_one3 rfl rfl rfl (by first | decide | omega) rfl rfl ?_ | refine WL.store (v := _) st.front8 ty_one3 rfl rfl rfl (by first | decide | omega) rfl rfl ?_
  intro w st
  refine WL.end0 Tryz.results109 (fun _ _ h => h) ?_
  have st := stE (kF_setT' (T' := pushP (tk t) c old) (j := 6) ht (by decide) (by omega) (fun i hi => by rw [updN_same]; exact (tkF_low (T := entP (tk t) c old) (T' := pushP (tk t) c old) (j := 6) rfl rfl (by decide) (fun i h1 h2 => by match i with | 0 | 1 | 2 | 3 | 4 | 5 => rfl | 6 => exact absurd rfl h2 | i + 7 => omega)) i hi)) st
  rw [updN_updN] at st
  exact ⟨_, rfl, rfl, st⟩
def touchesP (T : TK) (c : Nat) : Bool := (List.range T.n).any fun i => T.ec i == c
theorem any_succ {p : Nat → Bool} {n : Nat} : (List.range (n + 1)).any p = ((List.range n).any p || p n) := by rw [List.range_succ, List.any_append]; simp
theorem any_at {p : Nat → Bool} {n i : Nat} (hi : i < n) (h : p i = true) : (List.range n).any p = true := List.any_eq_true.2 ⟨i, List.mem_range.2 hi, h⟩
theorem touches_ok {a c : Nat} (hm : kR bk bm br bp tk cells births ov ∈ l) (ht : t < 16) (ha : a = 3 + t * 135 + 6) (hn : (tk t).n ≤ 64) (st : S0 w0 l w) :
    Calls Tryz.prog 105 #[.pointer (some ⟨bk, a, none⟩), .int .i64 (c : Nat)] w (Ret fun v w' => v = .bool (touchesP (tk t) c) ∧ S0 w0 l w') := by
  refine enter [.pointer (some ⟨bk, a, none⟩), .int .i64 (c : Nat)] Tryz.func105 rfl Tryz.ntmps105 rfl ?_
  show WC _ _ _ 23 [] [(0, .pointer (some ⟨bk, a, none⟩)), (1, .int .i64 (c : Nat))] _
  refine WC.seq fun K491 hK491 => ?_
  -- region 0
  refine WC.region ?_
  -- R0.0 4 := undo.go:26 assign
  refine WL.v (by first | exact r_assign (v := .bool _) rfl | exact r_assign rfl) rfl rfl rfl ?_
  refine WL.fin hK491 (fun _ _ h => h) ?_
  refine WC.seq fun K492 hK492 => ?_
  refine WC.seq fun K493 hK493 => ?_
  -- region 1
  refine WC.region ?_
  -- R1.0 5 := undo.go:27 assign
  refine WL.v (by first | exact r_assign (v := .int _ _) rfl | exact r_assign rfl) rfl rfl rfl ?_
  refine WL.fin hK493 (fun _ _ h => h) ?_
  refine WC.block ?_
  refine WC.loop (ι := Nat) (fun i => [(0, .pointer (some ⟨bk, a, none⟩)), (1, .int .i64 (c : Nat)), (5, .int .i64 (i : Nat))])
    (fun i w' => i ≤ (tk t).n ∧ (List.range i).any (fun i => (tk t).ec i == c) = false ∧ S0 w0 l w') (fun i => (tk t).n - i) 0 ⟨Nat.zero_le _, rfl, st⟩ ?_ ?_
  · skip
    repeat (first | exact sub_nil _ | refine sub_cons rfl rfl ?_)
  clear st
  rintro i w ⟨hi, hal, st⟩ K1 hK1
  by_cases hin : i = (tk t).n
  · skip
    refine WC.seq fun K494 hK494 => ?_
    refine WC.seq fun K495 hK495 => ?_
    -- region 2
    refine WC.region ?_
    -- R2.0 6 := undo.go:27 move
    refine WL.v (by first | exact r_move (v := .int _ _) rfl | exact r_move rfl) rfl rfl rfl ?_
    -- R2.1 7 := undo.go:27 move
    refine WL.v (by first | exact r_move (v := .pointer _) rfl | exact r_move rfl) rfl rfl rfl ?_
    -- R2.2 8 := undo.go:27 nilCheck
    refine WL.v (by exact r_nilCheck rfl) rfl rfl rfl ?_
    -- R2.3 9 := undo.go:27 fieldAddr
    refine WL.v (by exact r_field ty_fld115_0 rfl) rfl rfl rfl ?_
    -- R2.4 10 := undo.go:27 load
    refine WL.v (by exact r_load1 (v := .int .i64 ((tk t).n : Nat)) ty_one3 rfl (c_tk hm ht (j := 6) (by omega) (by omega) st)) rfl rfl rfl ?_
    -- R2.5 11 := undo.go:27 binOp
    refine WL.v (by first | exact r_lss rfl rfl (decide_eq_true (by omega)) | exact r_lss rfl rfl (decide_eq_false (by omega)) | exact r_lss rfl rfl rfl) rfl rfl rfl ?_
    refine WL.fin hK495 (fun _ _ h => h) ?_
    refine WC.condF rfl rfl ?_
    refine WC.exitF hK492 (fun _ _ h => h) ?_
    refine WC.seq fun K496 hK496 => ?_
    -- region 6
    refine WC.region ?_
    -- R6.0 4 := undo.go:32 assign
    refine WL.v (by first | exact r_assign (v := .bool _) rfl | exact r_assign rfl) rfl rfl rfl ?_
    refine WL.fin hK496 (fun _ _ h => h) ?_
    refine WC.ret1 Tryz.results105 (fun _ _ h => h) rfl ?_
    exact ⟨_, rfl, by rw [hin] at hal; rw [show touchesP (tk t) c = false from hal]; rfl, st⟩
  by_cases hp : (tk t).ec i = c
  · skip
    refine WC.seq fun K497 hK497 => ?_
    refine WC.seq fun K498 hK498 => ?_
    -- region 2
    refine WC.region ?_
    -- R2.0 6 := undo.go:27 move
    refine WL.v (by first | exact r_move (v := .int _ _) rfl | exact r_move rfl) rfl rfl rfl ?_
    -- R2.1 7 := undo.go:27 move
    refine WL.v (by first | exact r_move (v := .pointer _) rfl | exact r_move rfl) rfl rfl rfl ?_
    -- R2.2 8 := undo.go:27 nilCheck
    refine WL.v (by exact r_nilCheck rfl) rfl rfl rfl ?_
    -- R2.3 9 := undo.go:27 fieldAddr
    refine WL.v (by exact r_field ty_fld115_0 rfl) rfl rfl rfl ?_
    -- R2.4 10 := undo.go:27 load
    refine WL.v (by exact r_load1 (v := .int .i64 ((tk t).n : Nat)) ty_one3 rfl (c_tk hm ht (j := 6) (by omega) (by omega) st)) rfl rfl rfl ?_
    -- R2.5 11 := undo.go:27 binOp
    refine WL.v (by first | exact r_lss rfl rfl (decide_eq_true (by omega)) | exact r_lss rfl rfl (decide_eq_false (by omega)) | exact r_lss rfl rfl rfl) rfl rfl rfl ?_
    refine WL.fin hK498 (fun _ _ h => h) ?_
    refine WC.condT rfl rfl ?_
    refine WC.skipF hK497 (fun _ _ h => h) ?_
    refine WC.seq fun K499 hK499 => ?_
    refine WC.block ?_
    refine WC.seq fun K500 hK500 => ?_
    -- region 4
    refine WC.region ?_
    -- R4.0 14 := undo.go:28 move
    refine WL.v (by first | exact r_move (v := .pointer _) rfl | exact r_move rfl) rfl rfl rfl ?_
    -- R4.1 15 := undo.go:28 move
    refine WL.v (by first | exact r_move (v := .int _ _) rfl | exact r_move rfl) rfl rfl rfl ?_
    -- R4.2 16 := undo.go:28 nilCheck
    refine WL.v (by exact r_nilCheck rfl) rfl rfl rfl ?_
    -- R4.3 17 := undo.go:28 fieldAddr
    refine WL.v (by exact r_field ty_fld115_1 rfl) rfl rfl rfl ?_
    -- R4.4 18 := undo.go:28 indexAddr
    refine WL.v (by exact r_indexA (j := i) ty_ar113 rfl rfl rfl (by omega)) rfl rfl rfl ?_
    -- R4.5 19 := undo.go:28 fieldAddr
    refine WL.v (by exact r_field ty_fld112_0 rfl) rfl rfl rfl ?_
    -- R4.6 20 := undo.go:28 load
    refine WL.v (by exact r_load1 (v := .int .i64 ((tk t).ec i : Nat)) ty_one74 rfl (by rw [c_tk hm ht (j := 7 + i * 2) (by omega) (by omega) st, tkF_e])) rfl rfl rfl ?_
    -- R4.7 21 := undo.go:28 move
    refine WL.v (by first | exact r_move (v := .int _ _) rfl | exact r_move rfl) rfl rfl rfl ?_
    -- R4.8 22 := undo.go:28 binOp
    refine WL.v (by first | exact r_eql rfl rfl (decide_eq_true (by omega)) | exact r_eql rfl rfl (decide_eq_false (by omega)) | exact r_eql rfl rfl rfl) rfl rfl rfl ?_
    refine WL.fin hK500 (fun _ _ h => h) ?_
    refine WC.condT rfl rfl ?_
    refine WC.seq fun K501 hK501 => ?_
    -- region 5
    refine WC.region ?_
    -- R5.0 4 := undo.go:29 assign
    refine WL.v (by first | exact r_assign (v := .bool _) rfl | exact r_assign rfl) rfl rfl rfl ?_
    refine WL.fin hK501 (fun _ _ h => h) ?_
    refine WC.ret1 Tryz.results105 (fun _ _ h => h) rfl ?_
    exact ⟨_, rfl, by rw [show touchesP (tk t) c = true from any_at (i := i) (by omega) (by simpa using hp)]; rfl, st⟩
  · skip
    refine WC.seq fun K502 hK502 => ?_
    refine WC.seq fun K503 hK503 => ?_
    -- region 2
    refine WC.region ?_
    -- R2.0 6 := undo.go:27 move
    refine WL.v (by first | exact r_move (v := .int _ _) rfl | exact r_move rfl) rfl rfl rfl ?_
    -- R2.1 7 := undo.go:27 move
    refine WL.v (by first | exact r_move (v := .pointer _) rfl | exact r_move rfl) rfl rfl rfl ?_
    -- R2.2 8 := undo.go:27 nilCheck
    refine WL.v (by exact r_nilCheck rfl) rfl rfl rfl ?_
    -- R2.3 9 := undo.go:27 fieldAddr
    refine WL.v (by exact r_field ty_fld115_0 rfl) rfl rfl rfl ?_
    -- R2.4 10 := undo.go:27 load
    refine WL.v (by exact r_load1 (v := .int .i64 ((tk t).n : Nat)) ty_one3 rfl (c_tk hm ht (j := 6) (by omega) (by omega) st)) rfl rfl rfl ?_
    -- R2.5 11 := undo.go:27 binOp
    refine WL.v (by first | exact r_lss rfl rfl (decide_eq_true (by omega)) | exact r_lss rfl rfl (decide_eq_false (by omega)) | exact r_lss rfl rfl rfl) rfl rfl rfl ?_
    refine WL.fin hK503 (fun _ _ h => h) ?_
    refine WC.condT rfl rfl ?_
    refine WC.skipF hK502 (fun _ _ h => h) ?_
    refine WC.seq fun K504 hK504 => ?_
    refine WC.block ?_
    refine WC.seq fun K505 hK505 => ?_
    -- region 4
    refine WC.region ?_
    -- R4.0 14 := undo.go:28 move
    refine WL.v (by first | exact r_move (v := .pointer _) rfl | exact r_move rfl) rfl rfl rfl ?_
    -- R4.1 15 := undo.go:28 move
    refine WL.v (by first | exact r_move (v := .int _ _) rfl | exact r_move rfl) rfl rfl rfl ?_
    -- R4.2 16 := undo.go:28 nilCheck
    refine WL.v (by exact r_nilCheck rfl) rfl rfl rfl ?_
    -- R4.3 17 := undo.go:28 fieldAddr
    refine WL.v (by exact r_field ty_fld115_1 rfl) rfl rfl rfl ?_
    -- R4.4 18 := undo.go:28 indexAddr
    refine WL.v (by exact r_indexA (j := i) ty_ar113 rfl rfl rfl (by omega)) rfl rfl rfl ?_
    -- R4.5 19 := undo.go:28 fieldAddr
    refine WL.v (by exact r_field ty_fld112_0 rfl) rfl rfl rfl ?_
    -- R4.6 20 := undo.go:28 load
    refine WL.v (by exact r_load1 (v := .int .i64 ((tk t).ec i : Nat)) ty_one74 rfl (by rw [c_tk hm ht (j := 7 + i * 2) (by omega) (by omega) st, tkF_e])) rfl rfl rfl ?_
    -- R4.7 21 := undo.go:28 move
    refine WL.v (by first | exact r_move (v := .int _ _) rfl | exact r_move rfl) rfl rfl rfl ?_
    -- R4.8 22 := undo.go:28 binOp
    refine WL.v (by first | exact r_eql rfl rfl (decide_eq_true (by omega)) | exact r_eql rfl rfl (decide_eq_false (by omega)) | exact r_eql rfl rfl rfl) rfl rfl rfl ?_
    refine WL.fin hK505 (fun _ _ h => h) ?_
    refine WC.condF rfl rfl ?_
    refine WC.skipF hK504 (fun _ _ h => h) ?_
    -- region 3
    refine WC.region ?_
    -- R3.0 12 := undo.go:27 move
    refine WL.v (by first | exact r_move (v := .int _ _) rfl | exact r_move rfl) rfl rfl rfl ?_
    -- R3.1 13 := undo.go:27 binOp
    refine WL.v (by first | exact r_add rfl rfl (wi64 (by omega) (by omega)) | exact r_add rfl rfl rfl) rfl rfl rfl ?_
    -- R3.2 5 := undo.go:27 assign
    refine WL.v (by first | exact r_assign (v := .int _ _) rfl | exact r_assign rfl) rfl rfl rfl ?_
    refine WL.next hK1 (fun _ _ h => h) (i + 1) ⟨by omega, by rw [any_succ, hal]; simpa using hp, st⟩ (by omega) (by repeat (first | exact sub_nil _ | refine sub_cons rfl rfl ?_))
def rollC (ec eo : Nat → Nat) : Nat → (Nat → Nat) → Nat → Nat
  | 0, c => c
  | n + 1, c => rollC ec eo n (updN c (ec n) (eo n))
set_option maxHeartbeats 4000000 in
theorem rollBack_ok {a : Nat} (ht : t < 16) (ha : a = 3 + t * 135 + 6) (hn : (tk t).n ≤ 64) (hec : ∀ i, (tk t).ec i < 12) (st : S0 w0 (kR bk bm br bp tk cells births ov :: l) w) :
    Calls Tryz.prog 151 #[.pointer (some ⟨bk, a, none⟩), .pointer (some ⟨bk, 2163, none⟩)] w (Ret fun v w' => v = .tuple #[] ∧ S0 w0 (kR bk bm br bp (updN tk t { tk t with n := 0 }) (rollC (tk t).ec (tk t).eo (tk t).n cells) births ov :: l) w') := by
  refine enter [.pointer (some ⟨bk, a, none⟩), .pointer (some ⟨bk, 2163, none⟩)] Tryz.func151 rfl Tryz.ntmps151 rfl ?_
  show WC _ _ _ 39 [] [(0, .pointer (some ⟨bk, a, none⟩)), (1, .pointer (some ⟨bk, 2163, none⟩))] _
  refine WC.block ?_
  refine WC.loop (ι := Nat × (Nat → Nat)) (fun y => [(0, .pointer (some ⟨bk, a, none⟩)), (1, .pointer (some ⟨bk, 2163, none⟩))])
    (fun y w' => y.1 ≤ 64 ∧ rollC (tk t).ec (tk t).eo (tk t).n cells = rollC (tk t).ec (tk t).eo y.1 y.2 ∧ S0 w0 (kR bk bm br bp (updN tk t { tk t with n := y.1 }) y.2 births ov :: l) w') (fun y => y.1) ((tk t).n, cells) ⟨hn, rfl, by rw [show ({ tk t with n := (tk t).n } : TK) = tk t from rfl, updN_self]; exact st⟩ ?_ ?_
  · skip
    repeat (first | exact sub_nil _ | refine sub_cons rfl rfl ?_)
  clear st
  rintro ⟨n, cs⟩ w ⟨hn, hro, st⟩ K1 hK1
  dsimp only at hn hro st ⊢
  have htn : ∀ {w : World} {m : Nat}, S0 w0 (kR bk bm br bp (updN tk t { tk t with n := m }) cs births ov :: l) w → w.cell? ⟨bk, a + 0, none⟩ = some (.int .i64 (m : Nat)) := fun st => by rw [c_tk List.mem_cons_self ht (j := 6) (by omega) (by omega) st, updN_same]; rfl
  by_cases h0 : n = 0
  · subst h0
    refine WC.seq fun K506 hK506 => ?_
    refine WC.seq fun K507 hK507 => ?_
    -- region 0
    refine WC.region ?_
    -- R0.0 4 := undo.go:37 move
    refine WL.v (by first | exact r_move (v := .pointer _) rfl | exact r_move rfl) rfl rfl rfl ?_
    -- R0.1 5 := undo.go:37 nilCheck
    refine WL.v (by exact r_nilCheck rfl) rfl rfl rfl ?_
    -- R0.2 6 := undo.go:37 fieldAddr
    refine WL.v (by exact r_field ty_fld115_0 rfl) rfl rfl rfl ?_
    -- R0.3 7 := undo.go:37 load
    refine WL.v (by exact r_load1 (v := .int .i64 ((0 : Nat) : Int)) ty_one3 rfl (htn st)) rfl rfl rfl ?_
    -- R0.4 8 := undo.go:37 binOp
    refine WL.v (by first | exact r_gtr rfl rfl (decide_eq_true (by omega)) | exact r_gtr rfl rfl (decide_eq_false (by omega)) | exact r_gtr rfl rfl rfl) rfl rfl rfl ?_
    refine WL.fin hK507 (fun _ _ h => h) ?_
    refine WC.condF rfl rfl ?_
    refine WC.exit0 Tryz.results151 (fun _ _ h => h) ?_
    exact ⟨_, rfl, rfl, by rw [hro]; exact st⟩
  obtain ⟨n, rfl⟩ : ∃ m, n = m + 1 := ⟨n - 1, by omega⟩
  have hecn := hec n
  refine WC.seq fun K508 hK508 => ?_
  refine WC.seq fun K509 hK509 => ?_
  -- region 0
  refine WC.region ?_
  -- R0.0 4 := undo.go:37 move
  refine WL.v (by first | exact r_move (v := .pointer _) rfl | exact r_move rfl) rfl rfl rfl ?_
  -- R0.1 5 := undo.go:37 nilCheck
  refine WL.v (by exact r_nilCheck rfl) rfl rfl rfl ?_
  -- R0.2 6 := undo.go:37 fieldAddr
  refine WL.v (by exact r_field ty_fld115_0 rfl) rfl rfl rfl ?_
  -- R0.3 7 := undo.go:37 load
  refine WL.v (by exact r_load1 (v := .int .i64 ((n + 1 : Nat) : Int)) ty_one3 rfl (htn st)) rfl rfl rfl ?_
  -- R0.4 8 := undo.go:37 binOp
  refine WL.v (by first | exact r_gtr rfl rfl (decide_eq_true (by omega)) | exact r_gtr rfl rfl (decide_eq_false (by omega)) | exact r_gtr rfl rfl rfl) rfl rfl rfl ?_
  refine WL.fin hK509 (fun _ _ h => h) ?_
  refine WC.condT rfl rfl ?_
  refine WC.skipF hK508 (fun _ _ h => h) ?_
  refine WC.block ?_
  refine WC.seq fun K510 hK510 => ?_
  -- region 1
  refine WC.region ?_
  -- R1.0 9 := undo.go:38 move
  refine WL.v (by first | exact r_move (v := .pointer _) rfl | exact r_move rfl) rfl rfl rfl ?_
  -- R1.1 10 := undo.go:38 nilCheck
  refine WL.v (by exact r_nilCheck rfl) rfl rfl rfl ?_
  -- R1.2 11 := undo.go:38 fieldAddr
  refine WL.v (by exact r_field ty_fld115_0 rfl) rfl rfl rfl ?_
  -- R1.3 12 := undo.go:38 load
  refine WL.v (by exact r_load1 (v := .int .i64 ((n + 1 : Nat) : Int)) ty_one3 rfl (htn st)) rfl rfl rfl ?_
  -- R1.4 13 := undo.go:38 binOp
  refine WL.v (by exact r_sub (r := (n : Int)) rfl rfl ((wi64 (by omega) (by omega)).trans (by omega))) rfl rfl rfl ?_
  -- R1.5 14 := undo.go:38 nilCheck
  refine WL.v (by exact r_nilCheck rfl) rfl rfl rfl ?_
  -- R1.6 15 := undo.go:38 fieldAddr
  refine WL.v (by exact r_field ty_fld115_0 rfl) rfl rfl rfl ?_
  -- R1.7 None := undo.go:38 store
  refine WL.store (v := .int .i64 (n : Nat)) st ty_one3 rfl rfl rfl (by omega) rfl rfl ?_
  intro w st
  have st := stE (kF_setT' (T' := { tk t with n := n }) (j := 6) ht (by decide) (by omega) (fun i hi => by rw [updN_same]; exact (tkF_low (T := { tk t with n := n + 1 }) (T' := { tk t with n := n }) (j := 6) rfl rfl (by decide) (fun i h1 h2 => by match i with | 0 | 1 | 2 | 3 | 4 | 5 => rfl | 6 => exact absurd rfl h2 | i + 7 => omega)) i hi)) st
  rw [updN_updN] at st
  refine WL.fin hK510 (fun _ _ h => h) ?_
  -- region 2 (draws)
  refine WC.tailS 23 st ty_mixed (by kernel_rfl) fun w st Kq hKq => ?_
  -- R2.0 16 := undo.go:39 move
  refine SL.v (by first | exact r_move (v := .pointer _) rfl | exact r_move rfl) rfl rfl rfl ?_
  -- R2.1 17 := undo.go:39 move
  refine SL.v (by first | exact r_move (v := .pointer _) rfl | exact r_move rfl) rfl rfl rfl ?_
  -- R2.2 18 := undo.go:39 move
  refine SL.v (by first | exact r_move (v := .pointer _) rfl | exact r_move rfl) rfl rfl rfl ?_
  -- R2.3 19 := undo.go:39 nilCheck
  refine SL.v (by exact r_nilCheck rfl) rfl rfl rfl ?_
  -- R2.4 20 := undo.go:39 fieldAddr
  refine SL.v (by exact r_field ty_fld115_0 rfl) rfl rfl rfl ?_
  -- R2.5 21 := undo.go:39 load
  refine SL.v (by exact r_load1 (v := .int .i64 (n : Nat)) ty_one3 rfl (htn st)) rfl rfl rfl ?_
  -- R2.6 22 := undo.go:39 nilCheck
  refine SL.v (by exact r_nilCheck rfl) rfl rfl rfl ?_
  -- R2.7 23 := undo.go:39 fieldAddr
  refine SL.v (by exact r_field ty_fld115_1 rfl) rfl rfl rfl ?_
  -- R2.8 24 := undo.go:39 indexAddr
  refine SL.v (by exact r_indexA (j := n) ty_ar113 rfl rfl rfl (by omega)) rfl rfl rfl ?_
  -- R2.9 25 := undo.go:39 fieldAddr
  refine SL.v (by exact r_field ty_fld112_0 rfl) rfl rfl rfl ?_
  -- R2.10 26 := undo.go:39 load
  refine SL.v (by exact r_load1 (v := .int .i64 ((tk t).ec n : Nat)) ty_one74 rfl (by rw [c_tk List.mem_cons_self ht (j := 7 + n * 2) (by omega) (by omega) st, updN_same, tkF_e])) rfl rfl rfl ?_
  -- R2.11 27 := undo.go:39 move
  refine SL.v (by first | exact r_move (v := .pointer _) rfl | exact r_move rfl) rfl rfl rfl ?_
  -- R2.12 28 := undo.go:39 move
  refine SL.v (by first | exact r_move (v := .pointer _) rfl | exact r_move rfl) rfl rfl rfl ?_
  -- R2.13 29 := undo.go:39 nilCheck
  refine SL.v (by exact r_nilCheck rfl) rfl rfl rfl ?_
  -- R2.14 30 := undo.go:39 fieldAddr
  refine SL.v (by exact r_field ty_fld115_0 rfl) rfl rfl rfl ?_
  -- R2.15 31 := undo.go:39 load
  refine SL.v (by exact r_load1 (v := .int .i64 (n : Nat)) ty_one3 rfl (htn st)) rfl rfl rfl ?_
  -- R2.16 32 := undo.go:39 nilCheck
  refine SL.v (by exact r_nilCheck rfl) rfl rfl rfl ?_
  -- R2.17 33 := undo.go:39 fieldAddr
  refine SL.v (by exact r_field ty_fld115_1 rfl) rfl rfl rfl ?_
  -- R2.18 34 := undo.go:39 indexAddr
  refine SL.v (by exact r_indexA (j := n) ty_ar113 rfl rfl rfl (by omega)) rfl rfl rfl ?_
  -- R2.19 35 := undo.go:39 fieldAddr
  refine SL.v (by exact r_field ty_fld112_1 rfl) rfl rfl rfl ?_
  -- R2.20 36 := undo.go:39 load
  refine SL.v (by exact r_load1 (v := .int .u64 ((tk t).eo n : Nat)) ty_one26 rfl (by rw [c_tk List.mem_cons_self ht (j := 8 + n * 2) (by omega) (by omega) st, updN_same, tkF_o])) rfl rfl rfl ?_
  -- R2.21 37 := undo.go:39 nilCheck
  refine SL.v (by exact r_nilCheck rfl) rfl rfl rfl ?_
  -- R2.22 38 := undo.go:39 indexAddr
  refine SL.v (by exact r_indexA (j := (tk t).ec n) ty_ar48 rfl rfl rfl hecn) rfl rfl rfl ?_
  refine SL.fin hKq ?_
  -- R2.23 None := undo.go:39 store
  first | refine WL.store (v := .int _ _) st ty_one26 rfl rfl rfl (by first | decide | omega) rfl rfl ?_ | refine WL.store (v := _) st ty_one26 rfl rfl rfl (by first | decide | omega) rfl rfl ?_ | refine WL.store (v := .int _ _) st.front1 ty_one26 rfl rfl rfl (by first | decide | omega) rfl rfl ?_ | refine WL.store (v := _) st.front1 ty_one26 rfl rfl rfl (by first | decide | omega) rfl rfl ?_ | refine WL.store (v := .int _ _) st.front2 ty_one26 rfl rfl rfl (by first | decide | omega) rfl rfl ?_ | refine WL.store (v := _) st.front2 ty_one26 rfl rfl rfl (by first | decide | omega) rfl rfl ?_ | refine WL.store (v := .int _ _) st.front3 ty_one26 rfl rfl rfl (by first | decide | omega) rfl rfl ?_ | refine WL.store (v := _) st.front3 ty_one26 rfl rfl rfl (by first | decide | omega) rfl rfl ?_ | refine WL.store (v := .int _ _) st.front4 ty_one26 rfl rfl rfl (by first | decide | omega) rfl rfl ?_ | refine WL.store (v := _) st.front4 ty_one26 rfl rfl rfl (by first | decide | omega) rfl rfl ?_ | refine WL.store (v := .int _ _) st.front5 ty_one26 rfl rfl rfl (by first | decide | omega) rfl rfl ?_ | refine WL.store (v := _) st.front5 ty_one26 rfl rfl rfl (by first | decide | omega) rfl rfl ?_ | refine WL.store (v := .int _ _) st.front6 ty_one26 rfl rfl rfl (by first | decide | omega) rfl rfl ?_ | refine WL.store (v := _) st.front6 ty_one26 rfl rfl rfl (by first | decide | omega) rfl rfl ?_ | refine WL.store (v := .int _ _) st.front7 ty_one26 rfl rfl rfl (by first | decide | omega) rfl rfl ?_ | refine WL.store (v := _) st.front7 ty_one26 rfl rfl rfl (by first | decide | omega) rfl rfl ?_ | refine WL.store (v := .int _ _) st.front8 ty_one26 rfl rfl rfl (by first | decide | omega) rfl rfl ?_ | refine WL.store (v := _) st.front8 ty_one26 rfl rfl rfl (by first | decide | omega) rfl rfl ?_
  intro w st
  refine WL.next hK1 (fun _ _ h => h) (n, updN cs ((tk t).ec n) ((tk t).eo n)) ⟨by show n ≤ 64; omega, hro, by have := stE (kF_setC (x := (tk t).eo n) hecn) (by rw [show 0 + 2163 + (tk t).ec n * 1 = 2163 + (tk t).ec n * 1 by omega]; exact st); exact this⟩ (by show n < n + 1; omega) (by repeat (first | exact sub_nil _ | refine sub_cons rfl rfl ?_))
end Go.Proofs.Qxb6500834aGreatDoor

