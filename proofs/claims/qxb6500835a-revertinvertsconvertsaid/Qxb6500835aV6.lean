import Derived.Test.Qxb6500835aV5
set_option linter.unusedVariables false
set_option linter.unusedSimpArgs false
namespace Go.Proofs.Qxb6500835a
open Go.RowKit Go.E1 Go.Conv

theorem bas_le {a l : Nat → Nat} : ∀ q, (∀ g, g < q → a g ≤ l g) → bas a q ≤ bas l q
  | 0, _ => Nat.le_refl _
  | q + 1, h => by
    have h1 := bas_le q fun g hg => h g (by omega)
    have h2 := h q (by omega)
    simp only [bas]; omega

theorem bas_lt {a l : Nat → Nat} : ∀ q g, g < q → a g < l g → (∀ g, g < q → a g ≤ l g) → bas a q < bas l q
  | 0, _, h, _, _ => by omega
  | q + 1, g, hg, hlt, h => by
    simp only [bas]
    by_cases hgq : g = q
    · subst hgq
      have := bas_le g fun u hu => h u (by omega)
      omega
    · have h1 := bas_lt q g (by omega) hlt fun u hu => h u (by omega)
      have h2 := h q (by omega)
      omega

theorem flat_len {α : Type} (a : Nat → Nat) (F : Nat → Nat → α) : ∀ q, ((List.range q).flatMap fun g => (List.range (a g)).map (F g)).length = bas a q
  | 0 => rfl
  | q + 1 => by
    rw [List.range_succ, List.flatMap_append, List.length_append, flat_len a F q]
    simp [bas]

theorem mg_len {q : Nat} {l : Nat → Nat} {D : Nat → Nat → Int} {I : Nat → Int} {at' : Nat → Nat} {k : Nat} {B : Nat → Pr} (h : Mg q l D I at' k B) : k = bas at' q := by
  have := h.perm.length_eq
  rw [flat_len at' (fun g j => (D g j, I g)) q] at this
  simpa using this.symm

/-- Groups as they came in. -/
def GIn (w : World) (g o q : Nat) (I : Nat → Int) (da : Nat → Option Addr) (db dO dl dc : Nat → Nat) (D : Nat → Nat → Int) : Prop :=
  ∀ i, i < q → w.cell? ⟨g, o + i * 2, none⟩ = some (.int .u8 (I i)) ∧ w.cell? ⟨g, o + i * 2 + 1, none⟩ = some (.slice (da i) (dl i) (dc i)) ∧ (0 < dl i → da i = some ⟨db i, dO i, none⟩) ∧
    ∀ j, j < dl i → w.cell? ⟨db i, dO i + j * 1, none⟩ = some (.int .u32 (D i j))

/-- A list in a row. -/
def LsR (f : Nat → Value) (n : Nat) (B : Nat → Pr) : Prop := ∀ i, i < n → f (0 + i * 2) = .int .u32 (B i).1 ∧ f (0 + i * 2 + 1) = .int .u8 (B i).2

theorem LsR.more {f : Nat → Value} {n : Nat} {B : Nat → Pr} (h : LsR f n B) (p : Pr) : LsR (upds f (0 + n * 2) (1 * 2) (fun j => nth [.int .u32 p.1, .int .u8 p.2] (0 + j))) (n + 1) (fun a => if a = n then p else B a) := by
  intro k hk
  by_cases hkn : k = n
  · subst hkn
    simp only [upds_eq, if_pos rfl]
    constructor
    · rw [if_pos (by omega), show 0 + k * 2 - (0 + k * 2) = 0 by omega]; rfl
    · rw [if_pos (by omega), show 0 + k * 2 + 1 - (0 + k * 2) = 1 by omega]; rfl
  · simp only [upds_eq, if_neg hkn]
    rw [if_neg (by omega), if_neg (by omega)]
    exact h k (by omega)

/-- A state of the merge's loop. -/
structure MgI where
  k : Nat
  B : Nat → Pr
  f : Nat → Value
  ta : Nat → Nat
  n : Nat
  fi : Nat → Value
  it : Nat → Nat × Nat

set_option maxHeartbeats 16000000 in
theorem revert_ok (ga : Option Addr) (q gc g o : Nat) (I : Nat → Int) (da : Nat → Option Addr) (db dO dl dc : Nat → Nat) (D : Nat → Nat → Int) {w0 : World} {M : Nat → Prop} {L : List HI} {w : World} (hq : q ≤ 65536) (htot : bas dl q ≤ 65536) (hadr : 0 < q → ga = some ⟨g, o, none⟩)
    (hrd : ∀ its w', St w0 M (its ++ L) w' → GIn w' g o q I da db dO dl dc D) (st : St w0 M L w) :
    Calls Try.prog 6 #[.slice ga q gc] w (Ret fun v w' =>
      (¬ (Vg q dl D I ∧ Dist q dl D) ∧ (∃ b, v = .tuple #[.slice none 0 0, .iface 75 (.pointer (some ⟨b, 0, none⟩))]) ∧ St w0 M L w') ∨
      (Vg q dl D I ∧ ∃ lb B f, v = .tuple #[.slice (some ⟨lb, 0, none⟩) (bas dl q) (bas dl q), .nilIface] ∧ Out (bas dl q) B (cat D I dl q) q (bas dl) ∧ (∀ a b, a < b → b < bas dl q → (B a).1 < (B b).1) ∧ LsR f (bas dl q) B ∧ St w0 M ((lb, Row 63 (bas dl q * 2) f) :: L) w')) := by
  refine enter [.slice ga q gc] Try.func6 rfl Try.ntmps6 rfl ?_
  show WC _ _ _ 150 [] [(0, .slice ga q gc)] _
  refine WC.seq fun K438 hK438 => ?_
  -- region 0
  refine WC.region ?_
  -- R0.0 1 := convert.go:142 box
  first | refine WL.box (m := 1) (vs := [.slice _ _ _]) st rfl rfl rfl rfl rfl rfl ?_ | refine WL.box (m := 1) (vs := [_]) st rfl rfl rfl rfl rfl rfl ?_ | refine WL.box st rfl rfl rfl rfl rfl rfl ?_
  intro b1 w st
  -- R0.1 2 := convert.go:142 assign
  refine WL.v (by first | exact r_assign (v := .slice _ _ _) rfl | exact r_assign rfl) rfl rfl rfl ?_
  -- R0.2 3 := convert.go:142 assign
  refine WL.v (by first | exact r_assign (v := .nilIface) rfl | exact r_assign (v := .iface _ _) rfl | exact r_assign rfl) rfl rfl rfl ?_
  refine WL.fin hK438 (fun _ _ h => h) ?_
  refine WC.seq fun K439 hK439 => ?_
  -- region 1
  refine WC.region ?_
  -- R1.0 4 := convert.go:143 assign
  refine WL.v (by first | exact r_assign (v := .int _ _) rfl | exact r_assign rfl) rfl rfl rfl ?_
  refine WL.fin hK439 (fun _ _ h => h) ?_
  refine WC.seq fun K440 hK440 => ?_
  refine WC.seq fun K441 hK441 => ?_
  -- region 2
  refine WC.region ?_
  -- R2.0 15 := convert.go:144 load
  refine WL.v (by exact r_load1 ty_one37 rfl (by first | assumption | exact st.c0 (by first | decide | omega) | exact st.c1 (by first | decide | omega) | exact st.c2 (by first | decide | omega) | exact st.c3 (by first | decide | omega) | exact st.c4 (by first | decide | omega) | exact st.c5 (by first | decide | omega) | exact st.c6 (by first | decide | omega) | exact st.c7 (by first | decide | omega) | exact st.c8 (by first | decide | omega))) rfl rfl rfl ?_
  -- R2.1 16 := convert.go:144 call
  refine WL.v (by exact r_len ty_usl37 rfl) rfl rfl rfl ?_
  -- R2.2 17 := convert.go:144 move
  refine WL.v (by first | exact r_move (v := .int _ _) rfl | exact r_move rfl) rfl rfl rfl ?_
  refine WL.fin hK441 (fun _ _ h => h) ?_
  refine WC.block ?_
  refine WC.loop (ι := Nat) (fun k => [(1, .pointer (some ⟨b1, 0, none⟩)), (4, .int .i64 (bas dl k : Nat)), (15, .slice ga q gc), (16, .int .i64 (q : Nat)), (17, .int .i64 (k : Nat))])
    (fun k w' => St w0 M ((b1, Row 37 1 (nth [.slice ga q gc])) :: L) w' ∧ k ≤ q ∧ Vg k dl D I) (fun k => q - k) 0 ⟨st, Nat.zero_le _, fun g hg => absurd hg (Nat.not_lt_zero _)⟩ ?_ ?_
  · skip
    repeat (first | exact sub_nil _ | refine sub_cons rfl rfl ?_)
  rintro k w ⟨st, hk, hv⟩ K1 hK1
  by_cases hlt : k < q
  · obtain rfl := hadr (by omega)
    have hg := fun w' (s' : St w0 M ((b1, Row 37 1 (nth [.slice (some ⟨g, o, none⟩) q gc])) :: L) w') => hrd [_] w' s' k hlt
    have hdk : bas dl k + dl k ≤ bas dl q := bas_mono dl (show k + 1 ≤ q by omega)
    by_cases hz : I k = 0
    · skip
      refine WC.seq fun K442 hK442 => ?_
      -- region 3
      refine WC.region ?_
      -- R3.0 18 := convert.go:144 binOp
      refine WL.v (by first | exact r_lss rfl rfl (decide_eq_true (by omega)) | exact r_lss rfl rfl (decide_eq_false (by omega)) | exact r_lss rfl rfl rfl) rfl rfl rfl ?_
      refine WL.fin hK442 (fun _ _ h => h) ?_
      refine WC.seq fun K443 hK443 => ?_
      refine WC.condT rfl rfl ?_
      refine WC.skipF hK443 (fun _ _ h => h) ?_
      refine WC.seq fun K444 hK444 => ?_
      refine WC.block ?_
      refine WC.seq fun K445 hK445 => ?_
      -- region 4
      refine WC.region ?_
      -- R4.0 19 := convert.go:144 move
      refine WL.v (by first | exact r_move (v := .int _ _) rfl | exact r_move rfl) rfl rfl rfl ?_
      -- R4.1 20 := convert.go:144 indexAddr
      refine WL.v (by exact r_indexS ty_sl37 rfl rfl rfl (by omega)) rfl rfl rfl ?_
      -- R4.2 21 := convert.go:144 load
      refine WL.v (by exact r_loadL (vs := [_, _]) ty_agg60 rfl ⟨((hg _ st).1), ((hg _ st).2.1), trivial⟩) rfl rfl rfl ?_
      -- R4.3 6 := convert.go:144 alloc
      refine WL.alloc st ty_zero60 rfl rfl rfl ?_
      intro b6 w st
      -- R4.4 5 := convert.go:144 assign
      refine WL.v (by first | exact r_assign (v := .int _ _) rfl | exact r_assign rfl) rfl rfl rfl ?_
      -- R4.5 None := convert.go:144 store
      first | refine WL.storeW (vs := [_, _]) st ty_agg60 rfl rfl rfl rfl rfl rfl ?_ | refine WL.storeL (vs := [_, _]) st ty_agg60 rfl rfl rfl rfl (by first | decide | omega) rfl rfl ?_ | refine WL.storeW (vs := [_, _]) st.front1 ty_agg60 rfl rfl rfl rfl rfl rfl ?_ | refine WL.storeL (vs := [_, _]) st.front1 ty_agg60 rfl rfl rfl rfl (by first | decide | omega) rfl rfl ?_ | refine WL.storeW (vs := [_, _]) st.front2 ty_agg60 rfl rfl rfl rfl rfl rfl ?_ | refine WL.storeL (vs := [_, _]) st.front2 ty_agg60 rfl rfl rfl rfl (by first | decide | omega) rfl rfl ?_ | refine WL.storeW (vs := [_, _]) st.front3 ty_agg60 rfl rfl rfl rfl rfl rfl ?_ | refine WL.storeL (vs := [_, _]) st.front3 ty_agg60 rfl rfl rfl rfl (by first | decide | omega) rfl rfl ?_ | refine WL.storeW (vs := [_, _]) st.front4 ty_agg60 rfl rfl rfl rfl rfl rfl ?_ | refine WL.storeL (vs := [_, _]) st.front4 ty_agg60 rfl rfl rfl rfl (by first | decide | omega) rfl rfl ?_ | refine WL.storeW (vs := [_, _]) st.front5 ty_agg60 rfl rfl rfl rfl rfl rfl ?_ | refine WL.storeL (vs := [_, _]) st.front5 ty_agg60 rfl rfl rfl rfl (by first | decide | omega) rfl rfl ?_ | refine WL.storeW (vs := [_, _]) st.front6 ty_agg60 rfl rfl rfl rfl rfl rfl ?_ | refine WL.storeL (vs := [_, _]) st.front6 ty_agg60 rfl rfl rfl rfl (by first | decide | omega) rfl rfl ?_ | refine WL.storeW (vs := [_, _]) st.front7 ty_agg60 rfl rfl rfl rfl rfl rfl ?_ | refine WL.storeL (vs := [_, _]) st.front7 ty_agg60 rfl rfl rfl rfl (by first | decide | omega) rfl rfl ?_ | refine WL.storeW (vs := [_, _]) st.front8 ty_agg60 rfl rfl rfl rfl rfl rfl ?_ | refine WL.storeL (vs := [_, _]) st.front8 ty_agg60 rfl rfl rfl rfl (by first | decide | omega) rfl rfl ?_
      intro w st
      refine WL.fin hK445 (fun _ _ h => h) ?_
      refine WC.seq fun K446 hK446 => ?_
      refine WC.seq fun K447 hK447 => ?_
      -- region 5
      refine WC.region ?_
      -- R5.0 22 := convert.go:145 fieldAddr
      refine WL.v (by exact r_field ty_fld60_0 rfl) rfl rfl rfl ?_
      -- R5.1 23 := convert.go:145 load
      refine WL.v (by exact r_load1 ty_one5 rfl (by first | assumption | exact st.c0 (by first | decide | omega) | exact st.c1 (by first | decide | omega) | exact st.c2 (by first | decide | omega) | exact st.c3 (by first | decide | omega) | exact st.c4 (by first | decide | omega) | exact st.c5 (by first | decide | omega) | exact st.c6 (by first | decide | omega) | exact st.c7 (by first | decide | omega) | exact st.c8 (by first | decide | omega))) rfl rfl rfl ?_
      -- R5.2 24 := convert.go:145 binOp
      refine WL.v (by first | exact r_eql rfl rfl (decide_eq_true (by omega)) | exact r_eql rfl rfl (decide_eq_false (by omega)) | exact r_eql rfl rfl rfl) rfl rfl rfl ?_
      refine WL.fin hK447 (fun _ _ h => h) ?_
      refine WC.condT rfl rfl ?_
      refine WC.seq fun K448 hK448 => ?_
      -- region 6
      refine WC.region ?_
      -- R6.0 25 := convert.go:146 call
      refine WL.call (r_call ty_call9 rfl) rfl rfl rfl (badInput_ok _ _ _ st) ?_
      rintro _ w ⟨eb, rfl, st⟩
      -- R6.1 2 := convert.go:146 assign
      refine WL.v (by first | exact r_assign (v := .slice _ _ _) rfl | exact r_assign rfl) rfl rfl rfl ?_
      -- R6.2 3 := convert.go:146 assign
      refine WL.v (by first | exact r_assign (v := .nilIface) rfl | exact r_assign (v := .iface _ _) rfl | exact r_assign rfl) rfl rfl rfl ?_
      refine WL.fin hK448 (fun _ _ h => h) ?_
      refine WC.ret2 Try.results6 (fun _ _ h => h) rfl ?_
      exact ⟨_, rfl, .inl ⟨fun h => (h.1 k hlt).1 hz, ⟨_, rfl⟩, st.drop.drop.drop⟩⟩
    by_cases hfall : 0 < k ∧ ¬ I k < I (k - 1)
    · skip
      refine WC.seq fun K449 hK449 => ?_
      -- region 3
      refine WC.region ?_
      -- R3.0 18 := convert.go:144 binOp
      refine WL.v (by first | exact r_lss rfl rfl (decide_eq_true (by omega)) | exact r_lss rfl rfl (decide_eq_false (by omega)) | exact r_lss rfl rfl rfl) rfl rfl rfl ?_
      refine WL.fin hK449 (fun _ _ h => h) ?_
      refine WC.seq fun K450 hK450 => ?_
      refine WC.condT rfl rfl ?_
      refine WC.skipF hK450 (fun _ _ h => h) ?_
      refine WC.seq fun K451 hK451 => ?_
      refine WC.block ?_
      refine WC.seq fun K452 hK452 => ?_
      -- region 4
      refine WC.region ?_
      -- R4.0 19 := convert.go:144 move
      refine WL.v (by first | exact r_move (v := .int _ _) rfl | exact r_move rfl) rfl rfl rfl ?_
      -- R4.1 20 := convert.go:144 indexAddr
      refine WL.v (by exact r_indexS ty_sl37 rfl rfl rfl (by omega)) rfl rfl rfl ?_
      -- R4.2 21 := convert.go:144 load
      refine WL.v (by exact r_loadL (vs := [_, _]) ty_agg60 rfl ⟨((hg _ st).1), ((hg _ st).2.1), trivial⟩) rfl rfl rfl ?_
      -- R4.3 6 := convert.go:144 alloc
      refine WL.alloc st ty_zero60 rfl rfl rfl ?_
      intro b6 w st
      -- R4.4 5 := convert.go:144 assign
      refine WL.v (by first | exact r_assign (v := .int _ _) rfl | exact r_assign rfl) rfl rfl rfl ?_
      -- R4.5 None := convert.go:144 store
      first | refine WL.storeW (vs := [_, _]) st ty_agg60 rfl rfl rfl rfl rfl rfl ?_ | refine WL.storeL (vs := [_, _]) st ty_agg60 rfl rfl rfl rfl (by first | decide | omega) rfl rfl ?_ | refine WL.storeW (vs := [_, _]) st.front1 ty_agg60 rfl rfl rfl rfl rfl rfl ?_ | refine WL.storeL (vs := [_, _]) st.front1 ty_agg60 rfl rfl rfl rfl (by first | decide | omega) rfl rfl ?_ | refine WL.storeW (vs := [_, _]) st.front2 ty_agg60 rfl rfl rfl rfl rfl rfl ?_ | refine WL.storeL (vs := [_, _]) st.front2 ty_agg60 rfl rfl rfl rfl (by first | decide | omega) rfl rfl ?_ | refine WL.storeW (vs := [_, _]) st.front3 ty_agg60 rfl rfl rfl rfl rfl rfl ?_ | refine WL.storeL (vs := [_, _]) st.front3 ty_agg60 rfl rfl rfl rfl (by first | decide | omega) rfl rfl ?_ | refine WL.storeW (vs := [_, _]) st.front4 ty_agg60 rfl rfl rfl rfl rfl rfl ?_ | refine WL.storeL (vs := [_, _]) st.front4 ty_agg60 rfl rfl rfl rfl (by first | decide | omega) rfl rfl ?_ | refine WL.storeW (vs := [_, _]) st.front5 ty_agg60 rfl rfl rfl rfl rfl rfl ?_ | refine WL.storeL (vs := [_, _]) st.front5 ty_agg60 rfl rfl rfl rfl (by first | decide | omega) rfl rfl ?_ | refine WL.storeW (vs := [_, _]) st.front6 ty_agg60 rfl rfl rfl rfl rfl rfl ?_ | refine WL.storeL (vs := [_, _]) st.front6 ty_agg60 rfl rfl rfl rfl (by first | decide | omega) rfl rfl ?_ | refine WL.storeW (vs := [_, _]) st.front7 ty_agg60 rfl rfl rfl rfl rfl rfl ?_ | refine WL.storeL (vs := [_, _]) st.front7 ty_agg60 rfl rfl rfl rfl (by first | decide | omega) rfl rfl ?_ | refine WL.storeW (vs := [_, _]) st.front8 ty_agg60 rfl rfl rfl rfl rfl rfl ?_ | refine WL.storeL (vs := [_, _]) st.front8 ty_agg60 rfl rfl rfl rfl (by first | decide | omega) rfl rfl ?_
      intro w st
      refine WL.fin hK452 (fun _ _ h => h) ?_
      refine WC.seq fun K453 hK453 => ?_
      refine WC.seq fun K454 hK454 => ?_
      -- region 5
      refine WC.region ?_
      -- R5.0 22 := convert.go:145 fieldAddr
      refine WL.v (by exact r_field ty_fld60_0 rfl) rfl rfl rfl ?_
      -- R5.1 23 := convert.go:145 load
      refine WL.v (by exact r_load1 ty_one5 rfl (by first | assumption | exact st.c0 (by first | decide | omega) | exact st.c1 (by first | decide | omega) | exact st.c2 (by first | decide | omega) | exact st.c3 (by first | decide | omega) | exact st.c4 (by first | decide | omega) | exact st.c5 (by first | decide | omega) | exact st.c6 (by first | decide | omega) | exact st.c7 (by first | decide | omega) | exact st.c8 (by first | decide | omega))) rfl rfl rfl ?_
      -- R5.2 24 := convert.go:145 binOp
      refine WL.v (by first | exact r_eql rfl rfl (decide_eq_true (by omega)) | exact r_eql rfl rfl (decide_eq_false (by omega)) | exact r_eql rfl rfl rfl) rfl rfl rfl ?_
      refine WL.fin hK454 (fun _ _ h => h) ?_
      refine WC.condF rfl rfl ?_
      refine WC.skipF hK453 (fun _ _ h => h) ?_
      refine WC.seq fun K455 hK455 => ?_
      refine WC.seq fun K456 hK456 => ?_
      -- region 7 (draws)
      refine WC.quietS st ty_mixed (by kernel_rfl) fun Kq hKq => ?_
      -- R7.0 26 := convert.go:148 move
      refine QL.v (fun w st => by first | exact r_move (v := .int _ _) rfl | exact r_move rfl) rfl rfl rfl ?_
      -- R7.1 27 := convert.go:148 binOp
      refine QL.v (fun w st => by first | exact r_gtr rfl rfl (decide_eq_true (by omega)) | exact r_gtr rfl rfl (decide_eq_false (by omega)) | exact r_gtr rfl rfl rfl) rfl rfl rfl ?_
      -- R7.2 28 := convert.go:148 move
      refine QL.v (fun w st => by first | exact r_move (v := .bool _) rfl | exact r_move rfl) rfl rfl rfl ?_
      -- R7.3 29 := convert.go:148 load
      refine QL.v (fun w st => by exact r_load1 ty_one37 rfl (by first | assumption | exact st.c0 (by first | decide | omega) | exact st.c1 (by first | decide | omega) | exact st.c2 (by first | decide | omega) | exact st.c3 (by first | decide | omega) | exact st.c4 (by first | decide | omega) | exact st.c5 (by first | decide | omega) | exact st.c6 (by first | decide | omega) | exact st.c7 (by first | decide | omega) | exact st.c8 (by first | decide | omega))) rfl rfl rfl ?_
      -- R7.4 30 := convert.go:148 move
      refine QL.v (fun w st => by first | exact r_move (v := .int _ _) rfl | exact r_move rfl) rfl rfl rfl ?_
      -- R7.5 31 := convert.go:148 binOp
      refine QL.v (fun w st => by exact r_sub (r := ((k - 1 : Nat) : Int)) rfl rfl (by rw [wi64 (by omega) (by omega)]; omega)) rfl rfl rfl ?_
      -- R7.6 32 := convert.go:148 indexAddr
      refine QL.v (fun w st => by exact r_indexS (j := k - 1) ty_sl37 rfl rfl (by omega) (by omega)) rfl rfl rfl ?_
      -- R7.7 33 := convert.go:148 fieldAddr
      refine QL.v (fun w st => by exact r_field ty_fld60_0 rfl) rfl rfl rfl ?_
      -- R7.8 34 := convert.go:148 load
      refine QL.v (fun w st => by exact r_load1 ty_one5 rfl ((hrd [_, _] _ st (k - 1) (by omega)).1)) rfl rfl rfl ?_
      -- R7.9 35 := convert.go:148 fieldAddr
      refine QL.v (fun w st => by exact r_field ty_fld60_0 rfl) rfl rfl rfl ?_
      -- R7.10 36 := convert.go:148 load
      refine QL.v (fun w st => by exact r_load1 ty_one5 rfl (by first | assumption | exact st.c0 (by first | decide | omega) | exact st.c1 (by first | decide | omega) | exact st.c2 (by first | decide | omega) | exact st.c3 (by first | decide | omega) | exact st.c4 (by first | decide | omega) | exact st.c5 (by first | decide | omega) | exact st.c6 (by first | decide | omega) | exact st.c7 (by first | decide | omega) | exact st.c8 (by first | decide | omega))) rfl rfl rfl ?_
      -- R7.11 37 := convert.go:148 binOp
      refine QL.v (fun w st => by first | exact r_leq rfl rfl (decide_eq_true (by omega)) | exact r_leq rfl rfl (decide_eq_false (by omega)) | exact r_leq rfl rfl rfl) rfl rfl rfl ?_
      -- R7.12 38 := convert.go:148 pick
      refine QL.v (fun w st => by first | exact r_pickT (v := .bool _) rfl rfl | exact r_pickF (v := .bool _) rfl rfl) rfl rfl rfl ?_
      refine QL.wl hKq fun w st => ?_
      refine WL.fin hK456 (fun _ _ h => h) ?_
      refine WC.condT rfl rfl ?_
      refine WC.seq fun K457 hK457 => ?_
      -- region 8
      refine WC.region ?_
      -- R8.0 39 := convert.go:149 call
      refine WL.call (r_call ty_call9 rfl) rfl rfl rfl (badInput_ok _ _ _ st) ?_
      rintro _ w ⟨eb, rfl, st⟩
      -- R8.1 2 := convert.go:149 assign
      refine WL.v (by first | exact r_assign (v := .slice _ _ _) rfl | exact r_assign rfl) rfl rfl rfl ?_
      -- R8.2 3 := convert.go:149 assign
      refine WL.v (by first | exact r_assign (v := .nilIface) rfl | exact r_assign (v := .iface _ _) rfl | exact r_assign rfl) rfl rfl rfl ?_
      refine WL.fin hK457 (fun _ _ h => h) ?_
      refine WC.ret2 Try.results6 (fun _ _ h => h) rfl ?_
      exact ⟨_, rfl, .inl ⟨fun h => hfall.2 ((h.1 k hlt).2.1 hfall.1), ⟨_, rfl⟩, st.drop.drop.drop⟩⟩
    have hfall' : 0 < k → I k < I (k - 1) := fun h => by
      by_cases h' : I k < I (k - 1)
      · exact h'
      · exact absurd ⟨h, h'⟩ hfall
    by_cases hk0 : 0 < k
    · have hf' := hfall' hk0
      by_cases hz0 : dl k = 0
      · skip
        refine WC.seq fun K458 hK458 => ?_
        -- region 3
        refine WC.region ?_
        -- R3.0 18 := convert.go:144 binOp
        refine WL.v (by first | exact r_lss rfl rfl (decide_eq_true (by omega)) | exact r_lss rfl rfl (decide_eq_false (by omega)) | exact r_lss rfl rfl rfl) rfl rfl rfl ?_
        refine WL.fin hK458 (fun _ _ h => h) ?_
        refine WC.seq fun K459 hK459 => ?_
        refine WC.condT rfl rfl ?_
        refine WC.skipF hK459 (fun _ _ h => h) ?_
        refine WC.seq fun K460 hK460 => ?_
        refine WC.block ?_
        refine WC.seq fun K461 hK461 => ?_
        -- region 4
        refine WC.region ?_
        -- R4.0 19 := convert.go:144 move
        refine WL.v (by first | exact r_move (v := .int _ _) rfl | exact r_move rfl) rfl rfl rfl ?_
        -- R4.1 20 := convert.go:144 indexAddr
        refine WL.v (by exact r_indexS ty_sl37 rfl rfl rfl (by omega)) rfl rfl rfl ?_
        -- R4.2 21 := convert.go:144 load
        refine WL.v (by exact r_loadL (vs := [_, _]) ty_agg60 rfl ⟨((hg _ st).1), ((hg _ st).2.1), trivial⟩) rfl rfl rfl ?_
        -- R4.3 6 := convert.go:144 alloc
        refine WL.alloc st ty_zero60 rfl rfl rfl ?_
        intro b6 w st
        -- R4.4 5 := convert.go:144 assign
        refine WL.v (by first | exact r_assign (v := .int _ _) rfl | exact r_assign rfl) rfl rfl rfl ?_
        -- R4.5 None := convert.go:144 store
        first | refine WL.storeW (vs := [_, _]) st ty_agg60 rfl rfl rfl rfl rfl rfl ?_ | refine WL.storeL (vs := [_, _]) st ty_agg60 rfl rfl rfl rfl (by first | decide | omega) rfl rfl ?_ | refine WL.storeW (vs := [_, _]) st.front1 ty_agg60 rfl rfl rfl rfl rfl rfl ?_ | refine WL.storeL (vs := [_, _]) st.front1 ty_agg60 rfl rfl rfl rfl (by first | decide | omega) rfl rfl ?_ | refine WL.storeW (vs := [_, _]) st.front2 ty_agg60 rfl rfl rfl rfl rfl rfl ?_ | refine WL.storeL (vs := [_, _]) st.front2 ty_agg60 rfl rfl rfl rfl (by first | decide | omega) rfl rfl ?_ | refine WL.storeW (vs := [_, _]) st.front3 ty_agg60 rfl rfl rfl rfl rfl rfl ?_ | refine WL.storeL (vs := [_, _]) st.front3 ty_agg60 rfl rfl rfl rfl (by first | decide | omega) rfl rfl ?_ | refine WL.storeW (vs := [_, _]) st.front4 ty_agg60 rfl rfl rfl rfl rfl rfl ?_ | refine WL.storeL (vs := [_, _]) st.front4 ty_agg60 rfl rfl rfl rfl (by first | decide | omega) rfl rfl ?_ | refine WL.storeW (vs := [_, _]) st.front5 ty_agg60 rfl rfl rfl rfl rfl rfl ?_ | refine WL.storeL (vs := [_, _]) st.front5 ty_agg60 rfl rfl rfl rfl (by first | decide | omega) rfl rfl ?_ | refine WL.storeW (vs := [_, _]) st.front6 ty_agg60 rfl rfl rfl rfl rfl rfl ?_ | refine WL.storeL (vs := [_, _]) st.front6 ty_agg60 rfl rfl rfl rfl (by first | decide | omega) rfl rfl ?_ | refine WL.storeW (vs := [_, _]) st.front7 ty_agg60 rfl rfl rfl rfl rfl rfl ?_ | refine WL.storeL (vs := [_, _]) st.front7 ty_agg60 rfl rfl rfl rfl (by first | decide | omega) rfl rfl ?_ | refine WL.storeW (vs := [_, _]) st.front8 ty_agg60 rfl rfl rfl rfl rfl rfl ?_ | refine WL.storeL (vs := [_, _]) st.front8 ty_agg60 rfl rfl rfl rfl (by first | decide | omega) rfl rfl ?_
        intro w st
        refine WL.fin hK461 (fun _ _ h => h) ?_
        refine WC.seq fun K462 hK462 => ?_
        refine WC.seq fun K463 hK463 => ?_
        -- region 5
        refine WC.region ?_
        -- R5.0 22 := convert.go:145 fieldAddr
        refine WL.v (by exact r_field ty_fld60_0 rfl) rfl rfl rfl ?_
        -- R5.1 23 := convert.go:145 load
        refine WL.v (by exact r_load1 ty_one5 rfl (by first | assumption | exact st.c0 (by first | decide | omega) | exact st.c1 (by first | decide | omega) | exact st.c2 (by first | decide | omega) | exact st.c3 (by first | decide | omega) | exact st.c4 (by first | decide | omega) | exact st.c5 (by first | decide | omega) | exact st.c6 (by first | decide | omega) | exact st.c7 (by first | decide | omega) | exact st.c8 (by first | decide | omega))) rfl rfl rfl ?_
        -- R5.2 24 := convert.go:145 binOp
        refine WL.v (by first | exact r_eql rfl rfl (decide_eq_true (by omega)) | exact r_eql rfl rfl (decide_eq_false (by omega)) | exact r_eql rfl rfl rfl) rfl rfl rfl ?_
        refine WL.fin hK463 (fun _ _ h => h) ?_
        refine WC.condF rfl rfl ?_
        refine WC.skipF hK462 (fun _ _ h => h) ?_
        refine WC.seq fun K464 hK464 => ?_
        refine WC.seq fun K465 hK465 => ?_
        -- region 7 (draws)
        refine WC.quietS st ty_mixed (by kernel_rfl) fun Kq hKq => ?_
        -- R7.0 26 := convert.go:148 move
        refine QL.v (fun w st => by first | exact r_move (v := .int _ _) rfl | exact r_move rfl) rfl rfl rfl ?_
        -- R7.1 27 := convert.go:148 binOp
        refine QL.v (fun w st => by first | exact r_gtr rfl rfl (decide_eq_true (by omega)) | exact r_gtr rfl rfl (decide_eq_false (by omega)) | exact r_gtr rfl rfl rfl) rfl rfl rfl ?_
        -- R7.2 28 := convert.go:148 move
        refine QL.v (fun w st => by first | exact r_move (v := .bool _) rfl | exact r_move rfl) rfl rfl rfl ?_
        -- R7.3 29 := convert.go:148 load
        refine QL.v (fun w st => by exact r_load1 ty_one37 rfl (by first | assumption | exact st.c0 (by first | decide | omega) | exact st.c1 (by first | decide | omega) | exact st.c2 (by first | decide | omega) | exact st.c3 (by first | decide | omega) | exact st.c4 (by first | decide | omega) | exact st.c5 (by first | decide | omega) | exact st.c6 (by first | decide | omega) | exact st.c7 (by first | decide | omega) | exact st.c8 (by first | decide | omega))) rfl rfl rfl ?_
        -- R7.4 30 := convert.go:148 move
        refine QL.v (fun w st => by first | exact r_move (v := .int _ _) rfl | exact r_move rfl) rfl rfl rfl ?_
        -- R7.5 31 := convert.go:148 binOp
        refine QL.v (fun w st => by exact r_sub (r := ((k - 1 : Nat) : Int)) rfl rfl (by rw [wi64 (by omega) (by omega)]; omega)) rfl rfl rfl ?_
        -- R7.6 32 := convert.go:148 indexAddr
        refine QL.v (fun w st => by exact r_indexS (j := k - 1) ty_sl37 rfl rfl (by omega) (by omega)) rfl rfl rfl ?_
        -- R7.7 33 := convert.go:148 fieldAddr
        refine QL.v (fun w st => by exact r_field ty_fld60_0 rfl) rfl rfl rfl ?_
        -- R7.8 34 := convert.go:148 load
        refine QL.v (fun w st => by exact r_load1 ty_one5 rfl ((hrd [_, _] _ st (k - 1) (by omega)).1)) rfl rfl rfl ?_
        -- R7.9 35 := convert.go:148 fieldAddr
        refine QL.v (fun w st => by exact r_field ty_fld60_0 rfl) rfl rfl rfl ?_
        -- R7.10 36 := convert.go:148 load
        refine QL.v (fun w st => by exact r_load1 ty_one5 rfl (by first | assumption | exact st.c0 (by first | decide | omega) | exact st.c1 (by first | decide | omega) | exact st.c2 (by first | decide | omega) | exact st.c3 (by first | decide | omega) | exact st.c4 (by first | decide | omega) | exact st.c5 (by first | decide | omega) | exact st.c6 (by first | decide | omega) | exact st.c7 (by first | decide | omega) | exact st.c8 (by first | decide | omega))) rfl rfl rfl ?_
        -- R7.11 37 := convert.go:148 binOp
        refine QL.v (fun w st => by first | exact r_leq rfl rfl (decide_eq_true (by omega)) | exact r_leq rfl rfl (decide_eq_false (by omega)) | exact r_leq rfl rfl rfl) rfl rfl rfl ?_
        -- R7.12 38 := convert.go:148 pick
        refine QL.v (fun w st => by first | exact r_pickT (v := .bool _) rfl rfl | exact r_pickF (v := .bool _) rfl rfl) rfl rfl rfl ?_
        refine QL.wl hKq fun w st => ?_
        refine WL.fin hK465 (fun _ _ h => h) ?_
        refine WC.condF rfl rfl ?_
        refine WC.skipF hK464 (fun _ _ h => h) ?_
        refine WC.seq fun K466 hK466 => ?_
        refine WC.seq fun K467 hK467 => ?_
        -- region 9
        refine WC.region ?_
        -- R9.0 40 := convert.go:151 fieldAddr
        refine WL.v (by exact r_field ty_fld60_1 rfl) rfl rfl rfl ?_
        -- R9.1 41 := convert.go:151 load
        refine WL.v (by exact r_load1 ty_one58 rfl (by first | assumption | exact st.c0 (by first | decide | omega) | exact st.c1 (by first | decide | omega) | exact st.c2 (by first | decide | omega) | exact st.c3 (by first | decide | omega) | exact st.c4 (by first | decide | omega) | exact st.c5 (by first | decide | omega) | exact st.c6 (by first | decide | omega) | exact st.c7 (by first | decide | omega) | exact st.c8 (by first | decide | omega))) rfl rfl rfl ?_
        -- R9.2 42 := convert.go:151 call
        refine WL.v (by exact r_len ty_usl58 rfl) rfl rfl rfl ?_
        -- R9.3 43 := convert.go:151 binOp
        refine WL.v (by first | exact r_eql rfl rfl (decide_eq_true (by omega)) | exact r_eql rfl rfl (decide_eq_false (by omega)) | exact r_eql rfl rfl rfl) rfl rfl rfl ?_
        refine WL.fin hK467 (fun _ _ h => h) ?_
        refine WC.condT rfl rfl ?_
        refine WC.seq fun K468 hK468 => ?_
        -- region 10
        refine WC.region ?_
        -- R10.0 44 := convert.go:152 call
        refine WL.call (r_call ty_call9 rfl) rfl rfl rfl (badInput_ok _ _ _ st) ?_
        rintro _ w ⟨eb, rfl, st⟩
        -- R10.1 2 := convert.go:152 assign
        refine WL.v (by first | exact r_assign (v := .slice _ _ _) rfl | exact r_assign rfl) rfl rfl rfl ?_
        -- R10.2 3 := convert.go:152 assign
        refine WL.v (by first | exact r_assign (v := .nilIface) rfl | exact r_assign (v := .iface _ _) rfl | exact r_assign rfl) rfl rfl rfl ?_
        refine WL.fin hK468 (fun _ _ h => h) ?_
        refine WC.ret2 Try.results6 (fun _ _ h => h) rfl ?_
        exact ⟨_, rfl, .inl ⟨fun h => by have := (h.1 k hlt).2.2.1; omega, ⟨_, rfl⟩, st.drop.drop.drop⟩⟩
      have hda := (hg _ st).2.2.1 (by omega)
      have hg : ∀ w', St w0 M ((b1, Row 37 1 (nth [.slice (some ⟨g, o, none⟩) q gc])) :: L) w' → w'.cell? ⟨g, o + k * 2, none⟩ = some (.int .u8 (I k)) ∧ w'.cell? ⟨g, o + k * 2 + 1, none⟩ = some (.slice (some ⟨db k, dO k, none⟩) (dl k) (dc k)) := fun w' s' => ⟨(hg w' s').1, by rw [← hda]; exact (hg w' s').2.1⟩
      refine WC.seq fun K469 hK469 => ?_
      -- region 3
      refine WC.region ?_
      -- R3.0 18 := convert.go:144 binOp
      refine WL.v (by first | exact r_lss rfl rfl (decide_eq_true (by omega)) | exact r_lss rfl rfl (decide_eq_false (by omega)) | exact r_lss rfl rfl rfl) rfl rfl rfl ?_
      refine WL.fin hK469 (fun _ _ h => h) ?_
      refine WC.seq fun K470 hK470 => ?_
      refine WC.condT rfl rfl ?_
      refine WC.skipF hK470 (fun _ _ h => h) ?_
      refine WC.seq fun K471 hK471 => ?_
      refine WC.block ?_
      refine WC.seq fun K472 hK472 => ?_
      -- region 4
      refine WC.region ?_
      -- R4.0 19 := convert.go:144 move
      refine WL.v (by first | exact r_move (v := .int _ _) rfl | exact r_move rfl) rfl rfl rfl ?_
      -- R4.1 20 := convert.go:144 indexAddr
      refine WL.v (by exact r_indexS ty_sl37 rfl rfl rfl (by omega)) rfl rfl rfl ?_
      -- R4.2 21 := convert.go:144 load
      refine WL.v (by exact r_loadL (vs := [_, _]) ty_agg60 rfl ⟨((hg _ st).1), ((hg _ st).2), trivial⟩) rfl rfl rfl ?_
      -- R4.3 6 := convert.go:144 alloc
      refine WL.alloc st ty_zero60 rfl rfl rfl ?_
      intro b6 w st
      -- R4.4 5 := convert.go:144 assign
      refine WL.v (by first | exact r_assign (v := .int _ _) rfl | exact r_assign rfl) rfl rfl rfl ?_
      -- R4.5 None := convert.go:144 store
      first | refine WL.storeW (vs := [_, _]) st ty_agg60 rfl rfl rfl rfl rfl rfl ?_ | refine WL.storeL (vs := [_, _]) st ty_agg60 rfl rfl rfl rfl (by first | decide | omega) rfl rfl ?_ | refine WL.storeW (vs := [_, _]) st.front1 ty_agg60 rfl rfl rfl rfl rfl rfl ?_ | refine WL.storeL (vs := [_, _]) st.front1 ty_agg60 rfl rfl rfl rfl (by first | decide | omega) rfl rfl ?_ | refine WL.storeW (vs := [_, _]) st.front2 ty_agg60 rfl rfl rfl rfl rfl rfl ?_ | refine WL.storeL (vs := [_, _]) st.front2 ty_agg60 rfl rfl rfl rfl (by first | decide | omega) rfl rfl ?_ | refine WL.storeW (vs := [_, _]) st.front3 ty_agg60 rfl rfl rfl rfl rfl rfl ?_ | refine WL.storeL (vs := [_, _]) st.front3 ty_agg60 rfl rfl rfl rfl (by first | decide | omega) rfl rfl ?_ | refine WL.storeW (vs := [_, _]) st.front4 ty_agg60 rfl rfl rfl rfl rfl rfl ?_ | refine WL.storeL (vs := [_, _]) st.front4 ty_agg60 rfl rfl rfl rfl (by first | decide | omega) rfl rfl ?_ | refine WL.storeW (vs := [_, _]) st.front5 ty_agg60 rfl rfl rfl rfl rfl rfl ?_ | refine WL.storeL (vs := [_, _]) st.front5 ty_agg60 rfl rfl rfl rfl (by first | decide | omega) rfl rfl ?_ | refine WL.storeW (vs := [_, _]) st.front6 ty_agg60 rfl rfl rfl rfl rfl rfl ?_ | refine WL.storeL (vs := [_, _]) st.front6 ty_agg60 rfl rfl rfl rfl (by first | decide | omega) rfl rfl ?_ | refine WL.storeW (vs := [_, _]) st.front7 ty_agg60 rfl rfl rfl rfl rfl rfl ?_ | refine WL.storeL (vs := [_, _]) st.front7 ty_agg60 rfl rfl rfl rfl (by first | decide | omega) rfl rfl ?_ | refine WL.storeW (vs := [_, _]) st.front8 ty_agg60 rfl rfl rfl rfl rfl rfl ?_ | refine WL.storeL (vs := [_, _]) st.front8 ty_agg60 rfl rfl rfl rfl (by first | decide | omega) rfl rfl ?_
      intro w st
      refine WL.fin hK472 (fun _ _ h => h) ?_
      refine WC.seq fun K473 hK473 => ?_
      refine WC.seq fun K474 hK474 => ?_
      -- region 5
      refine WC.region ?_
      -- R5.0 22 := convert.go:145 fieldAddr
      refine WL.v (by exact r_field ty_fld60_0 rfl) rfl rfl rfl ?_
      -- R5.1 23 := convert.go:145 load
      refine WL.v (by exact r_load1 ty_one5 rfl (by first | assumption | exact st.c0 (by first | decide | omega) | exact st.c1 (by first | decide | omega) | exact st.c2 (by first | decide | omega) | exact st.c3 (by first | decide | omega) | exact st.c4 (by first | decide | omega) | exact st.c5 (by first | decide | omega) | exact st.c6 (by first | decide | omega) | exact st.c7 (by first | decide | omega) | exact st.c8 (by first | decide | omega))) rfl rfl rfl ?_
      -- R5.2 24 := convert.go:145 binOp
      refine WL.v (by first | exact r_eql rfl rfl (decide_eq_true (by omega)) | exact r_eql rfl rfl (decide_eq_false (by omega)) | exact r_eql rfl rfl rfl) rfl rfl rfl ?_
      refine WL.fin hK474 (fun _ _ h => h) ?_
      refine WC.condF rfl rfl ?_
      refine WC.skipF hK473 (fun _ _ h => h) ?_
      refine WC.seq fun K475 hK475 => ?_
      refine WC.seq fun K476 hK476 => ?_
      -- region 7 (draws)
      refine WC.quietS st ty_mixed (by kernel_rfl) fun Kq hKq => ?_
      -- R7.0 26 := convert.go:148 move
      refine QL.v (fun w st => by first | exact r_move (v := .int _ _) rfl | exact r_move rfl) rfl rfl rfl ?_
      -- R7.1 27 := convert.go:148 binOp
      refine QL.v (fun w st => by first | exact r_gtr rfl rfl (decide_eq_true (by omega)) | exact r_gtr rfl rfl (decide_eq_false (by omega)) | exact r_gtr rfl rfl rfl) rfl rfl rfl ?_
      -- R7.2 28 := convert.go:148 move
      refine QL.v (fun w st => by first | exact r_move (v := .bool _) rfl | exact r_move rfl) rfl rfl rfl ?_
      -- R7.3 29 := convert.go:148 load
      refine QL.v (fun w st => by exact r_load1 ty_one37 rfl (by first | assumption | exact st.c0 (by first | decide | omega) | exact st.c1 (by first | decide | omega) | exact st.c2 (by first | decide | omega) | exact st.c3 (by first | decide | omega) | exact st.c4 (by first | decide | omega) | exact st.c5 (by first | decide | omega) | exact st.c6 (by first | decide | omega) | exact st.c7 (by first | decide | omega) | exact st.c8 (by first | decide | omega))) rfl rfl rfl ?_
      -- R7.4 30 := convert.go:148 move
      refine QL.v (fun w st => by first | exact r_move (v := .int _ _) rfl | exact r_move rfl) rfl rfl rfl ?_
      -- R7.5 31 := convert.go:148 binOp
      refine QL.v (fun w st => by exact r_sub (r := ((k - 1 : Nat) : Int)) rfl rfl (by rw [wi64 (by omega) (by omega)]; omega)) rfl rfl rfl ?_
      -- R7.6 32 := convert.go:148 indexAddr
      refine QL.v (fun w st => by exact r_indexS (j := k - 1) ty_sl37 rfl rfl (by omega) (by omega)) rfl rfl rfl ?_
      -- R7.7 33 := convert.go:148 fieldAddr
      refine QL.v (fun w st => by exact r_field ty_fld60_0 rfl) rfl rfl rfl ?_
      -- R7.8 34 := convert.go:148 load
      refine QL.v (fun w st => by exact r_load1 ty_one5 rfl ((hrd [_, _] _ st (k - 1) (by omega)).1)) rfl rfl rfl ?_
      -- R7.9 35 := convert.go:148 fieldAddr
      refine QL.v (fun w st => by exact r_field ty_fld60_0 rfl) rfl rfl rfl ?_
      -- R7.10 36 := convert.go:148 load
      refine QL.v (fun w st => by exact r_load1 ty_one5 rfl (by first | assumption | exact st.c0 (by first | decide | omega) | exact st.c1 (by first | decide | omega) | exact st.c2 (by first | decide | omega) | exact st.c3 (by first | decide | omega) | exact st.c4 (by first | decide | omega) | exact st.c5 (by first | decide | omega) | exact st.c6 (by first | decide | omega) | exact st.c7 (by first | decide | omega) | exact st.c8 (by first | decide | omega))) rfl rfl rfl ?_
      -- R7.11 37 := convert.go:148 binOp
      refine QL.v (fun w st => by first | exact r_leq rfl rfl (decide_eq_true (by omega)) | exact r_leq rfl rfl (decide_eq_false (by omega)) | exact r_leq rfl rfl rfl) rfl rfl rfl ?_
      -- R7.12 38 := convert.go:148 pick
      refine QL.v (fun w st => by first | exact r_pickT (v := .bool _) rfl rfl | exact r_pickF (v := .bool _) rfl rfl) rfl rfl rfl ?_
      refine QL.wl hKq fun w st => ?_
      refine WL.fin hK476 (fun _ _ h => h) ?_
      refine WC.condF rfl rfl ?_
      refine WC.skipF hK475 (fun _ _ h => h) ?_
      refine WC.seq fun K477 hK477 => ?_
      refine WC.seq fun K478 hK478 => ?_
      -- region 9
      refine WC.region ?_
      -- R9.0 40 := convert.go:151 fieldAddr
      refine WL.v (by exact r_field ty_fld60_1 rfl) rfl rfl rfl ?_
      -- R9.1 41 := convert.go:151 load
      refine WL.v (by exact r_load1 ty_one58 rfl (by first | assumption | exact st.c0 (by first | decide | omega) | exact st.c1 (by first | decide | omega) | exact st.c2 (by first | decide | omega) | exact st.c3 (by first | decide | omega) | exact st.c4 (by first | decide | omega) | exact st.c5 (by first | decide | omega) | exact st.c6 (by first | decide | omega) | exact st.c7 (by first | decide | omega) | exact st.c8 (by first | decide | omega))) rfl rfl rfl ?_
      -- R9.2 42 := convert.go:151 call
      refine WL.v (by exact r_len ty_usl58 rfl) rfl rfl rfl ?_
      -- R9.3 43 := convert.go:151 binOp
      refine WL.v (by first | exact r_eql rfl rfl (decide_eq_true (by omega)) | exact r_eql rfl rfl (decide_eq_false (by omega)) | exact r_eql rfl rfl rfl) rfl rfl rfl ?_
      refine WL.fin hK478 (fun _ _ h => h) ?_
      refine WC.condF rfl rfl ?_
      refine WC.skipF hK477 (fun _ _ h => h) ?_
      refine WC.seq fun K479 hK479 => ?_
      refine WC.seq fun K480 hK480 => ?_
      -- region 11
      refine WC.region ?_
      -- R11.0 7 := convert.go:154 assign
      refine WL.v (by first | exact r_assign (v := .int _ _) rfl | exact r_assign rfl) rfl rfl rfl ?_
      refine WL.fin hK480 (fun _ _ h => h) ?_
      refine WC.block ?_
      refine WC.loop (ι := Nat) (fun j => [(1, .pointer (some ⟨b1, 0, none⟩)), (4, .int .i64 (bas dl k : Nat)), (6, .pointer (some ⟨b6, 0, none⟩)), (7, .int .i64 (j : Nat)), (15, .slice (some ⟨g, o, none⟩) q gc), (16, .int .i64 (q : Nat)), (17, .int .i64 (k : Nat))])
        (fun j w' => St w0 M ((b6, Row 60 2 (nth [.int .u8 (I k), .slice (some ⟨db k, dO k, none⟩) (dl k) (dc k)])) :: (b1, Row 37 1 (nth [.slice (some ⟨g, o, none⟩) q gc])) :: L) w' ∧ 1 ≤ j ∧ j ≤ dl k ∧ ∀ i, 0 < i → i < j → D k (i - 1) < D k i) (fun j => dl k - j) 1
        ⟨st, Nat.le_refl _, by omega, fun i h1 h2 => by omega⟩ ?_ ?_
      · skip
        repeat (first | exact sub_nil _ | refine sub_cons rfl rfl ?_)
      rintro j w ⟨st, hj1, hj, hr⟩ K2 hK2
      by_cases hjl : j < dl k
      · skip
        by_cases hge : D k (j - 1) < D k j
        · skip
          refine WC.seq fun K481 hK481 => ?_
          refine WC.seq fun K482 hK482 => ?_
          -- region 12
          refine WC.region ?_
          -- R12.0 45 := convert.go:154 move
          refine WL.v (by first | exact r_move (v := .int _ _) rfl | exact r_move rfl) rfl rfl rfl ?_
          -- R12.1 46 := convert.go:154 fieldAddr
          refine WL.v (by exact r_field ty_fld60_1 rfl) rfl rfl rfl ?_
          -- R12.2 47 := convert.go:154 load
          refine WL.v (by exact r_load1 ty_one58 rfl (by first | assumption | exact st.c0 (by first | decide | omega) | exact st.c1 (by first | decide | omega) | exact st.c2 (by first | decide | omega) | exact st.c3 (by first | decide | omega) | exact st.c4 (by first | decide | omega) | exact st.c5 (by first | decide | omega) | exact st.c6 (by first | decide | omega) | exact st.c7 (by first | decide | omega) | exact st.c8 (by first | decide | omega))) rfl rfl rfl ?_
          -- R12.3 48 := convert.go:154 call
          refine WL.v (by exact r_len ty_usl58 rfl) rfl rfl rfl ?_
          -- R12.4 49 := convert.go:154 binOp
          refine WL.v (by first | exact r_lss rfl rfl (decide_eq_true (by omega)) | exact r_lss rfl rfl (decide_eq_false (by omega)) | exact r_lss rfl rfl rfl) rfl rfl rfl ?_
          refine WL.fin hK482 (fun _ _ h => h) ?_
          refine WC.condT rfl rfl ?_
          refine WC.skipF hK481 (fun _ _ h => h) ?_
          refine WC.seq fun K483 hK483 => ?_
          refine WC.block ?_
          refine WC.seq fun K484 hK484 => ?_
          -- region 14 (draws)
          refine WC.quietS st ty_mixed (by kernel_rfl) fun Kq hKq => ?_
          -- R14.0 52 := convert.go:155 fieldAddr
          refine QL.v (fun w st => by exact r_field ty_fld60_1 rfl) rfl rfl rfl ?_
          -- R14.1 53 := convert.go:155 load
          refine QL.v (fun w st => by exact r_load1 ty_one58 rfl (by first | assumption | exact st.c0 (by first | decide | omega) | exact st.c1 (by first | decide | omega) | exact st.c2 (by first | decide | omega) | exact st.c3 (by first | decide | omega) | exact st.c4 (by first | decide | omega) | exact st.c5 (by first | decide | omega) | exact st.c6 (by first | decide | omega) | exact st.c7 (by first | decide | omega) | exact st.c8 (by first | decide | omega))) rfl rfl rfl ?_
          -- R14.2 54 := convert.go:155 move
          refine QL.v (fun w st => by first | exact r_move (v := .int _ _) rfl | exact r_move rfl) rfl rfl rfl ?_
          -- R14.3 55 := convert.go:155 binOp
          refine QL.v (fun w st => by exact r_sub (r := ((j - 1 : Nat) : Int)) rfl rfl (by rw [wi64 (by omega) (by omega)]; omega)) rfl rfl rfl ?_
          -- R14.4 56 := convert.go:155 indexAddr
          refine QL.v (fun w st => by exact r_indexS (j := j - 1) ty_sl58 rfl rfl (by omega) (by omega)) rfl rfl rfl ?_
          -- R14.5 57 := convert.go:155 load
          refine QL.v (fun w st => by exact r_load1 ty_one50 rfl ((hrd [_, _] _ st k hlt).2.2.2 (j - 1) (by omega))) rfl rfl rfl ?_
          -- R14.6 58 := convert.go:155 fieldAddr
          refine QL.v (fun w st => by exact r_field ty_fld60_1 rfl) rfl rfl rfl ?_
          -- R14.7 59 := convert.go:155 load
          refine QL.v (fun w st => by exact r_load1 ty_one58 rfl (by first | assumption | exact st.c0 (by first | decide | omega) | exact st.c1 (by first | decide | omega) | exact st.c2 (by first | decide | omega) | exact st.c3 (by first | decide | omega) | exact st.c4 (by first | decide | omega) | exact st.c5 (by first | decide | omega) | exact st.c6 (by first | decide | omega) | exact st.c7 (by first | decide | omega) | exact st.c8 (by first | decide | omega))) rfl rfl rfl ?_
          -- R14.8 60 := convert.go:155 move
          refine QL.v (fun w st => by first | exact r_move (v := .int _ _) rfl | exact r_move rfl) rfl rfl rfl ?_
          -- R14.9 61 := convert.go:155 indexAddr
          refine QL.v (fun w st => by exact r_indexS (j := j) ty_sl58 rfl rfl (by omega) (by omega)) rfl rfl rfl ?_
          -- R14.10 62 := convert.go:155 load
          refine QL.v (fun w st => by exact r_load1 ty_one50 rfl ((hrd [_, _] _ st k hlt).2.2.2 j hjl)) rfl rfl rfl ?_
          -- R14.11 63 := convert.go:155 binOp
          refine QL.v (fun w st => by first | exact r_geq rfl rfl (decide_eq_true (by omega)) | exact r_geq rfl rfl (decide_eq_false (by omega)) | exact r_geq rfl rfl rfl) rfl rfl rfl ?_
          refine QL.wl hKq fun w st => ?_
          refine WL.fin hK484 (fun _ _ h => h) ?_
          refine WC.condF rfl rfl ?_
          refine WC.skipF hK483 (fun _ _ h => h) ?_
          -- region 13
          refine WC.region ?_
          -- R13.0 50 := convert.go:154 move
          refine WL.v (by first | exact r_move (v := .int _ _) rfl | exact r_move rfl) rfl rfl rfl ?_
          -- R13.1 51 := convert.go:154 binOp
          refine WL.v (by first | exact r_add rfl rfl (wi64 (by omega) (by omega)) | exact r_add rfl rfl rfl) rfl rfl rfl ?_
          -- R13.2 7 := convert.go:154 assign
          refine WL.v (by first | exact r_assign (v := .int _ _) rfl | exact r_assign rfl) rfl rfl rfl ?_
          refine WL.next hK2 (fun _ _ h => h) (j + 1) ⟨st, by omega, by omega, fun i h1 h2 => ?_⟩ (by show dl k - (j + 1) < dl k - j; omega) (by repeat (first | exact sub_nil _ | refine sub_cons rfl rfl ?_))
          by_cases hij : i = j
          · subst hij; exact hge
          · exact hr i h1 (by omega)
        · skip
          refine WC.seq fun K485 hK485 => ?_
          refine WC.seq fun K486 hK486 => ?_
          -- region 12
          refine WC.region ?_
          -- R12.0 45 := convert.go:154 move
          refine WL.v (by first | exact r_move (v := .int _ _) rfl | exact r_move rfl) rfl rfl rfl ?_
          -- R12.1 46 := convert.go:154 fieldAddr
          refine WL.v (by exact r_field ty_fld60_1 rfl) rfl rfl rfl ?_
          -- R12.2 47 := convert.go:154 load
          refine WL.v (by exact r_load1 ty_one58 rfl (by first | assumption | exact st.c0 (by first | decide | omega) | exact st.c1 (by first | decide | omega) | exact st.c2 (by first | decide | omega) | exact st.c3 (by first | decide | omega) | exact st.c4 (by first | decide | omega) | exact st.c5 (by first | decide | omega) | exact st.c6 (by first | decide | omega) | exact st.c7 (by first | decide | omega) | exact st.c8 (by first | decide | omega))) rfl rfl rfl ?_
          -- R12.3 48 := convert.go:154 call
          refine WL.v (by exact r_len ty_usl58 rfl) rfl rfl rfl ?_
          -- R12.4 49 := convert.go:154 binOp
          refine WL.v (by first | exact r_lss rfl rfl (decide_eq_true (by omega)) | exact r_lss rfl rfl (decide_eq_false (by omega)) | exact r_lss rfl rfl rfl) rfl rfl rfl ?_
          refine WL.fin hK486 (fun _ _ h => h) ?_
          refine WC.condT rfl rfl ?_
          refine WC.skipF hK485 (fun _ _ h => h) ?_
          refine WC.seq fun K487 hK487 => ?_
          refine WC.block ?_
          refine WC.seq fun K488 hK488 => ?_
          -- region 14 (draws)
          refine WC.quietS st ty_mixed (by kernel_rfl) fun Kq hKq => ?_
          -- R14.0 52 := convert.go:155 fieldAddr
          refine QL.v (fun w st => by exact r_field ty_fld60_1 rfl) rfl rfl rfl ?_
          -- R14.1 53 := convert.go:155 load
          refine QL.v (fun w st => by exact r_load1 ty_one58 rfl (by first | assumption | exact st.c0 (by first | decide | omega) | exact st.c1 (by first | decide | omega) | exact st.c2 (by first | decide | omega) | exact st.c3 (by first | decide | omega) | exact st.c4 (by first | decide | omega) | exact st.c5 (by first | decide | omega) | exact st.c6 (by first | decide | omega) | exact st.c7 (by first | decide | omega) | exact st.c8 (by first | decide | omega))) rfl rfl rfl ?_
          -- R14.2 54 := convert.go:155 move
          refine QL.v (fun w st => by first | exact r_move (v := .int _ _) rfl | exact r_move rfl) rfl rfl rfl ?_
          -- R14.3 55 := convert.go:155 binOp
          refine QL.v (fun w st => by exact r_sub (r := ((j - 1 : Nat) : Int)) rfl rfl (by rw [wi64 (by omega) (by omega)]; omega)) rfl rfl rfl ?_
          -- R14.4 56 := convert.go:155 indexAddr
          refine QL.v (fun w st => by exact r_indexS (j := j - 1) ty_sl58 rfl rfl (by omega) (by omega)) rfl rfl rfl ?_
          -- R14.5 57 := convert.go:155 load
          refine QL.v (fun w st => by exact r_load1 ty_one50 rfl ((hrd [_, _] _ st k hlt).2.2.2 (j - 1) (by omega))) rfl rfl rfl ?_
          -- R14.6 58 := convert.go:155 fieldAddr
          refine QL.v (fun w st => by exact r_field ty_fld60_1 rfl) rfl rfl rfl ?_
          -- R14.7 59 := convert.go:155 load
          refine QL.v (fun w st => by exact r_load1 ty_one58 rfl (by first | assumption | exact st.c0 (by first | decide | omega) | exact st.c1 (by first | decide | omega) | exact st.c2 (by first | decide | omega) | exact st.c3 (by first | decide | omega) | exact st.c4 (by first | decide | omega) | exact st.c5 (by first | decide | omega) | exact st.c6 (by first | decide | omega) | exact st.c7 (by first | decide | omega) | exact st.c8 (by first | decide | omega))) rfl rfl rfl ?_
          -- R14.8 60 := convert.go:155 move
          refine QL.v (fun w st => by first | exact r_move (v := .int _ _) rfl | exact r_move rfl) rfl rfl rfl ?_
          -- R14.9 61 := convert.go:155 indexAddr
          refine QL.v (fun w st => by exact r_indexS (j := j) ty_sl58 rfl rfl (by omega) (by omega)) rfl rfl rfl ?_
          -- R14.10 62 := convert.go:155 load
          refine QL.v (fun w st => by exact r_load1 ty_one50 rfl ((hrd [_, _] _ st k hlt).2.2.2 j hjl)) rfl rfl rfl ?_
          -- R14.11 63 := convert.go:155 binOp
          refine QL.v (fun w st => by first | exact r_geq rfl rfl (decide_eq_true (by omega)) | exact r_geq rfl rfl (decide_eq_false (by omega)) | exact r_geq rfl rfl rfl) rfl rfl rfl ?_
          refine QL.wl hKq fun w st => ?_
          refine WL.fin hK488 (fun _ _ h => h) ?_
          refine WC.condT rfl rfl ?_
          refine WC.seq fun K489 hK489 => ?_
          -- region 15
          refine WC.region ?_
          -- R15.0 64 := convert.go:156 fieldAddr
          refine WL.v (by exact r_field ty_fld60_1 rfl) rfl rfl rfl ?_
          -- R15.1 65 := convert.go:156 load
          refine WL.v (by exact r_load1 ty_one58 rfl (by first | assumption | exact st.c0 (by first | decide | omega) | exact st.c1 (by first | decide | omega) | exact st.c2 (by first | decide | omega) | exact st.c3 (by first | decide | omega) | exact st.c4 (by first | decide | omega) | exact st.c5 (by first | decide | omega) | exact st.c6 (by first | decide | omega) | exact st.c7 (by first | decide | omega) | exact st.c8 (by first | decide | omega))) rfl rfl rfl ?_
          -- R15.2 66 := convert.go:156 move
          refine WL.v (by first | exact r_move (v := .int _ _) rfl | exact r_move rfl) rfl rfl rfl ?_
          -- R15.3 67 := convert.go:156 indexAddr
          refine WL.v (by exact r_indexS (j := j) ty_sl58 rfl rfl (by omega) (by omega)) rfl rfl rfl ?_
          -- R15.4 68 := convert.go:156 load
          refine WL.v (by exact r_load1 ty_one50 rfl ((hrd [_, _] _ st k hlt).2.2.2 j hjl)) rfl rfl rfl ?_
          -- R15.5 69 := convert.go:156 convert
          refine WL.v (by first | exact r_conv ty_cv50_3 rfl (wi64 (by omega) (by omega)) | exact r_conv ty_cv50_3 rfl rfl) rfl rfl rfl ?_
          -- R15.6 70 := convert.go:156 call
          refine WL.call (r_call ty_call9 rfl) rfl rfl rfl (badInput_ok _ _ _ st) ?_
          rintro _ w ⟨eb, rfl, st⟩
          -- R15.7 2 := convert.go:156 assign
          refine WL.v (by first | exact r_assign (v := .slice _ _ _) rfl | exact r_assign rfl) rfl rfl rfl ?_
          -- R15.8 3 := convert.go:156 assign
          refine WL.v (by first | exact r_assign (v := .nilIface) rfl | exact r_assign (v := .iface _ _) rfl | exact r_assign rfl) rfl rfl rfl ?_
          refine WL.fin hK489 (fun _ _ h => h) ?_
          refine WC.ret2 Try.results6 (fun _ _ h => h) rfl ?_
          exact ⟨_, rfl, .inl ⟨fun h => hge ((h.1 k hlt).2.2.2 j (by omega) hjl), ⟨_, rfl⟩, st.drop.drop.drop⟩⟩
      · obtain rfl : j = dl k := by omega
        refine WC.seq fun K490 hK490 => ?_
        refine WC.seq fun K491 hK491 => ?_
        -- region 12
        refine WC.region ?_
        -- R12.0 45 := convert.go:154 move
        refine WL.v (by first | exact r_move (v := .int _ _) rfl | exact r_move rfl) rfl rfl rfl ?_
        -- R12.1 46 := convert.go:154 fieldAddr
        refine WL.v (by exact r_field ty_fld60_1 rfl) rfl rfl rfl ?_
        -- R12.2 47 := convert.go:154 load
        refine WL.v (by exact r_load1 ty_one58 rfl (by first | assumption | exact st.c0 (by first | decide | omega) | exact st.c1 (by first | decide | omega) | exact st.c2 (by first | decide | omega) | exact st.c3 (by first | decide | omega) | exact st.c4 (by first | decide | omega) | exact st.c5 (by first | decide | omega) | exact st.c6 (by first | decide | omega) | exact st.c7 (by first | decide | omega) | exact st.c8 (by first | decide | omega))) rfl rfl rfl ?_
        -- R12.3 48 := convert.go:154 call
        refine WL.v (by exact r_len ty_usl58 rfl) rfl rfl rfl ?_
        -- R12.4 49 := convert.go:154 binOp
        refine WL.v (by first | exact r_lss rfl rfl (decide_eq_true (by omega)) | exact r_lss rfl rfl (decide_eq_false (by omega)) | exact r_lss rfl rfl rfl) rfl rfl rfl ?_
        refine WL.fin hK491 (fun _ _ h => h) ?_
        refine WC.condF rfl rfl ?_
        refine WC.exitF hK479 (fun _ _ h => h) ?_
        -- region 16
        refine WC.region ?_
        -- R16.0 71 := convert.go:159 move
        refine WL.v (by first | exact r_move (v := .int _ _) rfl | exact r_move rfl) rfl rfl rfl ?_
        -- R16.1 72 := convert.go:159 fieldAddr
        refine WL.v (by exact r_field ty_fld60_1 rfl) rfl rfl rfl ?_
        -- R16.2 73 := convert.go:159 load
        refine WL.v (by exact r_load1 ty_one58 rfl (by first | assumption | exact st.c0 (by first | decide | omega) | exact st.c1 (by first | decide | omega) | exact st.c2 (by first | decide | omega) | exact st.c3 (by first | decide | omega) | exact st.c4 (by first | decide | omega) | exact st.c5 (by first | decide | omega) | exact st.c6 (by first | decide | omega) | exact st.c7 (by first | decide | omega) | exact st.c8 (by first | decide | omega))) rfl rfl rfl ?_
        -- R16.3 74 := convert.go:159 call
        refine WL.v (by exact r_len ty_usl58 rfl) rfl rfl rfl ?_
        -- R16.4 75 := convert.go:159 binOp
        refine WL.v (by first | exact r_add rfl rfl (wi64 (by omega) (by omega)) | exact r_add rfl rfl rfl) rfl rfl rfl ?_
        -- R16.5 4 := convert.go:159 assign
        refine WL.v (by first | exact r_assign (v := .int _ _) rfl | exact r_assign rfl) rfl rfl rfl ?_
        refine WL.fin hK471 (fun _ _ h => h) ?_
        -- region 17
        refine WC.region ?_
        -- R17.0 76 := convert.go:144 binOp
        refine WL.v (by first | exact r_add rfl rfl (wi64 (by omega) (by omega)) | exact r_add rfl rfl rfl) rfl rfl rfl ?_
        -- R17.1 17 := convert.go:144 move
        refine WL.v (by first | exact r_move (v := .int _ _) rfl | exact r_move rfl) rfl rfl rfl ?_
        refine WL.next hK1 (fun _ _ h => h) (k + 1) ⟨st.drop, by omega, fun u hu => ?_⟩ (by show q - (k + 1) < q - k; omega) (by repeat (first | exact sub_nil _ | refine sub_cons rfl rfl ?_))
        by_cases huk : u = k
        · subst huk; exact ⟨hz, hfall', by omega, hr⟩
        · exact hv u (by omega)
    · skip
      by_cases hz0 : dl k = 0
      · skip
        refine WC.seq fun K492 hK492 => ?_
        -- region 3
        refine WC.region ?_
        -- R3.0 18 := convert.go:144 binOp
        refine WL.v (by first | exact r_lss rfl rfl (decide_eq_true (by omega)) | exact r_lss rfl rfl (decide_eq_false (by omega)) | exact r_lss rfl rfl rfl) rfl rfl rfl ?_
        refine WL.fin hK492 (fun _ _ h => h) ?_
        refine WC.seq fun K493 hK493 => ?_
        refine WC.condT rfl rfl ?_
        refine WC.skipF hK493 (fun _ _ h => h) ?_
        refine WC.seq fun K494 hK494 => ?_
        refine WC.block ?_
        refine WC.seq fun K495 hK495 => ?_
        -- region 4
        refine WC.region ?_
        -- R4.0 19 := convert.go:144 move
        refine WL.v (by first | exact r_move (v := .int _ _) rfl | exact r_move rfl) rfl rfl rfl ?_
        -- R4.1 20 := convert.go:144 indexAddr
        refine WL.v (by exact r_indexS ty_sl37 rfl rfl rfl (by omega)) rfl rfl rfl ?_
        -- R4.2 21 := convert.go:144 load
        refine WL.v (by exact r_loadL (vs := [_, _]) ty_agg60 rfl ⟨((hg _ st).1), ((hg _ st).2.1), trivial⟩) rfl rfl rfl ?_
        -- R4.3 6 := convert.go:144 alloc
        refine WL.alloc st ty_zero60 rfl rfl rfl ?_
        intro b6 w st
        -- R4.4 5 := convert.go:144 assign
        refine WL.v (by first | exact r_assign (v := .int _ _) rfl | exact r_assign rfl) rfl rfl rfl ?_
        -- R4.5 None := convert.go:144 store
        first | refine WL.storeW (vs := [_, _]) st ty_agg60 rfl rfl rfl rfl rfl rfl ?_ | refine WL.storeL (vs := [_, _]) st ty_agg60 rfl rfl rfl rfl (by first | decide | omega) rfl rfl ?_ | refine WL.storeW (vs := [_, _]) st.front1 ty_agg60 rfl rfl rfl rfl rfl rfl ?_ | refine WL.storeL (vs := [_, _]) st.front1 ty_agg60 rfl rfl rfl rfl (by first | decide | omega) rfl rfl ?_ | refine WL.storeW (vs := [_, _]) st.front2 ty_agg60 rfl rfl rfl rfl rfl rfl ?_ | refine WL.storeL (vs := [_, _]) st.front2 ty_agg60 rfl rfl rfl rfl (by first | decide | omega) rfl rfl ?_ | refine WL.storeW (vs := [_, _]) st.front3 ty_agg60 rfl rfl rfl rfl rfl rfl ?_ | refine WL.storeL (vs := [_, _]) st.front3 ty_agg60 rfl rfl rfl rfl (by first | decide | omega) rfl rfl ?_ | refine WL.storeW (vs := [_, _]) st.front4 ty_agg60 rfl rfl rfl rfl rfl rfl ?_ | refine WL.storeL (vs := [_, _]) st.front4 ty_agg60 rfl rfl rfl rfl (by first | decide | omega) rfl rfl ?_ | refine WL.storeW (vs := [_, _]) st.front5 ty_agg60 rfl rfl rfl rfl rfl rfl ?_ | refine WL.storeL (vs := [_, _]) st.front5 ty_agg60 rfl rfl rfl rfl (by first | decide | omega) rfl rfl ?_ | refine WL.storeW (vs := [_, _]) st.front6 ty_agg60 rfl rfl rfl rfl rfl rfl ?_ | refine WL.storeL (vs := [_, _]) st.front6 ty_agg60 rfl rfl rfl rfl (by first | decide | omega) rfl rfl ?_ | refine WL.storeW (vs := [_, _]) st.front7 ty_agg60 rfl rfl rfl rfl rfl rfl ?_ | refine WL.storeL (vs := [_, _]) st.front7 ty_agg60 rfl rfl rfl rfl (by first | decide | omega) rfl rfl ?_ | refine WL.storeW (vs := [_, _]) st.front8 ty_agg60 rfl rfl rfl rfl rfl rfl ?_ | refine WL.storeL (vs := [_, _]) st.front8 ty_agg60 rfl rfl rfl rfl (by first | decide | omega) rfl rfl ?_
        intro w st
        refine WL.fin hK495 (fun _ _ h => h) ?_
        refine WC.seq fun K496 hK496 => ?_
        refine WC.seq fun K497 hK497 => ?_
        -- region 5
        refine WC.region ?_
        -- R5.0 22 := convert.go:145 fieldAddr
        refine WL.v (by exact r_field ty_fld60_0 rfl) rfl rfl rfl ?_
        -- R5.1 23 := convert.go:145 load
        refine WL.v (by exact r_load1 ty_one5 rfl (by first | assumption | exact st.c0 (by first | decide | omega) | exact st.c1 (by first | decide | omega) | exact st.c2 (by first | decide | omega) | exact st.c3 (by first | decide | omega) | exact st.c4 (by first | decide | omega) | exact st.c5 (by first | decide | omega) | exact st.c6 (by first | decide | omega) | exact st.c7 (by first | decide | omega) | exact st.c8 (by first | decide | omega))) rfl rfl rfl ?_
        -- R5.2 24 := convert.go:145 binOp
        refine WL.v (by first | exact r_eql rfl rfl (decide_eq_true (by omega)) | exact r_eql rfl rfl (decide_eq_false (by omega)) | exact r_eql rfl rfl rfl) rfl rfl rfl ?_
        refine WL.fin hK497 (fun _ _ h => h) ?_
        refine WC.condF rfl rfl ?_
        refine WC.skipF hK496 (fun _ _ h => h) ?_
        refine WC.seq fun K498 hK498 => ?_
        refine WC.seq fun K499 hK499 => ?_
        -- region 7 (draws)
        refine WC.quietS st ty_mixed (by kernel_rfl) fun Kq hKq => ?_
        -- R7.0 26 := convert.go:148 move
        refine QL.v (fun w st => by first | exact r_move (v := .int _ _) rfl | exact r_move rfl) rfl rfl rfl ?_
        -- R7.1 27 := convert.go:148 binOp
        refine QL.v (fun w st => by first | exact r_gtr rfl rfl (decide_eq_true (by omega)) | exact r_gtr rfl rfl (decide_eq_false (by omega)) | exact r_gtr rfl rfl rfl) rfl rfl rfl ?_
        -- R7.2 28 := convert.go:148 move
        refine QL.v (fun w st => by first | exact r_move (v := .bool _) rfl | exact r_move rfl) rfl rfl rfl ?_
        -- R7.3 29 := convert.go:148 load
        refine QL.no rfl rfl ?_
        -- R7.4 30 := convert.go:148 move
        refine QL.no rfl rfl ?_
        -- R7.5 31 := convert.go:148 binOp
        refine QL.no rfl rfl ?_
        -- R7.6 32 := convert.go:148 indexAddr
        refine QL.no rfl rfl ?_
        -- R7.7 33 := convert.go:148 fieldAddr
        refine QL.no rfl rfl ?_
        -- R7.8 34 := convert.go:148 load
        refine QL.no rfl rfl ?_
        -- R7.9 35 := convert.go:148 fieldAddr
        refine QL.no rfl rfl ?_
        -- R7.10 36 := convert.go:148 load
        refine QL.no rfl rfl ?_
        -- R7.11 37 := convert.go:148 binOp
        refine QL.no rfl rfl ?_
        -- R7.12 38 := convert.go:148 pick
        refine QL.v (fun w st => by first | exact r_pickT (v := .bool _) rfl rfl | exact r_pickF (v := .bool _) rfl rfl) rfl rfl rfl ?_
        refine QL.wl hKq fun w st => ?_
        refine WL.fin hK499 (fun _ _ h => h) ?_
        refine WC.condF rfl rfl ?_
        refine WC.skipF hK498 (fun _ _ h => h) ?_
        refine WC.seq fun K500 hK500 => ?_
        refine WC.seq fun K501 hK501 => ?_
        -- region 9
        refine WC.region ?_
        -- R9.0 40 := convert.go:151 fieldAddr
        refine WL.v (by exact r_field ty_fld60_1 rfl) rfl rfl rfl ?_
        -- R9.1 41 := convert.go:151 load
        refine WL.v (by exact r_load1 ty_one58 rfl (by first | assumption | exact st.c0 (by first | decide | omega) | exact st.c1 (by first | decide | omega) | exact st.c2 (by first | decide | omega) | exact st.c3 (by first | decide | omega) | exact st.c4 (by first | decide | omega) | exact st.c5 (by first | decide | omega) | exact st.c6 (by first | decide | omega) | exact st.c7 (by first | decide | omega) | exact st.c8 (by first | decide | omega))) rfl rfl rfl ?_
        -- R9.2 42 := convert.go:151 call
        refine WL.v (by exact r_len ty_usl58 rfl) rfl rfl rfl ?_
        -- R9.3 43 := convert.go:151 binOp
        refine WL.v (by first | exact r_eql rfl rfl (decide_eq_true (by omega)) | exact r_eql rfl rfl (decide_eq_false (by omega)) | exact r_eql rfl rfl rfl) rfl rfl rfl ?_
        refine WL.fin hK501 (fun _ _ h => h) ?_
        refine WC.condT rfl rfl ?_
        refine WC.seq fun K502 hK502 => ?_
        -- region 10
        refine WC.region ?_
        -- R10.0 44 := convert.go:152 call
        refine WL.call (r_call ty_call9 rfl) rfl rfl rfl (badInput_ok _ _ _ st) ?_
        rintro _ w ⟨eb, rfl, st⟩
        -- R10.1 2 := convert.go:152 assign
        refine WL.v (by first | exact r_assign (v := .slice _ _ _) rfl | exact r_assign rfl) rfl rfl rfl ?_
        -- R10.2 3 := convert.go:152 assign
        refine WL.v (by first | exact r_assign (v := .nilIface) rfl | exact r_assign (v := .iface _ _) rfl | exact r_assign rfl) rfl rfl rfl ?_
        refine WL.fin hK502 (fun _ _ h => h) ?_
        refine WC.ret2 Try.results6 (fun _ _ h => h) rfl ?_
        exact ⟨_, rfl, .inl ⟨fun h => by have := (h.1 k hlt).2.2.1; omega, ⟨_, rfl⟩, st.drop.drop.drop⟩⟩
      have hda := (hg _ st).2.2.1 (by omega)
      have hg : ∀ w', St w0 M ((b1, Row 37 1 (nth [.slice (some ⟨g, o, none⟩) q gc])) :: L) w' → w'.cell? ⟨g, o + k * 2, none⟩ = some (.int .u8 (I k)) ∧ w'.cell? ⟨g, o + k * 2 + 1, none⟩ = some (.slice (some ⟨db k, dO k, none⟩) (dl k) (dc k)) := fun w' s' => ⟨(hg w' s').1, by rw [← hda]; exact (hg w' s').2.1⟩
      refine WC.seq fun K503 hK503 => ?_
      -- region 3
      refine WC.region ?_
      -- R3.0 18 := convert.go:144 binOp
      refine WL.v (by first | exact r_lss rfl rfl (decide_eq_true (by omega)) | exact r_lss rfl rfl (decide_eq_false (by omega)) | exact r_lss rfl rfl rfl) rfl rfl rfl ?_
      refine WL.fin hK503 (fun _ _ h => h) ?_
      refine WC.seq fun K504 hK504 => ?_
      refine WC.condT rfl rfl ?_
      refine WC.skipF hK504 (fun _ _ h => h) ?_
      refine WC.seq fun K505 hK505 => ?_
      refine WC.block ?_
      refine WC.seq fun K506 hK506 => ?_
      -- region 4
      refine WC.region ?_
      -- R4.0 19 := convert.go:144 move
      refine WL.v (by first | exact r_move (v := .int _ _) rfl | exact r_move rfl) rfl rfl rfl ?_
      -- R4.1 20 := convert.go:144 indexAddr
      refine WL.v (by exact r_indexS ty_sl37 rfl rfl rfl (by omega)) rfl rfl rfl ?_
      -- R4.2 21 := convert.go:144 load
      refine WL.v (by exact r_loadL (vs := [_, _]) ty_agg60 rfl ⟨((hg _ st).1), ((hg _ st).2), trivial⟩) rfl rfl rfl ?_
      -- R4.3 6 := convert.go:144 alloc
      refine WL.alloc st ty_zero60 rfl rfl rfl ?_
      intro b6 w st
      -- R4.4 5 := convert.go:144 assign
      refine WL.v (by first | exact r_assign (v := .int _ _) rfl | exact r_assign rfl) rfl rfl rfl ?_
      -- R4.5 None := convert.go:144 store
      first | refine WL.storeW (vs := [_, _]) st ty_agg60 rfl rfl rfl rfl rfl rfl ?_ | refine WL.storeL (vs := [_, _]) st ty_agg60 rfl rfl rfl rfl (by first | decide | omega) rfl rfl ?_ | refine WL.storeW (vs := [_, _]) st.front1 ty_agg60 rfl rfl rfl rfl rfl rfl ?_ | refine WL.storeL (vs := [_, _]) st.front1 ty_agg60 rfl rfl rfl rfl (by first | decide | omega) rfl rfl ?_ | refine WL.storeW (vs := [_, _]) st.front2 ty_agg60 rfl rfl rfl rfl rfl rfl ?_ | refine WL.storeL (vs := [_, _]) st.front2 ty_agg60 rfl rfl rfl rfl (by first | decide | omega) rfl rfl ?_ | refine WL.storeW (vs := [_, _]) st.front3 ty_agg60 rfl rfl rfl rfl rfl rfl ?_ | refine WL.storeL (vs := [_, _]) st.front3 ty_agg60 rfl rfl rfl rfl (by first | decide | omega) rfl rfl ?_ | refine WL.storeW (vs := [_, _]) st.front4 ty_agg60 rfl rfl rfl rfl rfl rfl ?_ | refine WL.storeL (vs := [_, _]) st.front4 ty_agg60 rfl rfl rfl rfl (by first | decide | omega) rfl rfl ?_ | refine WL.storeW (vs := [_, _]) st.front5 ty_agg60 rfl rfl rfl rfl rfl rfl ?_ | refine WL.storeL (vs := [_, _]) st.front5 ty_agg60 rfl rfl rfl rfl (by first | decide | omega) rfl rfl ?_ | refine WL.storeW (vs := [_, _]) st.front6 ty_agg60 rfl rfl rfl rfl rfl rfl ?_ | refine WL.storeL (vs := [_, _]) st.front6 ty_agg60 rfl rfl rfl rfl (by first | decide | omega) rfl rfl ?_ | refine WL.storeW (vs := [_, _]) st.front7 ty_agg60 rfl rfl rfl rfl rfl rfl ?_ | refine WL.storeL (vs := [_, _]) st.front7 ty_agg60 rfl rfl rfl rfl (by first | decide | omega) rfl rfl ?_ | refine WL.storeW (vs := [_, _]) st.front8 ty_agg60 rfl rfl rfl rfl rfl rfl ?_ | refine WL.storeL (vs := [_, _]) st.front8 ty_agg60 rfl rfl rfl rfl (by first | decide | omega) rfl rfl ?_
      intro w st
      refine WL.fin hK506 (fun _ _ h => h) ?_
      refine WC.seq fun K507 hK507 => ?_
      refine WC.seq fun K508 hK508 => ?_
      -- region 5
      refine WC.region ?_
      -- R5.0 22 := convert.go:145 fieldAddr
      refine WL.v (by exact r_field ty_fld60_0 rfl) rfl rfl rfl ?_
      -- R5.1 23 := convert.go:145 load
      refine WL.v (by exact r_load1 ty_one5 rfl (by first | assumption | exact st.c0 (by first | decide | omega) | exact st.c1 (by first | decide | omega) | exact st.c2 (by first | decide | omega) | exact st.c3 (by first | decide | omega) | exact st.c4 (by first | decide | omega) | exact st.c5 (by first | decide | omega) | exact st.c6 (by first | decide | omega) | exact st.c7 (by first | decide | omega) | exact st.c8 (by first | decide | omega))) rfl rfl rfl ?_
      -- R5.2 24 := convert.go:145 binOp
      refine WL.v (by first | exact r_eql rfl rfl (decide_eq_true (by omega)) | exact r_eql rfl rfl (decide_eq_false (by omega)) | exact r_eql rfl rfl rfl) rfl rfl rfl ?_
      refine WL.fin hK508 (fun _ _ h => h) ?_
      refine WC.condF rfl rfl ?_
      refine WC.skipF hK507 (fun _ _ h => h) ?_
      refine WC.seq fun K509 hK509 => ?_
      refine WC.seq fun K510 hK510 => ?_
      -- region 7 (draws)
      refine WC.quietS st ty_mixed (by kernel_rfl) fun Kq hKq => ?_
      -- R7.0 26 := convert.go:148 move
      refine QL.v (fun w st => by first | exact r_move (v := .int _ _) rfl | exact r_move rfl) rfl rfl rfl ?_
      -- R7.1 27 := convert.go:148 binOp
      refine QL.v (fun w st => by first | exact r_gtr rfl rfl (decide_eq_true (by omega)) | exact r_gtr rfl rfl (decide_eq_false (by omega)) | exact r_gtr rfl rfl rfl) rfl rfl rfl ?_
      -- R7.2 28 := convert.go:148 move
      refine QL.v (fun w st => by first | exact r_move (v := .bool _) rfl | exact r_move rfl) rfl rfl rfl ?_
      -- R7.3 29 := convert.go:148 load
      refine QL.no rfl rfl ?_
      -- R7.4 30 := convert.go:148 move
      refine QL.no rfl rfl ?_
      -- R7.5 31 := convert.go:148 binOp
      refine QL.no rfl rfl ?_
      -- R7.6 32 := convert.go:148 indexAddr
      refine QL.no rfl rfl ?_
      -- R7.7 33 := convert.go:148 fieldAddr
      refine QL.no rfl rfl ?_
      -- R7.8 34 := convert.go:148 load
      refine QL.no rfl rfl ?_
      -- R7.9 35 := convert.go:148 fieldAddr
      refine QL.no rfl rfl ?_
      -- R7.10 36 := convert.go:148 load
      refine QL.no rfl rfl ?_
      -- R7.11 37 := convert.go:148 binOp
      refine QL.no rfl rfl ?_
      -- R7.12 38 := convert.go:148 pick
      refine QL.v (fun w st => by first | exact r_pickT (v := .bool _) rfl rfl | exact r_pickF (v := .bool _) rfl rfl) rfl rfl rfl ?_
      refine QL.wl hKq fun w st => ?_
      refine WL.fin hK510 (fun _ _ h => h) ?_
      refine WC.condF rfl rfl ?_
      refine WC.skipF hK509 (fun _ _ h => h) ?_
      refine WC.seq fun K511 hK511 => ?_
      refine WC.seq fun K512 hK512 => ?_
      -- region 9
      refine WC.region ?_
      -- R9.0 40 := convert.go:151 fieldAddr
      refine WL.v (by exact r_field ty_fld60_1 rfl) rfl rfl rfl ?_
      -- R9.1 41 := convert.go:151 load
      refine WL.v (by exact r_load1 ty_one58 rfl (by first | assumption | exact st.c0 (by first | decide | omega) | exact st.c1 (by first | decide | omega) | exact st.c2 (by first | decide | omega) | exact st.c3 (by first | decide | omega) | exact st.c4 (by first | decide | omega) | exact st.c5 (by first | decide | omega) | exact st.c6 (by first | decide | omega) | exact st.c7 (by first | decide | omega) | exact st.c8 (by first | decide | omega))) rfl rfl rfl ?_
      -- R9.2 42 := convert.go:151 call
      refine WL.v (by exact r_len ty_usl58 rfl) rfl rfl rfl ?_
      -- R9.3 43 := convert.go:151 binOp
      refine WL.v (by first | exact r_eql rfl rfl (decide_eq_true (by omega)) | exact r_eql rfl rfl (decide_eq_false (by omega)) | exact r_eql rfl rfl rfl) rfl rfl rfl ?_
      refine WL.fin hK512 (fun _ _ h => h) ?_
      refine WC.condF rfl rfl ?_
      refine WC.skipF hK511 (fun _ _ h => h) ?_
      refine WC.seq fun K513 hK513 => ?_
      refine WC.seq fun K514 hK514 => ?_
      -- region 11
      refine WC.region ?_
      -- R11.0 7 := convert.go:154 assign
      refine WL.v (by first | exact r_assign (v := .int _ _) rfl | exact r_assign rfl) rfl rfl rfl ?_
      refine WL.fin hK514 (fun _ _ h => h) ?_
      refine WC.block ?_
      refine WC.loop (ι := Nat) (fun j => [(1, .pointer (some ⟨b1, 0, none⟩)), (4, .int .i64 (bas dl k : Nat)), (6, .pointer (some ⟨b6, 0, none⟩)), (7, .int .i64 (j : Nat)), (15, .slice (some ⟨g, o, none⟩) q gc), (16, .int .i64 (q : Nat)), (17, .int .i64 (k : Nat))])
        (fun j w' => St w0 M ((b6, Row 60 2 (nth [.int .u8 (I k), .slice (some ⟨db k, dO k, none⟩) (dl k) (dc k)])) :: (b1, Row 37 1 (nth [.slice (some ⟨g, o, none⟩) q gc])) :: L) w' ∧ 1 ≤ j ∧ j ≤ dl k ∧ ∀ i, 0 < i → i < j → D k (i - 1) < D k i) (fun j => dl k - j) 1
        ⟨st, Nat.le_refl _, by omega, fun i h1 h2 => by omega⟩ ?_ ?_
      · skip
        repeat (first | exact sub_nil _ | refine sub_cons rfl rfl ?_)
      rintro j w ⟨st, hj1, hj, hr⟩ K2 hK2
      by_cases hjl : j < dl k
      · skip
        by_cases hge : D k (j - 1) < D k j
        · skip
          refine WC.seq fun K515 hK515 => ?_
          refine WC.seq fun K516 hK516 => ?_
          -- region 12
          refine WC.region ?_
          -- R12.0 45 := convert.go:154 move
          refine WL.v (by first | exact r_move (v := .int _ _) rfl | exact r_move rfl) rfl rfl rfl ?_
          -- R12.1 46 := convert.go:154 fieldAddr
          refine WL.v (by exact r_field ty_fld60_1 rfl) rfl rfl rfl ?_
          -- R12.2 47 := convert.go:154 load
          refine WL.v (by exact r_load1 ty_one58 rfl (by first | assumption | exact st.c0 (by first | decide | omega) | exact st.c1 (by first | decide | omega) | exact st.c2 (by first | decide | omega) | exact st.c3 (by first | decide | omega) | exact st.c4 (by first | decide | omega) | exact st.c5 (by first | decide | omega) | exact st.c6 (by first | decide | omega) | exact st.c7 (by first | decide | omega) | exact st.c8 (by first | decide | omega))) rfl rfl rfl ?_
          -- R12.3 48 := convert.go:154 call
          refine WL.v (by exact r_len ty_usl58 rfl) rfl rfl rfl ?_
          -- R12.4 49 := convert.go:154 binOp
          refine WL.v (by first | exact r_lss rfl rfl (decide_eq_true (by omega)) | exact r_lss rfl rfl (decide_eq_false (by omega)) | exact r_lss rfl rfl rfl) rfl rfl rfl ?_
          refine WL.fin hK516 (fun _ _ h => h) ?_
          refine WC.condT rfl rfl ?_
          refine WC.skipF hK515 (fun _ _ h => h) ?_
          refine WC.seq fun K517 hK517 => ?_
          refine WC.block ?_
          refine WC.seq fun K518 hK518 => ?_
          -- region 14 (draws)
          refine WC.quietS st ty_mixed (by kernel_rfl) fun Kq hKq => ?_
          -- R14.0 52 := convert.go:155 fieldAddr
          refine QL.v (fun w st => by exact r_field ty_fld60_1 rfl) rfl rfl rfl ?_
          -- R14.1 53 := convert.go:155 load
          refine QL.v (fun w st => by exact r_load1 ty_one58 rfl (by first | assumption | exact st.c0 (by first | decide | omega) | exact st.c1 (by first | decide | omega) | exact st.c2 (by first | decide | omega) | exact st.c3 (by first | decide | omega) | exact st.c4 (by first | decide | omega) | exact st.c5 (by first | decide | omega) | exact st.c6 (by first | decide | omega) | exact st.c7 (by first | decide | omega) | exact st.c8 (by first | decide | omega))) rfl rfl rfl ?_
          -- R14.2 54 := convert.go:155 move
          refine QL.v (fun w st => by first | exact r_move (v := .int _ _) rfl | exact r_move rfl) rfl rfl rfl ?_
          -- R14.3 55 := convert.go:155 binOp
          refine QL.v (fun w st => by exact r_sub (r := ((j - 1 : Nat) : Int)) rfl rfl (by rw [wi64 (by omega) (by omega)]; omega)) rfl rfl rfl ?_
          -- R14.4 56 := convert.go:155 indexAddr
          refine QL.v (fun w st => by exact r_indexS (j := j - 1) ty_sl58 rfl rfl (by omega) (by omega)) rfl rfl rfl ?_
          -- R14.5 57 := convert.go:155 load
          refine QL.v (fun w st => by exact r_load1 ty_one50 rfl ((hrd [_, _] _ st k hlt).2.2.2 (j - 1) (by omega))) rfl rfl rfl ?_
          -- R14.6 58 := convert.go:155 fieldAddr
          refine QL.v (fun w st => by exact r_field ty_fld60_1 rfl) rfl rfl rfl ?_
          -- R14.7 59 := convert.go:155 load
          refine QL.v (fun w st => by exact r_load1 ty_one58 rfl (by first | assumption | exact st.c0 (by first | decide | omega) | exact st.c1 (by first | decide | omega) | exact st.c2 (by first | decide | omega) | exact st.c3 (by first | decide | omega) | exact st.c4 (by first | decide | omega) | exact st.c5 (by first | decide | omega) | exact st.c6 (by first | decide | omega) | exact st.c7 (by first | decide | omega) | exact st.c8 (by first | decide | omega))) rfl rfl rfl ?_
          -- R14.8 60 := convert.go:155 move
          refine QL.v (fun w st => by first | exact r_move (v := .int _ _) rfl | exact r_move rfl) rfl rfl rfl ?_
          -- R14.9 61 := convert.go:155 indexAddr
          refine QL.v (fun w st => by exact r_indexS (j := j) ty_sl58 rfl rfl (by omega) (by omega)) rfl rfl rfl ?_
          -- R14.10 62 := convert.go:155 load
          refine QL.v (fun w st => by exact r_load1 ty_one50 rfl ((hrd [_, _] _ st k hlt).2.2.2 j hjl)) rfl rfl rfl ?_
          -- R14.11 63 := convert.go:155 binOp
          refine QL.v (fun w st => by first | exact r_geq rfl rfl (decide_eq_true (by omega)) | exact r_geq rfl rfl (decide_eq_false (by omega)) | exact r_geq rfl rfl rfl) rfl rfl rfl ?_
          refine QL.wl hKq fun w st => ?_
          refine WL.fin hK518 (fun _ _ h => h) ?_
          refine WC.condF rfl rfl ?_
          refine WC.skipF hK517 (fun _ _ h => h) ?_
          -- region 13
          refine WC.region ?_
          -- R13.0 50 := convert.go:154 move
          refine WL.v (by first | exact r_move (v := .int _ _) rfl | exact r_move rfl) rfl rfl rfl ?_
          -- R13.1 51 := convert.go:154 binOp
          refine WL.v (by first | exact r_add rfl rfl (wi64 (by omega) (by omega)) | exact r_add rfl rfl rfl) rfl rfl rfl ?_
          -- R13.2 7 := convert.go:154 assign
          refine WL.v (by first | exact r_assign (v := .int _ _) rfl | exact r_assign rfl) rfl rfl rfl ?_
          refine WL.next hK2 (fun _ _ h => h) (j + 1) ⟨st, by omega, by omega, fun i h1 h2 => ?_⟩ (by show dl k - (j + 1) < dl k - j; omega) (by repeat (first | exact sub_nil _ | refine sub_cons rfl rfl ?_))
          by_cases hij : i = j
          · subst hij; exact hge
          · exact hr i h1 (by omega)
        · skip
          refine WC.seq fun K519 hK519 => ?_
          refine WC.seq fun K520 hK520 => ?_
          -- region 12
          refine WC.region ?_
          -- R12.0 45 := convert.go:154 move
          refine WL.v (by first | exact r_move (v := .int _ _) rfl | exact r_move rfl) rfl rfl rfl ?_
          -- R12.1 46 := convert.go:154 fieldAddr
          refine WL.v (by exact r_field ty_fld60_1 rfl) rfl rfl rfl ?_
          -- R12.2 47 := convert.go:154 load
          refine WL.v (by exact r_load1 ty_one58 rfl (by first | assumption | exact st.c0 (by first | decide | omega) | exact st.c1 (by first | decide | omega) | exact st.c2 (by first | decide | omega) | exact st.c3 (by first | decide | omega) | exact st.c4 (by first | decide | omega) | exact st.c5 (by first | decide | omega) | exact st.c6 (by first | decide | omega) | exact st.c7 (by first | decide | omega) | exact st.c8 (by first | decide | omega))) rfl rfl rfl ?_
          -- R12.3 48 := convert.go:154 call
          refine WL.v (by exact r_len ty_usl58 rfl) rfl rfl rfl ?_
          -- R12.4 49 := convert.go:154 binOp
          refine WL.v (by first | exact r_lss rfl rfl (decide_eq_true (by omega)) | exact r_lss rfl rfl (decide_eq_false (by omega)) | exact r_lss rfl rfl rfl) rfl rfl rfl ?_
          refine WL.fin hK520 (fun _ _ h => h) ?_
          refine WC.condT rfl rfl ?_
          refine WC.skipF hK519 (fun _ _ h => h) ?_
          refine WC.seq fun K521 hK521 => ?_
          refine WC.block ?_
          refine WC.seq fun K522 hK522 => ?_
          -- region 14 (draws)
          refine WC.quietS st ty_mixed (by kernel_rfl) fun Kq hKq => ?_
          -- R14.0 52 := convert.go:155 fieldAddr
          refine QL.v (fun w st => by exact r_field ty_fld60_1 rfl) rfl rfl rfl ?_
          -- R14.1 53 := convert.go:155 load
          refine QL.v (fun w st => by exact r_load1 ty_one58 rfl (by first | assumption | exact st.c0 (by first | decide | omega) | exact st.c1 (by first | decide | omega) | exact st.c2 (by first | decide | omega) | exact st.c3 (by first | decide | omega) | exact st.c4 (by first | decide | omega) | exact st.c5 (by first | decide | omega) | exact st.c6 (by first | decide | omega) | exact st.c7 (by first | decide | omega) | exact st.c8 (by first | decide | omega))) rfl rfl rfl ?_
          -- R14.2 54 := convert.go:155 move
          refine QL.v (fun w st => by first | exact r_move (v := .int _ _) rfl | exact r_move rfl) rfl rfl rfl ?_
          -- R14.3 55 := convert.go:155 binOp
          refine QL.v (fun w st => by exact r_sub (r := ((j - 1 : Nat) : Int)) rfl rfl (by rw [wi64 (by omega) (by omega)]; omega)) rfl rfl rfl ?_
          -- R14.4 56 := convert.go:155 indexAddr
          refine QL.v (fun w st => by exact r_indexS (j := j - 1) ty_sl58 rfl rfl (by omega) (by omega)) rfl rfl rfl ?_
          -- R14.5 57 := convert.go:155 load
          refine QL.v (fun w st => by exact r_load1 ty_one50 rfl ((hrd [_, _] _ st k hlt).2.2.2 (j - 1) (by omega))) rfl rfl rfl ?_
          -- R14.6 58 := convert.go:155 fieldAddr
          refine QL.v (fun w st => by exact r_field ty_fld60_1 rfl) rfl rfl rfl ?_
          -- R14.7 59 := convert.go:155 load
          refine QL.v (fun w st => by exact r_load1 ty_one58 rfl (by first | assumption | exact st.c0 (by first | decide | omega) | exact st.c1 (by first | decide | omega) | exact st.c2 (by first | decide | omega) | exact st.c3 (by first | decide | omega) | exact st.c4 (by first | decide | omega) | exact st.c5 (by first | decide | omega) | exact st.c6 (by first | decide | omega) | exact st.c7 (by first | decide | omega) | exact st.c8 (by first | decide | omega))) rfl rfl rfl ?_
          -- R14.8 60 := convert.go:155 move
          refine QL.v (fun w st => by first | exact r_move (v := .int _ _) rfl | exact r_move rfl) rfl rfl rfl ?_
          -- R14.9 61 := convert.go:155 indexAddr
          refine QL.v (fun w st => by exact r_indexS (j := j) ty_sl58 rfl rfl (by omega) (by omega)) rfl rfl rfl ?_
          -- R14.10 62 := convert.go:155 load
          refine QL.v (fun w st => by exact r_load1 ty_one50 rfl ((hrd [_, _] _ st k hlt).2.2.2 j hjl)) rfl rfl rfl ?_
          -- R14.11 63 := convert.go:155 binOp
          refine QL.v (fun w st => by first | exact r_geq rfl rfl (decide_eq_true (by omega)) | exact r_geq rfl rfl (decide_eq_false (by omega)) | exact r_geq rfl rfl rfl) rfl rfl rfl ?_
          refine QL.wl hKq fun w st => ?_
          refine WL.fin hK522 (fun _ _ h => h) ?_
          refine WC.condT rfl rfl ?_
          refine WC.seq fun K523 hK523 => ?_
          -- region 15
          refine WC.region ?_
          -- R15.0 64 := convert.go:156 fieldAddr
          refine WL.v (by exact r_field ty_fld60_1 rfl) rfl rfl rfl ?_
          -- R15.1 65 := convert.go:156 load
          refine WL.v (by exact r_load1 ty_one58 rfl (by first | assumption | exact st.c0 (by first | decide | omega) | exact st.c1 (by first | decide | omega) | exact st.c2 (by first | decide | omega) | exact st.c3 (by first | decide | omega) | exact st.c4 (by first | decide | omega) | exact st.c5 (by first | decide | omega) | exact st.c6 (by first | decide | omega) | exact st.c7 (by first | decide | omega) | exact st.c8 (by first | decide | omega))) rfl rfl rfl ?_
          -- R15.2 66 := convert.go:156 move
          refine WL.v (by first | exact r_move (v := .int _ _) rfl | exact r_move rfl) rfl rfl rfl ?_
          -- R15.3 67 := convert.go:156 indexAddr
          refine WL.v (by exact r_indexS (j := j) ty_sl58 rfl rfl (by omega) (by omega)) rfl rfl rfl ?_
          -- R15.4 68 := convert.go:156 load
          refine WL.v (by exact r_load1 ty_one50 rfl ((hrd [_, _] _ st k hlt).2.2.2 j hjl)) rfl rfl rfl ?_
          -- R15.5 69 := convert.go:156 convert
          refine WL.v (by first | exact r_conv ty_cv50_3 rfl (wi64 (by omega) (by omega)) | exact r_conv ty_cv50_3 rfl rfl) rfl rfl rfl ?_
          -- R15.6 70 := convert.go:156 call
          refine WL.call (r_call ty_call9 rfl) rfl rfl rfl (badInput_ok _ _ _ st) ?_
          rintro _ w ⟨eb, rfl, st⟩
          -- R15.7 2 := convert.go:156 assign
          refine WL.v (by first | exact r_assign (v := .slice _ _ _) rfl | exact r_assign rfl) rfl rfl rfl ?_
          -- R15.8 3 := convert.go:156 assign
          refine WL.v (by first | exact r_assign (v := .nilIface) rfl | exact r_assign (v := .iface _ _) rfl | exact r_assign rfl) rfl rfl rfl ?_
          refine WL.fin hK523 (fun _ _ h => h) ?_
          refine WC.ret2 Try.results6 (fun _ _ h => h) rfl ?_
          exact ⟨_, rfl, .inl ⟨fun h => hge ((h.1 k hlt).2.2.2 j (by omega) hjl), ⟨_, rfl⟩, st.drop.drop.drop⟩⟩
      · obtain rfl : j = dl k := by omega
        refine WC.seq fun K524 hK524 => ?_
        refine WC.seq fun K525 hK525 => ?_
        -- region 12
        refine WC.region ?_
        -- R12.0 45 := convert.go:154 move
        refine WL.v (by first | exact r_move (v := .int _ _) rfl | exact r_move rfl) rfl rfl rfl ?_
        -- R12.1 46 := convert.go:154 fieldAddr
        refine WL.v (by exact r_field ty_fld60_1 rfl) rfl rfl rfl ?_
        -- R12.2 47 := convert.go:154 load
        refine WL.v (by exact r_load1 ty_one58 rfl (by first | assumption | exact st.c0 (by first | decide | omega) | exact st.c1 (by first | decide | omega) | exact st.c2 (by first | decide | omega) | exact st.c3 (by first | decide | omega) | exact st.c4 (by first | decide | omega) | exact st.c5 (by first | decide | omega) | exact st.c6 (by first | decide | omega) | exact st.c7 (by first | decide | omega) | exact st.c8 (by first | decide | omega))) rfl rfl rfl ?_
        -- R12.3 48 := convert.go:154 call
        refine WL.v (by exact r_len ty_usl58 rfl) rfl rfl rfl ?_
        -- R12.4 49 := convert.go:154 binOp
        refine WL.v (by first | exact r_lss rfl rfl (decide_eq_true (by omega)) | exact r_lss rfl rfl (decide_eq_false (by omega)) | exact r_lss rfl rfl rfl) rfl rfl rfl ?_
        refine WL.fin hK525 (fun _ _ h => h) ?_
        refine WC.condF rfl rfl ?_
        refine WC.exitF hK513 (fun _ _ h => h) ?_
        -- region 16
        refine WC.region ?_
        -- R16.0 71 := convert.go:159 move
        refine WL.v (by first | exact r_move (v := .int _ _) rfl | exact r_move rfl) rfl rfl rfl ?_
        -- R16.1 72 := convert.go:159 fieldAddr
        refine WL.v (by exact r_field ty_fld60_1 rfl) rfl rfl rfl ?_
        -- R16.2 73 := convert.go:159 load
        refine WL.v (by exact r_load1 ty_one58 rfl (by first | assumption | exact st.c0 (by first | decide | omega) | exact st.c1 (by first | decide | omega) | exact st.c2 (by first | decide | omega) | exact st.c3 (by first | decide | omega) | exact st.c4 (by first | decide | omega) | exact st.c5 (by first | decide | omega) | exact st.c6 (by first | decide | omega) | exact st.c7 (by first | decide | omega) | exact st.c8 (by first | decide | omega))) rfl rfl rfl ?_
        -- R16.3 74 := convert.go:159 call
        refine WL.v (by exact r_len ty_usl58 rfl) rfl rfl rfl ?_
        -- R16.4 75 := convert.go:159 binOp
        refine WL.v (by first | exact r_add rfl rfl (wi64 (by omega) (by omega)) | exact r_add rfl rfl rfl) rfl rfl rfl ?_
        -- R16.5 4 := convert.go:159 assign
        refine WL.v (by first | exact r_assign (v := .int _ _) rfl | exact r_assign rfl) rfl rfl rfl ?_
        refine WL.fin hK505 (fun _ _ h => h) ?_
        -- region 17
        refine WC.region ?_
        -- R17.0 76 := convert.go:144 binOp
        refine WL.v (by first | exact r_add rfl rfl (wi64 (by omega) (by omega)) | exact r_add rfl rfl rfl) rfl rfl rfl ?_
        -- R17.1 17 := convert.go:144 move
        refine WL.v (by first | exact r_move (v := .int _ _) rfl | exact r_move rfl) rfl rfl rfl ?_
        refine WL.next hK1 (fun _ _ h => h) (k + 1) ⟨st.drop, by omega, fun u hu => ?_⟩ (by show q - (k + 1) < q - k; omega) (by repeat (first | exact sub_nil _ | refine sub_cons rfl rfl ?_))
        by_cases huk : u = k
        · subst huk; exact ⟨hz, hfall', by omega, hr⟩
        · exact hv u (by omega)
  obtain rfl : k = q := by omega
  refine WC.seq fun K526 hK526 => ?_
  -- region 3
  refine WC.region ?_
  -- R3.0 18 := convert.go:144 binOp
  refine WL.v (by first | exact r_lss rfl rfl (decide_eq_true (by omega)) | exact r_lss rfl rfl (decide_eq_false (by omega)) | exact r_lss rfl rfl rfl) rfl rfl rfl ?_
  refine WL.fin hK526 (fun _ _ h => h) ?_
  refine WC.seq fun K527 hK527 => ?_
  refine WC.condF rfl rfl ?_
  refine WC.exitF hK440 (fun _ _ h => h) ?_
  refine WC.seq fun K528 hK528 => ?_
  -- region 18
  refine WC.region ?_
  -- R18.0 77 := convert.go:164 makeFunc
  refine WL.v (by exact r_mkfn rfl rfl) rfl rfl rfl ?_
  -- R18.1 8 := convert.go:164 alloc
  refine WL.alloc st ty_zero68 rfl rfl rfl ?_
  intro b8 w st
  -- R18.2 None := convert.go:164 store
  first | refine WL.store (v := .func _ _ _) st ty_one68 rfl rfl rfl (by first | decide | omega) rfl rfl ?_ | refine WL.store (v := .nilFunc) st ty_one68 rfl rfl rfl (by first | decide | omega) rfl rfl ?_ | refine WL.store (v := _) st ty_one68 rfl rfl rfl (by first | decide | omega) rfl rfl ?_ | refine WL.store (v := .func _ _ _) st.front1 ty_one68 rfl rfl rfl (by first | decide | omega) rfl rfl ?_ | refine WL.store (v := .nilFunc) st.front1 ty_one68 rfl rfl rfl (by first | decide | omega) rfl rfl ?_ | refine WL.store (v := _) st.front1 ty_one68 rfl rfl rfl (by first | decide | omega) rfl rfl ?_ | refine WL.store (v := .func _ _ _) st.front2 ty_one68 rfl rfl rfl (by first | decide | omega) rfl rfl ?_ | refine WL.store (v := .nilFunc) st.front2 ty_one68 rfl rfl rfl (by first | decide | omega) rfl rfl ?_ | refine WL.store (v := _) st.front2 ty_one68 rfl rfl rfl (by first | decide | omega) rfl rfl ?_ | refine WL.store (v := .func _ _ _) st.front3 ty_one68 rfl rfl rfl (by first | decide | omega) rfl rfl ?_ | refine WL.store (v := .nilFunc) st.front3 ty_one68 rfl rfl rfl (by first | decide | omega) rfl rfl ?_ | refine WL.store (v := _) st.front3 ty_one68 rfl rfl rfl (by first | decide | omega) rfl rfl ?_ | refine WL.store (v := .func _ _ _) st.front4 ty_one68 rfl rfl rfl (by first | decide | omega) rfl rfl ?_ | refine WL.store (v := .nilFunc) st.front4 ty_one68 rfl rfl rfl (by first | decide | omega) rfl rfl ?_ | refine WL.store (v := _) st.front4 ty_one68 rfl rfl rfl (by first | decide | omega) rfl rfl ?_ | refine WL.store (v := .func _ _ _) st.front5 ty_one68 rfl rfl rfl (by first | decide | omega) rfl rfl ?_ | refine WL.store (v := .nilFunc) st.front5 ty_one68 rfl rfl rfl (by first | decide | omega) rfl rfl ?_ | refine WL.store (v := _) st.front5 ty_one68 rfl rfl rfl (by first | decide | omega) rfl rfl ?_ | refine WL.store (v := .func _ _ _) st.front6 ty_one68 rfl rfl rfl (by first | decide | omega) rfl rfl ?_ | refine WL.store (v := .nilFunc) st.front6 ty_one68 rfl rfl rfl (by first | decide | omega) rfl rfl ?_ | refine WL.store (v := _) st.front6 ty_one68 rfl rfl rfl (by first | decide | omega) rfl rfl ?_ | refine WL.store (v := .func _ _ _) st.front7 ty_one68 rfl rfl rfl (by first | decide | omega) rfl rfl ?_ | refine WL.store (v := .nilFunc) st.front7 ty_one68 rfl rfl rfl (by first | decide | omega) rfl rfl ?_ | refine WL.store (v := _) st.front7 ty_one68 rfl rfl rfl (by first | decide | omega) rfl rfl ?_ | refine WL.store (v := .func _ _ _) st.front8 ty_one68 rfl rfl rfl (by first | decide | omega) rfl rfl ?_ | refine WL.store (v := .nilFunc) st.front8 ty_one68 rfl rfl rfl (by first | decide | omega) rfl rfl ?_ | refine WL.store (v := _) st.front8 ty_one68 rfl rfl rfl (by first | decide | omega) rfl rfl ?_
  intro w st
  refine WL.fin hK528 (fun _ _ h => h) ?_
  refine WC.seq fun K529 hK529 => ?_
  -- region 19
  refine WC.region ?_
  -- R19.0 78 := convert.go:165 load
  refine WL.v (by exact r_load1 ty_one37 rfl (by first | assumption | exact st.c0 (by first | decide | omega) | exact st.c1 (by first | decide | omega) | exact st.c2 (by first | decide | omega) | exact st.c3 (by first | decide | omega) | exact st.c4 (by first | decide | omega) | exact st.c5 (by first | decide | omega) | exact st.c6 (by first | decide | omega) | exact st.c7 (by first | decide | omega) | exact st.c8 (by first | decide | omega))) rfl rfl rfl ?_
  -- R19.1 79 := convert.go:165 call
  refine WL.v (by exact r_len ty_usl37 rfl) rfl rfl rfl ?_
  -- R19.2 80 := convert.go:165 makeFunc
  refine WL.v (by exact r_mkfn rfl rfl) rfl rfl rfl ?_
  -- R19.3 81 := convert.go:165 call
  refine WL.call (r_call ty_call12 rfl) rfl rfl rfl (newHeap_ok k b8 hq st) ?_
  rintro _ w ⟨hb, ib, fi, rfl, st⟩
  -- R19.4 9 := convert.go:165 assign
  refine WL.v (by first | exact r_assign (v := .pointer _) rfl | exact r_assign rfl) rfl rfl rfl ?_
  refine WL.fin hK529 (fun _ _ h => h) ?_
  refine WC.seq fun K530 hK530 => ?_
  refine WC.seq fun K531 hK531 => ?_
  -- region 20
  refine WC.region ?_
  -- R20.0 82 := convert.go:166 load
  refine WL.v (by exact r_load1 ty_one37 rfl (by first | assumption | exact st.c0 (by first | decide | omega) | exact st.c1 (by first | decide | omega) | exact st.c2 (by first | decide | omega) | exact st.c3 (by first | decide | omega) | exact st.c4 (by first | decide | omega) | exact st.c5 (by first | decide | omega) | exact st.c6 (by first | decide | omega) | exact st.c7 (by first | decide | omega) | exact st.c8 (by first | decide | omega))) rfl rfl rfl ?_
  -- R20.1 83 := convert.go:166 call
  refine WL.v (by exact r_len ty_usl37 rfl) rfl rfl rfl ?_
  -- R20.2 84 := convert.go:166 move
  refine WL.v (by first | exact r_move (v := .int _ _) rfl | exact r_move rfl) rfl rfl rfl ?_
  refine WL.fin hK531 (fun _ _ h => h) ?_
  refine WC.block ?_
  have hl0 : ∀ g, g < k → 0 < dl g := fun g hg => (hv g hg).2.2.1
  have hG : ∀ f8 : Nat → Value, f8 0 = .func (.func 11) #[] #[.pointer (some ⟨b1, 0, none⟩)] → Grs w0 M ((b8, Row 68 1 f8) :: (b1, Row 37 1 (nth [.slice ga k gc])) :: L) b1 b8 ga k gc g o I db dO dl dc D := fun f8 hf8 =>
    ⟨fun its w' s => s.cell (t := 37) (n := 1) (f := nth [.slice ga k gc]) (by simp) (by decide), fun its w' s => (s.cell (t := 68) (n := 1) (f := f8) (by simp) (by decide)).trans (congrArg some hf8), hadr,
      fun its w' s i hi => by
        obtain ⟨h1, h2, h3, h4⟩ := hrd (its ++ [_, _]) w' (by rw [List.append_assoc]; exact s) i hi
        rw [h3 (hl0 i hi)] at h2
        exact ⟨h1, h2, h4⟩⟩
  have hG := hG (upd (nth [.nilFunc]) 0 (.func (.func 11) #[] #[.pointer (some ⟨b1, 0, none⟩)])) rfl
  refine WC.loop (ι := Nat × (Nat → Value) × (Nat → Nat × Nat)) (fun z => [(1, .pointer (some ⟨b1, 0, none⟩)), (4, .int .i64 (bas dl k : Nat)), (8, .pointer (some ⟨b8, 0, none⟩)), (9, .pointer (some ⟨hb, 0, none⟩)), (83, .int .i64 (k : Nat)), (84, .int .i64 (z.1 : Nat))])
    (fun z w' => St w0 M ((hb, Row 80 2 (heapR ib z.1 k b8)) :: (ib, Row 67 (k * 2) z.2.1) :: (b8, Row 68 1 (upd (nth [.nilFunc]) 0 (.func (.func 11) #[] #[.pointer (some ⟨b1, 0, none⟩)]))) :: (b1, Row 37 1 (nth [.slice ga k gc])) :: L) w' ∧
      z.1 ≤ k ∧ ItR z.2.1 z.1 z.2.2 ∧ HP (fun c : Nat × Nat => D c.1 c.2) z.2.2 z.1 ∧ ((List.range z.1).map z.2.2).Perm ((List.range z.1).map fun g => (g, 0))) (fun z => k - z.1) (0, fi, fun _ => (0, 0)) ⟨st, Nat.zero_le _, fun i hi => absurd hi (Nat.not_lt_zero _), fun i _ hi => absurd hi (Nat.not_lt_zero _), List.Perm.refl _⟩ ?_ ?_
  · skip
    repeat (first | exact sub_nil _ | refine sub_cons rfl rfl ?_)
  clear st fi
  rintro ⟨m, fi, it⟩ w ⟨st, hm, hit, hhp, hperm⟩ K2 hK2
  simp only at st hm hit hhp hperm hK2 ⊢
  by_cases hmk : m < k
  · skip
    refine WC.seq fun K532 hK532 => ?_
    -- region 21
    refine WC.region ?_
    -- R21.0 85 := convert.go:166 binOp
    refine WL.v (by first | exact r_lss rfl rfl (decide_eq_true (by omega)) | exact r_lss rfl rfl (decide_eq_false (by omega)) | exact r_lss rfl rfl rfl) rfl rfl rfl ?_
    refine WL.fin hK532 (fun _ _ h => h) ?_
    refine WC.seq fun K533 hK533 => ?_
    refine WC.condT rfl rfl ?_
    refine WC.skipF hK533 (fun _ _ h => h) ?_
    refine WC.seq fun K534 hK534 => ?_
    refine WC.block ?_
    refine WC.seq fun K535 hK535 => ?_
    -- region 22
    refine WC.region ?_
    -- R22.0 86 := convert.go:166 move
    refine WL.v (by first | exact r_move (v := .int _ _) rfl | exact r_move rfl) rfl rfl rfl ?_
    -- R22.1 10 := convert.go:166 assign
    refine WL.v (by first | exact r_assign (v := .int _ _) rfl | exact r_assign rfl) rfl rfl rfl ?_
    refine WL.fin hK535 (fun _ _ h => h) ?_
    -- region 23
    refine WC.region ?_
    -- R23.0 87 := convert.go:167 move
    refine WL.v (by first | exact r_move (v := .pointer _) rfl | exact r_move rfl) rfl rfl rfl ?_
    -- R23.1 88 := convert.go:167 move
    refine WL.v (by first | exact r_move (v := .int _ _) rfl | exact r_move rfl) rfl rfl rfl ?_
    -- R23.2 89 := convert.go:167 build
    refine WL.v (by first | exact r_build (vs := [.int _ _, .int _ _]) ty_pl67 ty_zero67 rfl rfl | exact r_build (vs := [_, _]) ty_pl67 ty_zero67 rfl rfl | exact r_build ty_pl67 ty_zero67 rfl rfl) rfl rfl rfl ?_
    -- R23.3 90 := convert.go:167 call
    refine WL.call (r_call ty_call14 rfl) rfl rfl rfl (push_ok hb ib m fi it (m, 0) hG hq hmk hit (fun i hi => ?_) ⟨hmk, hl0 m hmk⟩ hhp st) ?_
    · have : it i ∈ (List.range m).map fun g => (g, 0) := hperm.mem_iff.1 (List.mem_map.2 ⟨i, List.mem_range.2 hi, rfl⟩)
      obtain ⟨j, hj, e⟩ := List.mem_map.1 this
      have hj' := List.mem_range.1 hj
      rw [← e]; exact ⟨by show j < k; omega, hl0 j (by omega)⟩
    rintro _ w ⟨f', it', h1, h2, h3, st⟩
    refine WL.fin hK534 (fun _ _ h => h) ?_
    -- region 24
    refine WC.region ?_
    -- R24.0 91 := convert.go:166 binOp
    refine WL.v (by first | exact r_add rfl rfl (wi64 (by omega) (by omega)) | exact r_add rfl rfl rfl) rfl rfl rfl ?_
    -- R24.1 84 := convert.go:166 move
    refine WL.v (by first | exact r_move (v := .int _ _) rfl | exact r_move rfl) rfl rfl rfl ?_
    refine WL.next hK2 (fun _ _ h => h) (m + 1, f', it') ⟨st, by show m + 1 ≤ k; omega, h1, h2, h3.trans ?_⟩ (by show k - (m + 1) < k - m; omega) (by repeat (first | exact sub_nil _ | refine sub_cons rfl rfl ?_))
    rw [List.range_succ, List.map_append]
    refine List.Perm.trans (List.Perm.cons _ hperm) ?_
    exact (List.perm_append_comm (l₁ := [(m, 0)])).trans (List.Perm.refl _)
  obtain rfl : m = k := by omega
  refine WC.seq fun K536 hK536 => ?_
  -- region 21
  refine WC.region ?_
  -- R21.0 85 := convert.go:166 binOp
  refine WL.v (by first | exact r_lss rfl rfl (decide_eq_true (by omega)) | exact r_lss rfl rfl (decide_eq_false (by omega)) | exact r_lss rfl rfl rfl) rfl rfl rfl ?_
  refine WL.fin hK536 (fun _ _ h => h) ?_
  refine WC.seq fun K537 hK537 => ?_
  refine WC.condF rfl rfl ?_
  refine WC.exitF hK530 (fun _ _ h => h) ?_
  refine WC.seq fun K538 hK538 => ?_
  -- region 25
  refine WC.region ?_
  -- R25.0 92 := convert.go:169 move
  refine WL.v (by first | exact r_move (v := .int _ _) rfl | exact r_move rfl) rfl rfl rfl ?_
  -- R25.1 93 := convert.go:169 makeSlice
  refine WL.make (len := 0) st ty_mk25 ty_zero63 rfl rfl (by first | rfl | omega) (by first | rfl | omega) (by omega) (by omega) (by omega) rfl rfl rfl rfl ?_
  intro b93 w st
  -- R25.2 11 := convert.go:169 assign
  refine WL.v (by first | exact r_assign (v := .slice _ _ _) rfl | exact r_assign rfl) rfl rfl rfl ?_
  refine WL.fin hK538 (fun _ _ h => h) ?_
  refine WC.seq fun K539 hK539 => ?_
  refine WC.block ?_
  refine WC.loop (ι := MgI) (fun z => [(1, .pointer (some ⟨b1, 0, none⟩)), (8, .pointer (some ⟨b8, 0, none⟩)), (9, .pointer (some ⟨hb, 0, none⟩)), (11, .slice (some ⟨b93, 0, none⟩) z.k (bas dl m))])
    (fun z w' => St w0 M ((hb, Row 80 2 (heapR ib z.n m b8)) :: (ib, Row 67 (m * 2) z.fi) :: (b93, Row 63 (bas dl m * 2) z.f) :: (b8, Row 68 1 (upd (nth [.nilFunc]) 0 (.func (.func 11) #[] #[.pointer (some ⟨b1, 0, none⟩)]))) :: (b1, Row 37 1 (nth [.slice ga m gc])) :: L) w' ∧
      z.n ≤ m ∧ ItR z.fi z.n z.it ∧ HP (fun c : Nat × Nat => D c.1 c.2) z.it z.n ∧ HLok m dl z.ta ((List.range z.n).map z.it) ∧ Mg m dl D I z.ta z.k z.B ∧ LsR z.f z.k z.B) (fun z => bas dl m - z.k) ⟨0, fun _ => (0, 0), _, fun _ => 0, m, fi, it⟩
      ⟨st.front2.front2, Nat.le_refl _, hit, hhp, HLok.start hl0 hperm, Mg.start _ _ _ _ _, fun i hi => absurd hi (Nat.not_lt_zero _)⟩ ?_ ?_
  · skip
    repeat (first | exact sub_nil _ | refine sub_cons rfl rfl ?_)
  clear st hit hhp hperm
  rintro ⟨k, B, f, ta, n, fi, it⟩ w ⟨st, hn, hit, hhp, hHL, hMg, hls⟩ K3 hK3
  simp only at st hn hit hhp hHL hMg hls hK3 ⊢
  have hkl := mg_len hMg
  by_cases hn0 : n = 0
  · skip
    refine WC.seq fun K540 hK540 => ?_
    refine WC.seq fun K541 hK541 => ?_
    -- region 26
    refine WC.region ?_
    -- R26.0 94 := convert.go:170 move
    refine WL.v (by first | exact r_move (v := .pointer _) rfl | exact r_move rfl) rfl rfl rfl ?_
    -- R26.1 95 := convert.go:170 call
    refine WL.call (r_call ty_call15 rfl) rfl rfl rfl (hlen_ok hb ib n m b8 st) ?_
    rintro _ w ⟨rfl, st⟩
    -- R26.2 96 := convert.go:170 binOp
    refine WL.v (by first | exact r_gtr rfl rfl (decide_eq_true (by omega)) | exact r_gtr rfl rfl (decide_eq_false (by omega)) | exact r_gtr rfl rfl rfl) rfl rfl rfl ?_
    refine WL.fin hK541 (fun _ _ h => h) ?_
    refine WC.condF rfl rfl ?_
    refine WC.exitF hK539 (fun _ _ h => h) ?_
    refine WC.seq fun K542 hK542 => ?_
    -- region 37
    refine WC.region ?_
    -- R37.0 149 := convert.go:183 move
    refine WL.v (by first | exact r_move (v := .slice _ _ _) rfl | exact r_move rfl) rfl rfl rfl ?_
    -- R37.1 2 := convert.go:183 assign
    refine WL.v (by first | exact r_assign (v := .slice _ _ _) rfl | exact r_assign rfl) rfl rfl rfl ?_
    -- R37.2 3 := convert.go:183 assign
    refine WL.v (by first | exact r_assign (v := .nilIface) rfl | exact r_assign (v := .iface _ _) rfl | exact r_assign rfl) rfl rfl rfl ?_
    refine WL.fin hK542 (fun _ _ h => h) ?_
    refine WC.ret2 Try.results6 (fun _ _ h => h) rfl ?_
    have hall : ∀ g, g < m → ta g = dl g := fun g hg => by
      have h1 := hMg.le g hg
      by_cases h2 : ta g < dl g
      · obtain ⟨c, hc, _⟩ := hHL.all g hg h2
        simp [hn0] at hc
      · omega
    obtain ⟨rfl, hout⟩ := hMg.out hv hall
    exact ⟨_, rfl, .inr ⟨hv, b93, B, f, rfl, hout, hMg.inc, hls, st.drop.drop.drop1.drop1⟩⟩
  have hmem : ∀ i, i < n → (it i).1 < m ∧ (it i).2 = ta (it i).1 ∧ ta (it i).1 < dl (it i).1 := fun i hi => hHL.mem _ (List.mem_map.2 ⟨i, List.mem_range.2 hi, rfl⟩)
  have hok : ∀ i, i < n → (it i).1 < m ∧ (it i).2 < dl (it i).1 := fun i hi => ⟨(hmem i hi).1, by rw [(hmem i hi).2.1]; exact (hmem i hi).2.2⟩
  obtain ⟨hc1, hc2, hc3⟩ := hmem 0 (by omega)
  have hadr0 := hadr (by omega)
  obtain ⟨c, hc⟩ : ∃ c, c = it 0 := ⟨_, rfl⟩
  have hrh : (List.range n).map it = c :: (List.range (n - 1)).map fun k => it (k + 1) := by rw [hc]; exact range_head it (by omega)
  rw [hrh] at hHL
  rw [← hc] at hc1 hc2 hc3
  have hmin : ∀ u, u < m → ta u < dl u → D c.1 (ta c.1) ≤ D u (ta u) := fun u hu hul => by
    obtain ⟨d, hd, rfl⟩ := hHL.all u hu hul
    rw [← hrh] at hd
    obtain ⟨i, hi, rfl⟩ := List.mem_map.1 hd
    have := hhp.top i (List.mem_range.1 hi)
    rw [← hc] at this
    rw [← hc2, ← (hmem i (List.mem_range.1 hi)).2.1]; exact this
  have hklt : k < bas dl m := by rw [hkl]; exact bas_lt m c.1 hc1 hc3 hMg.le
  have hdl : dl c.1 ≤ bas dl m := by
    have := bas_mono dl (show c.1 + 1 ≤ m by omega)
    simp only [bas] at this; omega
  subst hadr0
  by_cases hdup : 0 < k ∧ (B (k - 1)).1 = D c.1 (ta c.1)
  · skip
    refine WC.seq fun K543 hK543 => ?_
    refine WC.seq fun K544 hK544 => ?_
    -- region 26
    refine WC.region ?_
    -- R26.0 94 := convert.go:170 move
    refine WL.v (by first | exact r_move (v := .pointer _) rfl | exact r_move rfl) rfl rfl rfl ?_
    -- R26.1 95 := convert.go:170 call
    refine WL.call (r_call ty_call15 rfl) rfl rfl rfl (hlen_ok hb ib n m b8 st) ?_
    rintro _ w ⟨rfl, st⟩
    -- R26.2 96 := convert.go:170 binOp
    refine WL.v (by first | exact r_gtr rfl rfl (decide_eq_true (by omega)) | exact r_gtr rfl rfl (decide_eq_false (by omega)) | exact r_gtr rfl rfl rfl) rfl rfl rfl ?_
    refine WL.fin hK544 (fun _ _ h => h) ?_
    refine WC.condT rfl rfl ?_
    refine WC.skipF hK543 (fun _ _ h => h) ?_
    refine WC.block ?_
    refine WC.seq fun K545 hK545 => ?_
    -- region 27
    refine WC.region ?_
    -- R27.0 97 := convert.go:171 move
    refine WL.v (by first | exact r_move (v := .pointer _) rfl | exact r_move rfl) rfl rfl rfl ?_
    -- R27.1 98 := convert.go:171 call
    refine WL.call (r_call ty_call16 rfl) rfl rfl rfl (top_ok hb ib n m b8 fi it (by omega) hn hit st) ?_
    rintro _ w ⟨rfl, st⟩
    rw [← hc]
    -- R27.2 12 := convert.go:171 alloc
    refine WL.alloc st ty_zero67 rfl rfl rfl ?_
    intro b12 w st
    -- R27.3 None := convert.go:171 store
    first | refine WL.storeW (vs := [_, _]) st ty_agg67 rfl rfl rfl rfl rfl rfl ?_ | refine WL.storeL (vs := [_, _]) st ty_agg67 rfl rfl rfl rfl (by first | decide | omega) rfl rfl ?_ | refine WL.storeW (vs := [_, _]) st.front1 ty_agg67 rfl rfl rfl rfl rfl rfl ?_ | refine WL.storeL (vs := [_, _]) st.front1 ty_agg67 rfl rfl rfl rfl (by first | decide | omega) rfl rfl ?_ | refine WL.storeW (vs := [_, _]) st.front2 ty_agg67 rfl rfl rfl rfl rfl rfl ?_ | refine WL.storeL (vs := [_, _]) st.front2 ty_agg67 rfl rfl rfl rfl (by first | decide | omega) rfl rfl ?_ | refine WL.storeW (vs := [_, _]) st.front3 ty_agg67 rfl rfl rfl rfl rfl rfl ?_ | refine WL.storeL (vs := [_, _]) st.front3 ty_agg67 rfl rfl rfl rfl (by first | decide | omega) rfl rfl ?_ | refine WL.storeW (vs := [_, _]) st.front4 ty_agg67 rfl rfl rfl rfl rfl rfl ?_ | refine WL.storeL (vs := [_, _]) st.front4 ty_agg67 rfl rfl rfl rfl (by first | decide | omega) rfl rfl ?_ | refine WL.storeW (vs := [_, _]) st.front5 ty_agg67 rfl rfl rfl rfl rfl rfl ?_ | refine WL.storeL (vs := [_, _]) st.front5 ty_agg67 rfl rfl rfl rfl (by first | decide | omega) rfl rfl ?_ | refine WL.storeW (vs := [_, _]) st.front6 ty_agg67 rfl rfl rfl rfl rfl rfl ?_ | refine WL.storeL (vs := [_, _]) st.front6 ty_agg67 rfl rfl rfl rfl (by first | decide | omega) rfl rfl ?_ | refine WL.storeW (vs := [_, _]) st.front7 ty_agg67 rfl rfl rfl rfl rfl rfl ?_ | refine WL.storeL (vs := [_, _]) st.front7 ty_agg67 rfl rfl rfl rfl (by first | decide | omega) rfl rfl ?_ | refine WL.storeW (vs := [_, _]) st.front8 ty_agg67 rfl rfl rfl rfl rfl rfl ?_ | refine WL.storeL (vs := [_, _]) st.front8 ty_agg67 rfl rfl rfl rfl (by first | decide | omega) rfl rfl ?_
    intro w st
    refine WL.fin hK545 (fun _ _ h => h) ?_
    refine WC.seq fun K546 hK546 => ?_
    -- region 28
    refine WC.region ?_
    -- R28.0 99 := convert.go:172 load
    refine WL.v (by exact r_load1 ty_one68 rfl (hG.fn [_, _, _, _] _ st)) rfl rfl rfl ?_
    -- R28.1 100 := convert.go:172 load
    refine WL.v (by exact r_loadL (vs := [_, _]) ty_agg67 rfl ⟨(by first | assumption | exact st.c0 (by first | decide | omega) | exact st.c1 (by first | decide | omega) | exact st.c2 (by first | decide | omega) | exact st.c3 (by first | decide | omega) | exact st.c4 (by first | decide | omega) | exact st.c5 (by first | decide | omega) | exact st.c6 (by first | decide | omega) | exact st.c7 (by first | decide | omega) | exact st.c8 (by first | decide | omega)), (by first | assumption | exact st.c0 (by first | decide | omega) | exact st.c1 (by first | decide | omega) | exact st.c2 (by first | decide | omega) | exact st.c3 (by first | decide | omega) | exact st.c4 (by first | decide | omega) | exact st.c5 (by first | decide | omega) | exact st.c6 (by first | decide | omega) | exact st.c7 (by first | decide | omega) | exact st.c8 (by first | decide | omega)), trivial⟩) rfl rfl rfl ?_
    -- R28.2 101 := convert.go:172 call
    refine WL.call (r_callv ty_call11 rfl rfl) rfl rfl rfl (under_ok c.1 c.2 (hG.more [_, _, _, _]) hc1 (by omega) st) ?_
    rintro _ w ⟨rfl, st⟩
    rw [hc2]
    -- R28.3 13 := convert.go:172 assign
    refine WL.v (by first | exact r_assign (v := .int _ _) rfl | exact r_assign rfl) rfl rfl rfl ?_
    refine WL.fin hK546 (fun _ _ h => h) ?_
    refine WC.seq fun K547 hK547 => ?_
    refine WC.seq fun K548 hK548 => ?_
    -- region 29
    refine WC.region ?_
    -- R29.0 102 := convert.go:173 move
    refine WL.v (by first | exact r_move (v := .slice _ _ _) rfl | exact r_move rfl) rfl rfl rfl ?_
    -- R29.1 103 := convert.go:173 call
    refine WL.v (by exact r_len ty_usl25 rfl) rfl rfl rfl ?_
    -- R29.2 14 := convert.go:173 assign
    refine WL.v (by first | exact r_assign (v := .int _ _) rfl | exact r_assign rfl) rfl rfl rfl ?_
    refine WL.fin hK548 (fun _ _ h => h) ?_
    refine WC.seq fun K549 hK549 => ?_
    -- region 30
    refine WC.region ?_
    -- R30.0 104 := convert.go:173 move
    refine WL.v (by first | exact r_move (v := .int _ _) rfl | exact r_move rfl) rfl rfl rfl ?_
    -- R30.1 105 := convert.go:173 binOp
    refine WL.v (by first | exact r_gtr rfl rfl (decide_eq_true (by omega)) | exact r_gtr rfl rfl (decide_eq_false (by omega)) | exact r_gtr rfl rfl rfl) rfl rfl rfl ?_
    -- R30.2 106 := convert.go:173 move
    refine WL.v (by first | exact r_move (v := .bool _) rfl | exact r_move rfl) rfl rfl rfl ?_
    -- R30.3 107 := convert.go:173 move
    refine WL.v (by first | exact r_move (v := .slice _ _ _) rfl | exact r_move rfl) rfl rfl rfl ?_
    -- R30.4 108 := convert.go:173 move
    refine WL.v (by first | exact r_move (v := .int _ _) rfl | exact r_move rfl) rfl rfl rfl ?_
    -- R30.5 109 := convert.go:173 binOp
    refine WL.v (by exact r_sub (r := ((k - 1 : Nat) : Int)) rfl rfl (by rw [wi64 (by omega) (by omega)]; omega)) rfl rfl rfl ?_
    -- R30.6 110 := convert.go:173 indexAddr
    refine WL.v (by exact r_indexS (j := k - 1) ty_sl25 rfl rfl (by omega) (by omega)) rfl rfl rfl ?_
    -- R30.7 111 := convert.go:173 fieldAddr
    refine WL.v (by exact r_field ty_fld63_0 rfl) rfl rfl rfl ?_
    -- R30.8 112 := convert.go:173 load
    refine WL.v (by exact r_load1 ty_one50 rfl ((st.c3 (by omega)).trans (congrArg some (hls (k - 1) (by omega)).1))) rfl rfl rfl ?_
    -- R30.9 113 := convert.go:173 move
    refine WL.v (by first | exact r_move (v := .int _ _) rfl | exact r_move rfl) rfl rfl rfl ?_
    -- R30.10 114 := convert.go:173 binOp
    refine WL.v (by first | exact r_eql rfl rfl (decide_eq_true (by omega)) | exact r_eql rfl rfl (decide_eq_false (by omega)) | exact r_eql rfl rfl rfl) rfl rfl rfl ?_
    -- R30.11 115 := convert.go:173 pick
    refine WL.v (by first | exact r_pickT (v := .bool _) rfl rfl | exact r_pickF (v := .bool _) rfl rfl) rfl rfl rfl ?_
    refine WL.fin hK549 (fun _ _ h => h) ?_
    refine WC.condT rfl rfl ?_
    refine WC.seq fun K550 hK550 => ?_
    -- region 31
    refine WC.region ?_
    -- R31.0 116 := convert.go:174 move
    refine WL.v (by first | exact r_move (v := .int _ _) rfl | exact r_move rfl) rfl rfl rfl ?_
    -- R31.1 117 := convert.go:174 convert
    refine WL.v (by first | exact r_conv ty_cv50_3 rfl (wi64 (by omega) (by omega)) | exact r_conv ty_cv50_3 rfl rfl) rfl rfl rfl ?_
    -- R31.2 118 := convert.go:174 call
    refine WL.call (r_call ty_call9 rfl) rfl rfl rfl (badInput_ok _ _ _ st) ?_
    rintro _ w ⟨eb, rfl, st⟩
    -- R31.3 2 := convert.go:174 assign
    refine WL.v (by first | exact r_assign (v := .slice _ _ _) rfl | exact r_assign rfl) rfl rfl rfl ?_
    -- R31.4 3 := convert.go:174 assign
    refine WL.v (by first | exact r_assign (v := .nilIface) rfl | exact r_assign (v := .iface _ _) rfl | exact r_assign rfl) rfl rfl rfl ?_
    refine WL.fin hK550 (fun _ _ h => h) ?_
    refine WC.ret2 Try.results6 (fun _ _ h => h) rfl ?_
    exact ⟨_, rfl, .inl ⟨fun h => hMg.dup hc1 hc3 hdup.1 hdup.2 h.2, ⟨_, rfl⟩, st.drop.drop.drop.drop.drop.drop.drop⟩⟩
  have hne : 0 < k → (B (k - 1)).1 ≠ D c.1 (ta c.1) := fun h0 he => hdup ⟨h0, he⟩
  by_cases hk0 : 0 < k
  · have hne' := hne hk0
    by_cases hmv : ta c.1 + 1 < dl c.1
    · skip
      refine WC.seq fun K551 hK551 => ?_
      refine WC.seq fun K552 hK552 => ?_
      -- region 26
      refine WC.region ?_
      -- R26.0 94 := convert.go:170 move
      refine WL.v (by first | exact r_move (v := .pointer _) rfl | exact r_move rfl) rfl rfl rfl ?_
      -- R26.1 95 := convert.go:170 call
      refine WL.call (r_call ty_call15 rfl) rfl rfl rfl (hlen_ok hb ib n m b8 st) ?_
      rintro _ w ⟨rfl, st⟩
      -- R26.2 96 := convert.go:170 binOp
      refine WL.v (by first | exact r_gtr rfl rfl (decide_eq_true (by omega)) | exact r_gtr rfl rfl (decide_eq_false (by omega)) | exact r_gtr rfl rfl rfl) rfl rfl rfl ?_
      refine WL.fin hK552 (fun _ _ h => h) ?_
      refine WC.condT rfl rfl ?_
      refine WC.skipF hK551 (fun _ _ h => h) ?_
      refine WC.block ?_
      refine WC.seq fun K553 hK553 => ?_
      -- region 27
      refine WC.region ?_
      -- R27.0 97 := convert.go:171 move
      refine WL.v (by first | exact r_move (v := .pointer _) rfl | exact r_move rfl) rfl rfl rfl ?_
      -- R27.1 98 := convert.go:171 call
      refine WL.call (r_call ty_call16 rfl) rfl rfl rfl (top_ok hb ib n m b8 fi it (by omega) hn hit st) ?_
      rintro _ w ⟨rfl, st⟩
      rw [← hc]
      -- R27.2 12 := convert.go:171 alloc
      refine WL.alloc st ty_zero67 rfl rfl rfl ?_
      intro b12 w st
      -- R27.3 None := convert.go:171 store
      first | refine WL.storeW (vs := [_, _]) st ty_agg67 rfl rfl rfl rfl rfl rfl ?_ | refine WL.storeL (vs := [_, _]) st ty_agg67 rfl rfl rfl rfl (by first | decide | omega) rfl rfl ?_ | refine WL.storeW (vs := [_, _]) st.front1 ty_agg67 rfl rfl rfl rfl rfl rfl ?_ | refine WL.storeL (vs := [_, _]) st.front1 ty_agg67 rfl rfl rfl rfl (by first | decide | omega) rfl rfl ?_ | refine WL.storeW (vs := [_, _]) st.front2 ty_agg67 rfl rfl rfl rfl rfl rfl ?_ | refine WL.storeL (vs := [_, _]) st.front2 ty_agg67 rfl rfl rfl rfl (by first | decide | omega) rfl rfl ?_ | refine WL.storeW (vs := [_, _]) st.front3 ty_agg67 rfl rfl rfl rfl rfl rfl ?_ | refine WL.storeL (vs := [_, _]) st.front3 ty_agg67 rfl rfl rfl rfl (by first | decide | omega) rfl rfl ?_ | refine WL.storeW (vs := [_, _]) st.front4 ty_agg67 rfl rfl rfl rfl rfl rfl ?_ | refine WL.storeL (vs := [_, _]) st.front4 ty_agg67 rfl rfl rfl rfl (by first | decide | omega) rfl rfl ?_ | refine WL.storeW (vs := [_, _]) st.front5 ty_agg67 rfl rfl rfl rfl rfl rfl ?_ | refine WL.storeL (vs := [_, _]) st.front5 ty_agg67 rfl rfl rfl rfl (by first | decide | omega) rfl rfl ?_ | refine WL.storeW (vs := [_, _]) st.front6 ty_agg67 rfl rfl rfl rfl rfl rfl ?_ | refine WL.storeL (vs := [_, _]) st.front6 ty_agg67 rfl rfl rfl rfl (by first | decide | omega) rfl rfl ?_ | refine WL.storeW (vs := [_, _]) st.front7 ty_agg67 rfl rfl rfl rfl rfl rfl ?_ | refine WL.storeL (vs := [_, _]) st.front7 ty_agg67 rfl rfl rfl rfl (by first | decide | omega) rfl rfl ?_ | refine WL.storeW (vs := [_, _]) st.front8 ty_agg67 rfl rfl rfl rfl rfl rfl ?_ | refine WL.storeL (vs := [_, _]) st.front8 ty_agg67 rfl rfl rfl rfl (by first | decide | omega) rfl rfl ?_
      intro w st
      refine WL.fin hK553 (fun _ _ h => h) ?_
      refine WC.seq fun K554 hK554 => ?_
      -- region 28
      refine WC.region ?_
      -- R28.0 99 := convert.go:172 load
      refine WL.v (by exact r_load1 ty_one68 rfl (hG.fn [_, _, _, _] _ st)) rfl rfl rfl ?_
      -- R28.1 100 := convert.go:172 load
      refine WL.v (by exact r_loadL (vs := [_, _]) ty_agg67 rfl ⟨(by first | assumption | exact st.c0 (by first | decide | omega) | exact st.c1 (by first | decide | omega) | exact st.c2 (by first | decide | omega) | exact st.c3 (by first | decide | omega) | exact st.c4 (by first | decide | omega) | exact st.c5 (by first | decide | omega) | exact st.c6 (by first | decide | omega) | exact st.c7 (by first | decide | omega) | exact st.c8 (by first | decide | omega)), (by first | assumption | exact st.c0 (by first | decide | omega) | exact st.c1 (by first | decide | omega) | exact st.c2 (by first | decide | omega) | exact st.c3 (by first | decide | omega) | exact st.c4 (by first | decide | omega) | exact st.c5 (by first | decide | omega) | exact st.c6 (by first | decide | omega) | exact st.c7 (by first | decide | omega) | exact st.c8 (by first | decide | omega)), trivial⟩) rfl rfl rfl ?_
      -- R28.2 101 := convert.go:172 call
      refine WL.call (r_callv ty_call11 rfl rfl) rfl rfl rfl (under_ok c.1 c.2 (hG.more [_, _, _, _]) hc1 (by omega) st) ?_
      rintro _ w ⟨rfl, st⟩
      rw [hc2]
      -- R28.3 13 := convert.go:172 assign
      refine WL.v (by first | exact r_assign (v := .int _ _) rfl | exact r_assign rfl) rfl rfl rfl ?_
      refine WL.fin hK554 (fun _ _ h => h) ?_
      refine WC.seq fun K555 hK555 => ?_
      refine WC.seq fun K556 hK556 => ?_
      -- region 29
      refine WC.region ?_
      -- R29.0 102 := convert.go:173 move
      refine WL.v (by first | exact r_move (v := .slice _ _ _) rfl | exact r_move rfl) rfl rfl rfl ?_
      -- R29.1 103 := convert.go:173 call
      refine WL.v (by exact r_len ty_usl25 rfl) rfl rfl rfl ?_
      -- R29.2 14 := convert.go:173 assign
      refine WL.v (by first | exact r_assign (v := .int _ _) rfl | exact r_assign rfl) rfl rfl rfl ?_
      refine WL.fin hK556 (fun _ _ h => h) ?_
      refine WC.seq fun K557 hK557 => ?_
      -- region 30
      refine WC.region ?_
      -- R30.0 104 := convert.go:173 move
      refine WL.v (by first | exact r_move (v := .int _ _) rfl | exact r_move rfl) rfl rfl rfl ?_
      -- R30.1 105 := convert.go:173 binOp
      refine WL.v (by first | exact r_gtr rfl rfl (decide_eq_true (by omega)) | exact r_gtr rfl rfl (decide_eq_false (by omega)) | exact r_gtr rfl rfl rfl) rfl rfl rfl ?_
      -- R30.2 106 := convert.go:173 move
      refine WL.v (by first | exact r_move (v := .bool _) rfl | exact r_move rfl) rfl rfl rfl ?_
      -- R30.3 107 := convert.go:173 move
      refine WL.v (by first | exact r_move (v := .slice _ _ _) rfl | exact r_move rfl) rfl rfl rfl ?_
      -- R30.4 108 := convert.go:173 move
      refine WL.v (by first | exact r_move (v := .int _ _) rfl | exact r_move rfl) rfl rfl rfl ?_
      -- R30.5 109 := convert.go:173 binOp
      refine WL.v (by exact r_sub (r := ((k - 1 : Nat) : Int)) rfl rfl (by rw [wi64 (by omega) (by omega)]; omega)) rfl rfl rfl ?_
      -- R30.6 110 := convert.go:173 indexAddr
      refine WL.v (by exact r_indexS (j := k - 1) ty_sl25 rfl rfl (by omega) (by omega)) rfl rfl rfl ?_
      -- R30.7 111 := convert.go:173 fieldAddr
      refine WL.v (by exact r_field ty_fld63_0 rfl) rfl rfl rfl ?_
      -- R30.8 112 := convert.go:173 load
      refine WL.v (by exact r_load1 ty_one50 rfl ((st.c3 (by omega)).trans (congrArg some (hls (k - 1) (by omega)).1))) rfl rfl rfl ?_
      -- R30.9 113 := convert.go:173 move
      refine WL.v (by first | exact r_move (v := .int _ _) rfl | exact r_move rfl) rfl rfl rfl ?_
      -- R30.10 114 := convert.go:173 binOp
      refine WL.v (by first | exact r_eql rfl rfl (decide_eq_true (by omega)) | exact r_eql rfl rfl (decide_eq_false (by omega)) | exact r_eql rfl rfl rfl) rfl rfl rfl ?_
      -- R30.11 115 := convert.go:173 pick
      refine WL.v (by first | exact r_pickT (v := .bool _) rfl rfl | exact r_pickF (v := .bool _) rfl rfl) rfl rfl rfl ?_
      refine WL.fin hK557 (fun _ _ h => h) ?_
      refine WC.condF rfl rfl ?_
      refine WC.skipF hK555 (fun _ _ h => h) ?_
      refine WC.seq fun K558 hK558 => ?_
      -- region 32
      refine WC.region ?_
      -- R32.0 119 := convert.go:176 move
      refine WL.v (by first | exact r_move (v := .slice _ _ _) rfl | exact r_move rfl) rfl rfl rfl ?_
      -- R32.1 120 := convert.go:176 move
      refine WL.v (by first | exact r_move (v := .int _ _) rfl | exact r_move rfl) rfl rfl rfl ?_
      -- R32.2 121 := convert.go:176 load
      refine WL.v (by exact r_load1 ty_one37 rfl (hG.box [_, _, _, _] _ st)) rfl rfl rfl ?_
      -- R32.3 122 := convert.go:176 fieldAddr
      refine WL.v (by exact r_field ty_fld67_0 rfl) rfl rfl rfl ?_
      -- R32.4 123 := convert.go:176 load
      refine WL.v (by exact r_load1 ty_one3 rfl (by first | assumption | exact st.c0 (by first | decide | omega) | exact st.c1 (by first | decide | omega) | exact st.c2 (by first | decide | omega) | exact st.c3 (by first | decide | omega) | exact st.c4 (by first | decide | omega) | exact st.c5 (by first | decide | omega) | exact st.c6 (by first | decide | omega) | exact st.c7 (by first | decide | omega) | exact st.c8 (by first | decide | omega))) rfl rfl rfl ?_
      -- R32.5 124 := convert.go:176 indexAddr
      refine WL.v (by exact r_indexS (j := c.1) ty_sl37 rfl rfl (by omega) (by omega)) rfl rfl rfl ?_
      -- R32.6 125 := convert.go:176 fieldAddr
      refine WL.v (by exact r_field ty_fld60_0 rfl) rfl rfl rfl ?_
      -- R32.7 126 := convert.go:176 load
      refine WL.v (by exact r_load1 ty_one5 rfl ((hG.at_ [_, _, _, _] _ st c.1 hc1).1)) rfl rfl rfl ?_
      -- R32.8 127 := convert.go:176 build
      refine WL.v (by first | exact r_build (vs := [.int _ _, .int _ _]) ty_pl63 ty_zero63 rfl rfl | exact r_build (vs := [_, _]) ty_pl63 ty_zero63 rfl rfl | exact r_build ty_pl63 ty_zero63 rfl rfl) rfl rfl rfl ?_
      -- R32.9 128 := convert.go:176 buildSlice
      first | refine WL.mkslice (m := 2) (vs := [.int _ _, .int _ _]) st ty_sl25 ty_zero63 rfl rfl rfl rfl rfl rfl ?_ | refine WL.mkslice (m := 2) (vs := [_, _]) st ty_sl25 ty_zero63 rfl rfl rfl rfl rfl rfl ?_ | refine WL.mkslice st ty_sl25 ty_zero63 rfl rfl rfl rfl rfl rfl ?_
      intro b128 w st
      -- R32.10 129 := convert.go:176 call
      refine WL.appendR (m := 1) st.front4 ty_sl25 rfl rfl (by omega) (by omega) (fun j hj => st.c0 (by omega)) (fun j hj => ?_) rfl rfl rfl ?_
      · match j, hj with
        | 0, _ => rfl
        | 1, _ => rfl
      intro w st
      -- R32.11 11 := convert.go:176 assign
      refine WL.v (by first | exact r_assign (v := .slice _ _ _) rfl | exact r_assign rfl) rfl rfl rfl ?_
      refine WL.fin hK558 (fun _ _ h => h) ?_
      refine WC.seq fun K559 hK559 => ?_
      -- region 33
      refine WC.region ?_
      -- R33.0 130 := convert.go:177 fieldAddr
      refine WL.v (by exact r_field ty_fld67_1 rfl) rfl rfl rfl ?_
      -- R33.1 131 := convert.go:177 load
      refine WL.v (by exact r_load1 ty_one3 rfl (by first | assumption | exact st.c0 (by first | decide | omega) | exact st.c1 (by first | decide | omega) | exact st.c2 (by first | decide | omega) | exact st.c3 (by first | decide | omega) | exact st.c4 (by first | decide | omega) | exact st.c5 (by first | decide | omega) | exact st.c6 (by first | decide | omega) | exact st.c7 (by first | decide | omega) | exact st.c8 (by first | decide | omega))) rfl rfl rfl ?_
      -- R33.2 132 := convert.go:177 binOp
      refine WL.v (by exact r_add (r := ((ta c.1 + 1 : Nat) : Int)) rfl rfl (by rw [hc2, wi64 (by omega) (by omega)]; omega)) rfl rfl rfl ?_
      -- R33.3 133 := convert.go:177 fieldAddr
      refine WL.v (by exact r_field ty_fld67_1 rfl) rfl rfl rfl ?_
      -- R33.4 None := convert.go:177 store
      first | refine WL.store (v := .int _ _) st ty_one3 rfl rfl rfl (by first | decide | omega) rfl rfl ?_ | refine WL.store (v := _) st ty_one3 rfl rfl rfl (by first | decide | omega) rfl rfl ?_ | refine WL.store (v := .int _ _) st.front1 ty_one3 rfl rfl rfl (by first | decide | omega) rfl rfl ?_ | refine WL.store (v := _) st.front1 ty_one3 rfl rfl rfl (by first | decide | omega) rfl rfl ?_ | refine WL.store (v := .int _ _) st.front2 ty_one3 rfl rfl rfl (by first | decide | omega) rfl rfl ?_ | refine WL.store (v := _) st.front2 ty_one3 rfl rfl rfl (by first | decide | omega) rfl rfl ?_ | refine WL.store (v := .int _ _) st.front3 ty_one3 rfl rfl rfl (by first | decide | omega) rfl rfl ?_ | refine WL.store (v := _) st.front3 ty_one3 rfl rfl rfl (by first | decide | omega) rfl rfl ?_ | refine WL.store (v := .int _ _) st.front4 ty_one3 rfl rfl rfl (by first | decide | omega) rfl rfl ?_ | refine WL.store (v := _) st.front4 ty_one3 rfl rfl rfl (by first | decide | omega) rfl rfl ?_ | refine WL.store (v := .int _ _) st.front5 ty_one3 rfl rfl rfl (by first | decide | omega) rfl rfl ?_ | refine WL.store (v := _) st.front5 ty_one3 rfl rfl rfl (by first | decide | omega) rfl rfl ?_ | refine WL.store (v := .int _ _) st.front6 ty_one3 rfl rfl rfl (by first | decide | omega) rfl rfl ?_ | refine WL.store (v := _) st.front6 ty_one3 rfl rfl rfl (by first | decide | omega) rfl rfl ?_ | refine WL.store (v := .int _ _) st.front7 ty_one3 rfl rfl rfl (by first | decide | omega) rfl rfl ?_ | refine WL.store (v := _) st.front7 ty_one3 rfl rfl rfl (by first | decide | omega) rfl rfl ?_ | refine WL.store (v := .int _ _) st.front8 ty_one3 rfl rfl rfl (by first | decide | omega) rfl rfl ?_ | refine WL.store (v := _) st.front8 ty_one3 rfl rfl rfl (by first | decide | omega) rfl rfl ?_
      intro w st
      refine WL.fin hK559 (fun _ _ h => h) ?_
      refine WC.seq fun K560 hK560 => ?_
      -- region 34 (draws)
      refine WC.quietS st ty_mixed (by kernel_rfl) fun Kq hKq => ?_
      -- R34.0 134 := convert.go:177 fieldAddr
      refine QL.v (fun w st => by exact r_field ty_fld67_1 rfl) rfl rfl rfl ?_
      -- R34.1 135 := convert.go:177 load
      refine QL.v (fun w st => by exact r_load1 ty_one3 rfl (by first | assumption | exact st.c0 (by first | decide | omega) | exact st.c1 (by first | decide | omega) | exact st.c2 (by first | decide | omega) | exact st.c3 (by first | decide | omega) | exact st.c4 (by first | decide | omega) | exact st.c5 (by first | decide | omega) | exact st.c6 (by first | decide | omega) | exact st.c7 (by first | decide | omega) | exact st.c8 (by first | decide | omega))) rfl rfl rfl ?_
      -- R34.2 136 := convert.go:177 load
      refine QL.v (fun w st => by exact r_load1 ty_one37 rfl (hG.box [_, _, _, _, _] _ st)) rfl rfl rfl ?_
      -- R34.3 137 := convert.go:177 fieldAddr
      refine QL.v (fun w st => by exact r_field ty_fld67_0 rfl) rfl rfl rfl ?_
      -- R34.4 138 := convert.go:177 load
      refine QL.v (fun w st => by exact r_load1 ty_one3 rfl (by first | assumption | exact st.c0 (by first | decide | omega) | exact st.c1 (by first | decide | omega) | exact st.c2 (by first | decide | omega) | exact st.c3 (by first | decide | omega) | exact st.c4 (by first | decide | omega) | exact st.c5 (by first | decide | omega) | exact st.c6 (by first | decide | omega) | exact st.c7 (by first | decide | omega) | exact st.c8 (by first | decide | omega))) rfl rfl rfl ?_
      -- R34.5 139 := convert.go:177 indexAddr
      refine QL.v (fun w st => by exact r_indexS (j := c.1) ty_sl37 rfl rfl (by omega) (by omega)) rfl rfl rfl ?_
      -- R34.6 140 := convert.go:177 fieldAddr
      refine QL.v (fun w st => by exact r_field ty_fld60_1 rfl) rfl rfl rfl ?_
      -- R34.7 141 := convert.go:177 load
      refine QL.v (fun w st => by exact r_load1 ty_one58 rfl ((hG.at_ [_, _, _, _, _] _ st c.1 hc1).2.1)) rfl rfl rfl ?_
      -- R34.8 142 := convert.go:177 call
      refine QL.v (fun w st => by exact r_len ty_usl58 rfl) rfl rfl rfl ?_
      -- R34.9 143 := convert.go:177 binOp
      refine QL.v (fun w st => by first | exact r_lss rfl rfl (decide_eq_true (by omega)) | exact r_lss rfl rfl (decide_eq_false (by omega)) | exact r_lss rfl rfl rfl) rfl rfl rfl ?_
      refine QL.wl hKq fun w st => ?_
      refine WL.fin hK560 (fun _ _ h => h) ?_
      refine WC.condT rfl rfl ?_
      -- region 35
      have st := st.drop2.front3.front3
      refine WC.region ?_
      -- R35.0 144 := convert.go:178 move
      refine WL.v (by first | exact r_move (v := .pointer _) rfl | exact r_move rfl) rfl rfl rfl ?_
      -- R35.1 145 := convert.go:178 load
      refine WL.v (by exact r_loadL (vs := [_, _]) ty_agg67 rfl ⟨(by first | assumption | exact st.c0 (by first | decide | omega) | exact st.c1 (by first | decide | omega) | exact st.c2 (by first | decide | omega) | exact st.c3 (by first | decide | omega) | exact st.c4 (by first | decide | omega) | exact st.c5 (by first | decide | omega) | exact st.c6 (by first | decide | omega) | exact st.c7 (by first | decide | omega) | exact st.c8 (by first | decide | omega)), (by first | assumption | exact st.c0 (by first | decide | omega) | exact st.c1 (by first | decide | omega) | exact st.c2 (by first | decide | omega) | exact st.c3 (by first | decide | omega) | exact st.c4 (by first | decide | omega) | exact st.c5 (by first | decide | omega) | exact st.c6 (by first | decide | omega) | exact st.c7 (by first | decide | omega) | exact st.c8 (by first | decide | omega)), trivial⟩) rfl rfl rfl ?_
      -- R35.2 146 := convert.go:178 call
      refine WL.call (r_call ty_call17 rfl) rfl rfl rfl (replace_ok hb ib n fi it (c.1, ta c.1 + 1) (hG.more [_, _]) hq (by omega) hn hit hok ⟨hc1, hmv⟩ hhp st) ?_
      rintro _ w ⟨f', it', h1, h2, h3, st⟩
      refine WL.next hK3 (fun _ _ h => h) ⟨k + 1, fun a => if a = k then (D c.1 (ta c.1), I c.1) else B a, _, bump ta c.1, n, f', it'⟩ ⟨st.drop2, hn, h1, h2, hHL.moved hmv h3, hMg.step hv hc1 hc3 hmin hne (fun a ha => if_neg (by omega)) (if_pos rfl), hls.more (D c.1 (ta c.1), I c.1)⟩ (by show bas dl m - (k + 1) < bas dl m - k; omega) (by repeat (first | exact sub_nil _ | refine sub_cons rfl rfl ?_))
    · skip
      refine WC.seq fun K561 hK561 => ?_
      refine WC.seq fun K562 hK562 => ?_
      -- region 26
      refine WC.region ?_
      -- R26.0 94 := convert.go:170 move
      refine WL.v (by first | exact r_move (v := .pointer _) rfl | exact r_move rfl) rfl rfl rfl ?_
      -- R26.1 95 := convert.go:170 call
      refine WL.call (r_call ty_call15 rfl) rfl rfl rfl (hlen_ok hb ib n m b8 st) ?_
      rintro _ w ⟨rfl, st⟩
      -- R26.2 96 := convert.go:170 binOp
      refine WL.v (by first | exact r_gtr rfl rfl (decide_eq_true (by omega)) | exact r_gtr rfl rfl (decide_eq_false (by omega)) | exact r_gtr rfl rfl rfl) rfl rfl rfl ?_
      refine WL.fin hK562 (fun _ _ h => h) ?_
      refine WC.condT rfl rfl ?_
      refine WC.skipF hK561 (fun _ _ h => h) ?_
      refine WC.block ?_
      refine WC.seq fun K563 hK563 => ?_
      -- region 27
      refine WC.region ?_
      -- R27.0 97 := convert.go:171 move
      refine WL.v (by first | exact r_move (v := .pointer _) rfl | exact r_move rfl) rfl rfl rfl ?_
      -- R27.1 98 := convert.go:171 call
      refine WL.call (r_call ty_call16 rfl) rfl rfl rfl (top_ok hb ib n m b8 fi it (by omega) hn hit st) ?_
      rintro _ w ⟨rfl, st⟩
      rw [← hc]
      -- R27.2 12 := convert.go:171 alloc
      refine WL.alloc st ty_zero67 rfl rfl rfl ?_
      intro b12 w st
      -- R27.3 None := convert.go:171 store
      first | refine WL.storeW (vs := [_, _]) st ty_agg67 rfl rfl rfl rfl rfl rfl ?_ | refine WL.storeL (vs := [_, _]) st ty_agg67 rfl rfl rfl rfl (by first | decide | omega) rfl rfl ?_ | refine WL.storeW (vs := [_, _]) st.front1 ty_agg67 rfl rfl rfl rfl rfl rfl ?_ | refine WL.storeL (vs := [_, _]) st.front1 ty_agg67 rfl rfl rfl rfl (by first | decide | omega) rfl rfl ?_ | refine WL.storeW (vs := [_, _]) st.front2 ty_agg67 rfl rfl rfl rfl rfl rfl ?_ | refine WL.storeL (vs := [_, _]) st.front2 ty_agg67 rfl rfl rfl rfl (by first | decide | omega) rfl rfl ?_ | refine WL.storeW (vs := [_, _]) st.front3 ty_agg67 rfl rfl rfl rfl rfl rfl ?_ | refine WL.storeL (vs := [_, _]) st.front3 ty_agg67 rfl rfl rfl rfl (by first | decide | omega) rfl rfl ?_ | refine WL.storeW (vs := [_, _]) st.front4 ty_agg67 rfl rfl rfl rfl rfl rfl ?_ | refine WL.storeL (vs := [_, _]) st.front4 ty_agg67 rfl rfl rfl rfl (by first | decide | omega) rfl rfl ?_ | refine WL.storeW (vs := [_, _]) st.front5 ty_agg67 rfl rfl rfl rfl rfl rfl ?_ | refine WL.storeL (vs := [_, _]) st.front5 ty_agg67 rfl rfl rfl rfl (by first | decide | omega) rfl rfl ?_ | refine WL.storeW (vs := [_, _]) st.front6 ty_agg67 rfl rfl rfl rfl rfl rfl ?_ | refine WL.storeL (vs := [_, _]) st.front6 ty_agg67 rfl rfl rfl rfl (by first | decide | omega) rfl rfl ?_ | refine WL.storeW (vs := [_, _]) st.front7 ty_agg67 rfl rfl rfl rfl rfl rfl ?_ | refine WL.storeL (vs := [_, _]) st.front7 ty_agg67 rfl rfl rfl rfl (by first | decide | omega) rfl rfl ?_ | refine WL.storeW (vs := [_, _]) st.front8 ty_agg67 rfl rfl rfl rfl rfl rfl ?_ | refine WL.storeL (vs := [_, _]) st.front8 ty_agg67 rfl rfl rfl rfl (by first | decide | omega) rfl rfl ?_
      intro w st
      refine WL.fin hK563 (fun _ _ h => h) ?_
      refine WC.seq fun K564 hK564 => ?_
      -- region 28
      refine WC.region ?_
      -- R28.0 99 := convert.go:172 load
      refine WL.v (by exact r_load1 ty_one68 rfl (hG.fn [_, _, _, _] _ st)) rfl rfl rfl ?_
      -- R28.1 100 := convert.go:172 load
      refine WL.v (by exact r_loadL (vs := [_, _]) ty_agg67 rfl ⟨(by first | assumption | exact st.c0 (by first | decide | omega) | exact st.c1 (by first | decide | omega) | exact st.c2 (by first | decide | omega) | exact st.c3 (by first | decide | omega) | exact st.c4 (by first | decide | omega) | exact st.c5 (by first | decide | omega) | exact st.c6 (by first | decide | omega) | exact st.c7 (by first | decide | omega) | exact st.c8 (by first | decide | omega)), (by first | assumption | exact st.c0 (by first | decide | omega) | exact st.c1 (by first | decide | omega) | exact st.c2 (by first | decide | omega) | exact st.c3 (by first | decide | omega) | exact st.c4 (by first | decide | omega) | exact st.c5 (by first | decide | omega) | exact st.c6 (by first | decide | omega) | exact st.c7 (by first | decide | omega) | exact st.c8 (by first | decide | omega)), trivial⟩) rfl rfl rfl ?_
      -- R28.2 101 := convert.go:172 call
      refine WL.call (r_callv ty_call11 rfl rfl) rfl rfl rfl (under_ok c.1 c.2 (hG.more [_, _, _, _]) hc1 (by omega) st) ?_
      rintro _ w ⟨rfl, st⟩
      rw [hc2]
      -- R28.3 13 := convert.go:172 assign
      refine WL.v (by first | exact r_assign (v := .int _ _) rfl | exact r_assign rfl) rfl rfl rfl ?_
      refine WL.fin hK564 (fun _ _ h => h) ?_
      refine WC.seq fun K565 hK565 => ?_
      refine WC.seq fun K566 hK566 => ?_
      -- region 29
      refine WC.region ?_
      -- R29.0 102 := convert.go:173 move
      refine WL.v (by first | exact r_move (v := .slice _ _ _) rfl | exact r_move rfl) rfl rfl rfl ?_
      -- R29.1 103 := convert.go:173 call
      refine WL.v (by exact r_len ty_usl25 rfl) rfl rfl rfl ?_
      -- R29.2 14 := convert.go:173 assign
      refine WL.v (by first | exact r_assign (v := .int _ _) rfl | exact r_assign rfl) rfl rfl rfl ?_
      refine WL.fin hK566 (fun _ _ h => h) ?_
      refine WC.seq fun K567 hK567 => ?_
      -- region 30
      refine WC.region ?_
      -- R30.0 104 := convert.go:173 move
      refine WL.v (by first | exact r_move (v := .int _ _) rfl | exact r_move rfl) rfl rfl rfl ?_
      -- R30.1 105 := convert.go:173 binOp
      refine WL.v (by first | exact r_gtr rfl rfl (decide_eq_true (by omega)) | exact r_gtr rfl rfl (decide_eq_false (by omega)) | exact r_gtr rfl rfl rfl) rfl rfl rfl ?_
      -- R30.2 106 := convert.go:173 move
      refine WL.v (by first | exact r_move (v := .bool _) rfl | exact r_move rfl) rfl rfl rfl ?_
      -- R30.3 107 := convert.go:173 move
      refine WL.v (by first | exact r_move (v := .slice _ _ _) rfl | exact r_move rfl) rfl rfl rfl ?_
      -- R30.4 108 := convert.go:173 move
      refine WL.v (by first | exact r_move (v := .int _ _) rfl | exact r_move rfl) rfl rfl rfl ?_
      -- R30.5 109 := convert.go:173 binOp
      refine WL.v (by exact r_sub (r := ((k - 1 : Nat) : Int)) rfl rfl (by rw [wi64 (by omega) (by omega)]; omega)) rfl rfl rfl ?_
      -- R30.6 110 := convert.go:173 indexAddr
      refine WL.v (by exact r_indexS (j := k - 1) ty_sl25 rfl rfl (by omega) (by omega)) rfl rfl rfl ?_
      -- R30.7 111 := convert.go:173 fieldAddr
      refine WL.v (by exact r_field ty_fld63_0 rfl) rfl rfl rfl ?_
      -- R30.8 112 := convert.go:173 load
      refine WL.v (by exact r_load1 ty_one50 rfl ((st.c3 (by omega)).trans (congrArg some (hls (k - 1) (by omega)).1))) rfl rfl rfl ?_
      -- R30.9 113 := convert.go:173 move
      refine WL.v (by first | exact r_move (v := .int _ _) rfl | exact r_move rfl) rfl rfl rfl ?_
      -- R30.10 114 := convert.go:173 binOp
      refine WL.v (by first | exact r_eql rfl rfl (decide_eq_true (by omega)) | exact r_eql rfl rfl (decide_eq_false (by omega)) | exact r_eql rfl rfl rfl) rfl rfl rfl ?_
      -- R30.11 115 := convert.go:173 pick
      refine WL.v (by first | exact r_pickT (v := .bool _) rfl rfl | exact r_pickF (v := .bool _) rfl rfl) rfl rfl rfl ?_
      refine WL.fin hK567 (fun _ _ h => h) ?_
      refine WC.condF rfl rfl ?_
      refine WC.skipF hK565 (fun _ _ h => h) ?_
      refine WC.seq fun K568 hK568 => ?_
      -- region 32
      refine WC.region ?_
      -- R32.0 119 := convert.go:176 move
      refine WL.v (by first | exact r_move (v := .slice _ _ _) rfl | exact r_move rfl) rfl rfl rfl ?_
      -- R32.1 120 := convert.go:176 move
      refine WL.v (by first | exact r_move (v := .int _ _) rfl | exact r_move rfl) rfl rfl rfl ?_
      -- R32.2 121 := convert.go:176 load
      refine WL.v (by exact r_load1 ty_one37 rfl (hG.box [_, _, _, _] _ st)) rfl rfl rfl ?_
      -- R32.3 122 := convert.go:176 fieldAddr
      refine WL.v (by exact r_field ty_fld67_0 rfl) rfl rfl rfl ?_
      -- R32.4 123 := convert.go:176 load
      refine WL.v (by exact r_load1 ty_one3 rfl (by first | assumption | exact st.c0 (by first | decide | omega) | exact st.c1 (by first | decide | omega) | exact st.c2 (by first | decide | omega) | exact st.c3 (by first | decide | omega) | exact st.c4 (by first | decide | omega) | exact st.c5 (by first | decide | omega) | exact st.c6 (by first | decide | omega) | exact st.c7 (by first | decide | omega) | exact st.c8 (by first | decide | omega))) rfl rfl rfl ?_
      -- R32.5 124 := convert.go:176 indexAddr
      refine WL.v (by exact r_indexS (j := c.1) ty_sl37 rfl rfl (by omega) (by omega)) rfl rfl rfl ?_
      -- R32.6 125 := convert.go:176 fieldAddr
      refine WL.v (by exact r_field ty_fld60_0 rfl) rfl rfl rfl ?_
      -- R32.7 126 := convert.go:176 load
      refine WL.v (by exact r_load1 ty_one5 rfl ((hG.at_ [_, _, _, _] _ st c.1 hc1).1)) rfl rfl rfl ?_
      -- R32.8 127 := convert.go:176 build
      refine WL.v (by first | exact r_build (vs := [.int _ _, .int _ _]) ty_pl63 ty_zero63 rfl rfl | exact r_build (vs := [_, _]) ty_pl63 ty_zero63 rfl rfl | exact r_build ty_pl63 ty_zero63 rfl rfl) rfl rfl rfl ?_
      -- R32.9 128 := convert.go:176 buildSlice
      first | refine WL.mkslice (m := 2) (vs := [.int _ _, .int _ _]) st ty_sl25 ty_zero63 rfl rfl rfl rfl rfl rfl ?_ | refine WL.mkslice (m := 2) (vs := [_, _]) st ty_sl25 ty_zero63 rfl rfl rfl rfl rfl rfl ?_ | refine WL.mkslice st ty_sl25 ty_zero63 rfl rfl rfl rfl rfl rfl ?_
      intro b128 w st
      -- R32.10 129 := convert.go:176 call
      refine WL.appendR (m := 1) st.front4 ty_sl25 rfl rfl (by omega) (by omega) (fun j hj => st.c0 (by omega)) (fun j hj => ?_) rfl rfl rfl ?_
      · match j, hj with
        | 0, _ => rfl
        | 1, _ => rfl
      intro w st
      -- R32.11 11 := convert.go:176 assign
      refine WL.v (by first | exact r_assign (v := .slice _ _ _) rfl | exact r_assign rfl) rfl rfl rfl ?_
      refine WL.fin hK568 (fun _ _ h => h) ?_
      refine WC.seq fun K569 hK569 => ?_
      -- region 33
      refine WC.region ?_
      -- R33.0 130 := convert.go:177 fieldAddr
      refine WL.v (by exact r_field ty_fld67_1 rfl) rfl rfl rfl ?_
      -- R33.1 131 := convert.go:177 load
      refine WL.v (by exact r_load1 ty_one3 rfl (by first | assumption | exact st.c0 (by first | decide | omega) | exact st.c1 (by first | decide | omega) | exact st.c2 (by first | decide | omega) | exact st.c3 (by first | decide | omega) | exact st.c4 (by first | decide | omega) | exact st.c5 (by first | decide | omega) | exact st.c6 (by first | decide | omega) | exact st.c7 (by first | decide | omega) | exact st.c8 (by first | decide | omega))) rfl rfl rfl ?_
      -- R33.2 132 := convert.go:177 binOp
      refine WL.v (by exact r_add (r := ((ta c.1 + 1 : Nat) : Int)) rfl rfl (by rw [hc2, wi64 (by omega) (by omega)]; omega)) rfl rfl rfl ?_
      -- R33.3 133 := convert.go:177 fieldAddr
      refine WL.v (by exact r_field ty_fld67_1 rfl) rfl rfl rfl ?_
      -- R33.4 None := convert.go:177 store
      first | refine WL.store (v := .int _ _) st ty_one3 rfl rfl rfl (by first | decide | omega) rfl rfl ?_ | refine WL.store (v := _) st ty_one3 rfl rfl rfl (by first | decide | omega) rfl rfl ?_ | refine WL.store (v := .int _ _) st.front1 ty_one3 rfl rfl rfl (by first | decide | omega) rfl rfl ?_ | refine WL.store (v := _) st.front1 ty_one3 rfl rfl rfl (by first | decide | omega) rfl rfl ?_ | refine WL.store (v := .int _ _) st.front2 ty_one3 rfl rfl rfl (by first | decide | omega) rfl rfl ?_ | refine WL.store (v := _) st.front2 ty_one3 rfl rfl rfl (by first | decide | omega) rfl rfl ?_ | refine WL.store (v := .int _ _) st.front3 ty_one3 rfl rfl rfl (by first | decide | omega) rfl rfl ?_ | refine WL.store (v := _) st.front3 ty_one3 rfl rfl rfl (by first | decide | omega) rfl rfl ?_ | refine WL.store (v := .int _ _) st.front4 ty_one3 rfl rfl rfl (by first | decide | omega) rfl rfl ?_ | refine WL.store (v := _) st.front4 ty_one3 rfl rfl rfl (by first | decide | omega) rfl rfl ?_ | refine WL.store (v := .int _ _) st.front5 ty_one3 rfl rfl rfl (by first | decide | omega) rfl rfl ?_ | refine WL.store (v := _) st.front5 ty_one3 rfl rfl rfl (by first | decide | omega) rfl rfl ?_ | refine WL.store (v := .int _ _) st.front6 ty_one3 rfl rfl rfl (by first | decide | omega) rfl rfl ?_ | refine WL.store (v := _) st.front6 ty_one3 rfl rfl rfl (by first | decide | omega) rfl rfl ?_ | refine WL.store (v := .int _ _) st.front7 ty_one3 rfl rfl rfl (by first | decide | omega) rfl rfl ?_ | refine WL.store (v := _) st.front7 ty_one3 rfl rfl rfl (by first | decide | omega) rfl rfl ?_ | refine WL.store (v := .int _ _) st.front8 ty_one3 rfl rfl rfl (by first | decide | omega) rfl rfl ?_ | refine WL.store (v := _) st.front8 ty_one3 rfl rfl rfl (by first | decide | omega) rfl rfl ?_
      intro w st
      refine WL.fin hK569 (fun _ _ h => h) ?_
      refine WC.seq fun K570 hK570 => ?_
      -- region 34 (draws)
      refine WC.quietS st ty_mixed (by kernel_rfl) fun Kq hKq => ?_
      -- R34.0 134 := convert.go:177 fieldAddr
      refine QL.v (fun w st => by exact r_field ty_fld67_1 rfl) rfl rfl rfl ?_
      -- R34.1 135 := convert.go:177 load
      refine QL.v (fun w st => by exact r_load1 ty_one3 rfl (by first | assumption | exact st.c0 (by first | decide | omega) | exact st.c1 (by first | decide | omega) | exact st.c2 (by first | decide | omega) | exact st.c3 (by first | decide | omega) | exact st.c4 (by first | decide | omega) | exact st.c5 (by first | decide | omega) | exact st.c6 (by first | decide | omega) | exact st.c7 (by first | decide | omega) | exact st.c8 (by first | decide | omega))) rfl rfl rfl ?_
      -- R34.2 136 := convert.go:177 load
      refine QL.v (fun w st => by exact r_load1 ty_one37 rfl (hG.box [_, _, _, _, _] _ st)) rfl rfl rfl ?_
      -- R34.3 137 := convert.go:177 fieldAddr
      refine QL.v (fun w st => by exact r_field ty_fld67_0 rfl) rfl rfl rfl ?_
      -- R34.4 138 := convert.go:177 load
      refine QL.v (fun w st => by exact r_load1 ty_one3 rfl (by first | assumption | exact st.c0 (by first | decide | omega) | exact st.c1 (by first | decide | omega) | exact st.c2 (by first | decide | omega) | exact st.c3 (by first | decide | omega) | exact st.c4 (by first | decide | omega) | exact st.c5 (by first | decide | omega) | exact st.c6 (by first | decide | omega) | exact st.c7 (by first | decide | omega) | exact st.c8 (by first | decide | omega))) rfl rfl rfl ?_
      -- R34.5 139 := convert.go:177 indexAddr
      refine QL.v (fun w st => by exact r_indexS (j := c.1) ty_sl37 rfl rfl (by omega) (by omega)) rfl rfl rfl ?_
      -- R34.6 140 := convert.go:177 fieldAddr
      refine QL.v (fun w st => by exact r_field ty_fld60_1 rfl) rfl rfl rfl ?_
      -- R34.7 141 := convert.go:177 load
      refine QL.v (fun w st => by exact r_load1 ty_one58 rfl ((hG.at_ [_, _, _, _, _] _ st c.1 hc1).2.1)) rfl rfl rfl ?_
      -- R34.8 142 := convert.go:177 call
      refine QL.v (fun w st => by exact r_len ty_usl58 rfl) rfl rfl rfl ?_
      -- R34.9 143 := convert.go:177 binOp
      refine QL.v (fun w st => by first | exact r_lss rfl rfl (decide_eq_true (by omega)) | exact r_lss rfl rfl (decide_eq_false (by omega)) | exact r_lss rfl rfl rfl) rfl rfl rfl ?_
      refine QL.wl hKq fun w st => ?_
      refine WL.fin hK570 (fun _ _ h => h) ?_
      refine WC.condF rfl rfl ?_
      -- region 36
      have st := st.drop2.front3.front3
      refine WC.region ?_
      -- R36.0 147 := convert.go:180 move
      refine WL.v (by first | exact r_move (v := .pointer _) rfl | exact r_move rfl) rfl rfl rfl ?_
      -- R36.1 148 := convert.go:180 call
      refine WL.call (r_call ty_call18 rfl) rfl rfl rfl (pop_ok hb ib n fi it (hG.more [_, _]) hq (by omega) hn hit hok hhp st) ?_
      rintro _ w ⟨f', it', h1, h2, h3, st⟩
      refine WL.next hK3 (fun _ _ h => h) ⟨k + 1, fun a => if a = k then (D c.1 (ta c.1), I c.1) else B a, _, bump ta c.1, n - 1, f', it'⟩ ⟨st.drop2, by show n - 1 ≤ m; omega, h1, h2, hHL.gone hmv h3, hMg.step hv hc1 hc3 hmin hne (fun a ha => if_neg (by omega)) (if_pos rfl), hls.more (D c.1 (ta c.1), I c.1)⟩ (by show bas dl m - (k + 1) < bas dl m - k; omega) (by repeat (first | exact sub_nil _ | refine sub_cons rfl rfl ?_))
  · skip
    by_cases hmv : ta c.1 + 1 < dl c.1
    · skip
      refine WC.seq fun K571 hK571 => ?_
      refine WC.seq fun K572 hK572 => ?_
      -- region 26
      refine WC.region ?_
      -- R26.0 94 := convert.go:170 move
      refine WL.v (by first | exact r_move (v := .pointer _) rfl | exact r_move rfl) rfl rfl rfl ?_
      -- R26.1 95 := convert.go:170 call
      refine WL.call (r_call ty_call15 rfl) rfl rfl rfl (hlen_ok hb ib n m b8 st) ?_
      rintro _ w ⟨rfl, st⟩
      -- R26.2 96 := convert.go:170 binOp
      refine WL.v (by first | exact r_gtr rfl rfl (decide_eq_true (by omega)) | exact r_gtr rfl rfl (decide_eq_false (by omega)) | exact r_gtr rfl rfl rfl) rfl rfl rfl ?_
      refine WL.fin hK572 (fun _ _ h => h) ?_
      refine WC.condT rfl rfl ?_
      refine WC.skipF hK571 (fun _ _ h => h) ?_
      refine WC.block ?_
      refine WC.seq fun K573 hK573 => ?_
      -- region 27
      refine WC.region ?_
      -- R27.0 97 := convert.go:171 move
      refine WL.v (by first | exact r_move (v := .pointer _) rfl | exact r_move rfl) rfl rfl rfl ?_
      -- R27.1 98 := convert.go:171 call
      refine WL.call (r_call ty_call16 rfl) rfl rfl rfl (top_ok hb ib n m b8 fi it (by omega) hn hit st) ?_
      rintro _ w ⟨rfl, st⟩
      rw [← hc]
      -- R27.2 12 := convert.go:171 alloc
      refine WL.alloc st ty_zero67 rfl rfl rfl ?_
      intro b12 w st
      -- R27.3 None := convert.go:171 store
      first | refine WL.storeW (vs := [_, _]) st ty_agg67 rfl rfl rfl rfl rfl rfl ?_ | refine WL.storeL (vs := [_, _]) st ty_agg67 rfl rfl rfl rfl (by first | decide | omega) rfl rfl ?_ | refine WL.storeW (vs := [_, _]) st.front1 ty_agg67 rfl rfl rfl rfl rfl rfl ?_ | refine WL.storeL (vs := [_, _]) st.front1 ty_agg67 rfl rfl rfl rfl (by first | decide | omega) rfl rfl ?_ | refine WL.storeW (vs := [_, _]) st.front2 ty_agg67 rfl rfl rfl rfl rfl rfl ?_ | refine WL.storeL (vs := [_, _]) st.front2 ty_agg67 rfl rfl rfl rfl (by first | decide | omega) rfl rfl ?_ | refine WL.storeW (vs := [_, _]) st.front3 ty_agg67 rfl rfl rfl rfl rfl rfl ?_ | refine WL.storeL (vs := [_, _]) st.front3 ty_agg67 rfl rfl rfl rfl (by first | decide | omega) rfl rfl ?_ | refine WL.storeW (vs := [_, _]) st.front4 ty_agg67 rfl rfl rfl rfl rfl rfl ?_ | refine WL.storeL (vs := [_, _]) st.front4 ty_agg67 rfl rfl rfl rfl (by first | decide | omega) rfl rfl ?_ | refine WL.storeW (vs := [_, _]) st.front5 ty_agg67 rfl rfl rfl rfl rfl rfl ?_ | refine WL.storeL (vs := [_, _]) st.front5 ty_agg67 rfl rfl rfl rfl (by first | decide | omega) rfl rfl ?_ | refine WL.storeW (vs := [_, _]) st.front6 ty_agg67 rfl rfl rfl rfl rfl rfl ?_ | refine WL.storeL (vs := [_, _]) st.front6 ty_agg67 rfl rfl rfl rfl (by first | decide | omega) rfl rfl ?_ | refine WL.storeW (vs := [_, _]) st.front7 ty_agg67 rfl rfl rfl rfl rfl rfl ?_ | refine WL.storeL (vs := [_, _]) st.front7 ty_agg67 rfl rfl rfl rfl (by first | decide | omega) rfl rfl ?_ | refine WL.storeW (vs := [_, _]) st.front8 ty_agg67 rfl rfl rfl rfl rfl rfl ?_ | refine WL.storeL (vs := [_, _]) st.front8 ty_agg67 rfl rfl rfl rfl (by first | decide | omega) rfl rfl ?_
      intro w st
      refine WL.fin hK573 (fun _ _ h => h) ?_
      refine WC.seq fun K574 hK574 => ?_
      -- region 28
      refine WC.region ?_
      -- R28.0 99 := convert.go:172 load
      refine WL.v (by exact r_load1 ty_one68 rfl (hG.fn [_, _, _, _] _ st)) rfl rfl rfl ?_
      -- R28.1 100 := convert.go:172 load
      refine WL.v (by exact r_loadL (vs := [_, _]) ty_agg67 rfl ⟨(by first | assumption | exact st.c0 (by first | decide | omega) | exact st.c1 (by first | decide | omega) | exact st.c2 (by first | decide | omega) | exact st.c3 (by first | decide | omega) | exact st.c4 (by first | decide | omega) | exact st.c5 (by first | decide | omega) | exact st.c6 (by first | decide | omega) | exact st.c7 (by first | decide | omega) | exact st.c8 (by first | decide | omega)), (by first | assumption | exact st.c0 (by first | decide | omega) | exact st.c1 (by first | decide | omega) | exact st.c2 (by first | decide | omega) | exact st.c3 (by first | decide | omega) | exact st.c4 (by first | decide | omega) | exact st.c5 (by first | decide | omega) | exact st.c6 (by first | decide | omega) | exact st.c7 (by first | decide | omega) | exact st.c8 (by first | decide | omega)), trivial⟩) rfl rfl rfl ?_
      -- R28.2 101 := convert.go:172 call
      refine WL.call (r_callv ty_call11 rfl rfl) rfl rfl rfl (under_ok c.1 c.2 (hG.more [_, _, _, _]) hc1 (by omega) st) ?_
      rintro _ w ⟨rfl, st⟩
      rw [hc2]
      -- R28.3 13 := convert.go:172 assign
      refine WL.v (by first | exact r_assign (v := .int _ _) rfl | exact r_assign rfl) rfl rfl rfl ?_
      refine WL.fin hK574 (fun _ _ h => h) ?_
      refine WC.seq fun K575 hK575 => ?_
      refine WC.seq fun K576 hK576 => ?_
      -- region 29
      refine WC.region ?_
      -- R29.0 102 := convert.go:173 move
      refine WL.v (by first | exact r_move (v := .slice _ _ _) rfl | exact r_move rfl) rfl rfl rfl ?_
      -- R29.1 103 := convert.go:173 call
      refine WL.v (by exact r_len ty_usl25 rfl) rfl rfl rfl ?_
      -- R29.2 14 := convert.go:173 assign
      refine WL.v (by first | exact r_assign (v := .int _ _) rfl | exact r_assign rfl) rfl rfl rfl ?_
      refine WL.fin hK576 (fun _ _ h => h) ?_
      refine WC.seq fun K577 hK577 => ?_
      -- region 30
      refine WC.region ?_
      -- R30.0 104 := convert.go:173 move
      refine WL.v (by first | exact r_move (v := .int _ _) rfl | exact r_move rfl) rfl rfl rfl ?_
      -- R30.1 105 := convert.go:173 binOp
      refine WL.v (by first | exact r_gtr rfl rfl (decide_eq_true (by omega)) | exact r_gtr rfl rfl (decide_eq_false (by omega)) | exact r_gtr rfl rfl rfl) rfl rfl rfl ?_
      -- R30.2 106 := convert.go:173 move
      refine WL.v (by first | exact r_move (v := .bool _) rfl | exact r_move rfl) rfl rfl rfl ?_
      -- R30.3 107 := convert.go:173 move
      refine WL.no rfl rfl ?_
      -- R30.4 108 := convert.go:173 move
      refine WL.no rfl rfl ?_
      -- R30.5 109 := convert.go:173 binOp
      refine WL.no rfl rfl ?_
      -- R30.6 110 := convert.go:173 indexAddr
      refine WL.no rfl rfl ?_
      -- R30.7 111 := convert.go:173 fieldAddr
      refine WL.no rfl rfl ?_
      -- R30.8 112 := convert.go:173 load
      refine WL.no rfl rfl ?_
      -- R30.9 113 := convert.go:173 move
      refine WL.no rfl rfl ?_
      -- R30.10 114 := convert.go:173 binOp
      refine WL.no rfl rfl ?_
      -- R30.11 115 := convert.go:173 pick
      refine WL.v (by first | exact r_pickT (v := .bool _) rfl rfl | exact r_pickF (v := .bool _) rfl rfl) rfl rfl rfl ?_
      refine WL.fin hK577 (fun _ _ h => h) ?_
      refine WC.condF rfl rfl ?_
      refine WC.skipF hK575 (fun _ _ h => h) ?_
      refine WC.seq fun K578 hK578 => ?_
      -- region 32
      refine WC.region ?_
      -- R32.0 119 := convert.go:176 move
      refine WL.v (by first | exact r_move (v := .slice _ _ _) rfl | exact r_move rfl) rfl rfl rfl ?_
      -- R32.1 120 := convert.go:176 move
      refine WL.v (by first | exact r_move (v := .int _ _) rfl | exact r_move rfl) rfl rfl rfl ?_
      -- R32.2 121 := convert.go:176 load
      refine WL.v (by exact r_load1 ty_one37 rfl (hG.box [_, _, _, _] _ st)) rfl rfl rfl ?_
      -- R32.3 122 := convert.go:176 fieldAddr
      refine WL.v (by exact r_field ty_fld67_0 rfl) rfl rfl rfl ?_
      -- R32.4 123 := convert.go:176 load
      refine WL.v (by exact r_load1 ty_one3 rfl (by first | assumption | exact st.c0 (by first | decide | omega) | exact st.c1 (by first | decide | omega) | exact st.c2 (by first | decide | omega) | exact st.c3 (by first | decide | omega) | exact st.c4 (by first | decide | omega) | exact st.c5 (by first | decide | omega) | exact st.c6 (by first | decide | omega) | exact st.c7 (by first | decide | omega) | exact st.c8 (by first | decide | omega))) rfl rfl rfl ?_
      -- R32.5 124 := convert.go:176 indexAddr
      refine WL.v (by exact r_indexS (j := c.1) ty_sl37 rfl rfl (by omega) (by omega)) rfl rfl rfl ?_
      -- R32.6 125 := convert.go:176 fieldAddr
      refine WL.v (by exact r_field ty_fld60_0 rfl) rfl rfl rfl ?_
      -- R32.7 126 := convert.go:176 load
      refine WL.v (by exact r_load1 ty_one5 rfl ((hG.at_ [_, _, _, _] _ st c.1 hc1).1)) rfl rfl rfl ?_
      -- R32.8 127 := convert.go:176 build
      refine WL.v (by first | exact r_build (vs := [.int _ _, .int _ _]) ty_pl63 ty_zero63 rfl rfl | exact r_build (vs := [_, _]) ty_pl63 ty_zero63 rfl rfl | exact r_build ty_pl63 ty_zero63 rfl rfl) rfl rfl rfl ?_
      -- R32.9 128 := convert.go:176 buildSlice
      first | refine WL.mkslice (m := 2) (vs := [.int _ _, .int _ _]) st ty_sl25 ty_zero63 rfl rfl rfl rfl rfl rfl ?_ | refine WL.mkslice (m := 2) (vs := [_, _]) st ty_sl25 ty_zero63 rfl rfl rfl rfl rfl rfl ?_ | refine WL.mkslice st ty_sl25 ty_zero63 rfl rfl rfl rfl rfl rfl ?_
      intro b128 w st
      -- R32.10 129 := convert.go:176 call
      refine WL.appendR (m := 1) st.front4 ty_sl25 rfl rfl (by omega) (by omega) (fun j hj => st.c0 (by omega)) (fun j hj => ?_) rfl rfl rfl ?_
      · match j, hj with
        | 0, _ => rfl
        | 1, _ => rfl
      intro w st
      -- R32.11 11 := convert.go:176 assign
      refine WL.v (by first | exact r_assign (v := .slice _ _ _) rfl | exact r_assign rfl) rfl rfl rfl ?_
      refine WL.fin hK578 (fun _ _ h => h) ?_
      refine WC.seq fun K579 hK579 => ?_
      -- region 33
      refine WC.region ?_
      -- R33.0 130 := convert.go:177 fieldAddr
      refine WL.v (by exact r_field ty_fld67_1 rfl) rfl rfl rfl ?_
      -- R33.1 131 := convert.go:177 load
      refine WL.v (by exact r_load1 ty_one3 rfl (by first | assumption | exact st.c0 (by first | decide | omega) | exact st.c1 (by first | decide | omega) | exact st.c2 (by first | decide | omega) | exact st.c3 (by first | decide | omega) | exact st.c4 (by first | decide | omega) | exact st.c5 (by first | decide | omega) | exact st.c6 (by first | decide | omega) | exact st.c7 (by first | decide | omega) | exact st.c8 (by first | decide | omega))) rfl rfl rfl ?_
      -- R33.2 132 := convert.go:177 binOp
      refine WL.v (by exact r_add (r := ((ta c.1 + 1 : Nat) : Int)) rfl rfl (by rw [hc2, wi64 (by omega) (by omega)]; omega)) rfl rfl rfl ?_
      -- R33.3 133 := convert.go:177 fieldAddr
      refine WL.v (by exact r_field ty_fld67_1 rfl) rfl rfl rfl ?_
      -- R33.4 None := convert.go:177 store
      first | refine WL.store (v := .int _ _) st ty_one3 rfl rfl rfl (by first | decide | omega) rfl rfl ?_ | refine WL.store (v := _) st ty_one3 rfl rfl rfl (by first | decide | omega) rfl rfl ?_ | refine WL.store (v := .int _ _) st.front1 ty_one3 rfl rfl rfl (by first | decide | omega) rfl rfl ?_ | refine WL.store (v := _) st.front1 ty_one3 rfl rfl rfl (by first | decide | omega) rfl rfl ?_ | refine WL.store (v := .int _ _) st.front2 ty_one3 rfl rfl rfl (by first | decide | omega) rfl rfl ?_ | refine WL.store (v := _) st.front2 ty_one3 rfl rfl rfl (by first | decide | omega) rfl rfl ?_ | refine WL.store (v := .int _ _) st.front3 ty_one3 rfl rfl rfl (by first | decide | omega) rfl rfl ?_ | refine WL.store (v := _) st.front3 ty_one3 rfl rfl rfl (by first | decide | omega) rfl rfl ?_ | refine WL.store (v := .int _ _) st.front4 ty_one3 rfl rfl rfl (by first | decide | omega) rfl rfl ?_ | refine WL.store (v := _) st.front4 ty_one3 rfl rfl rfl (by first | decide | omega) rfl rfl ?_ | refine WL.store (v := .int _ _) st.front5 ty_one3 rfl rfl rfl (by first | decide | omega) rfl rfl ?_ | refine WL.store (v := _) st.front5 ty_one3 rfl rfl rfl (by first | decide | omega) rfl rfl ?_ | refine WL.store (v := .int _ _) st.front6 ty_one3 rfl rfl rfl (by first | decide | omega) rfl rfl ?_ | refine WL.store (v := _) st.front6 ty_one3 rfl rfl rfl (by first | decide | omega) rfl rfl ?_ | refine WL.store (v := .int _ _) st.front7 ty_one3 rfl rfl rfl (by first | decide | omega) rfl rfl ?_ | refine WL.store (v := _) st.front7 ty_one3 rfl rfl rfl (by first | decide | omega) rfl rfl ?_ | refine WL.store (v := .int _ _) st.front8 ty_one3 rfl rfl rfl (by first | decide | omega) rfl rfl ?_ | refine WL.store (v := _) st.front8 ty_one3 rfl rfl rfl (by first | decide | omega) rfl rfl ?_
      intro w st
      refine WL.fin hK579 (fun _ _ h => h) ?_
      refine WC.seq fun K580 hK580 => ?_
      -- region 34 (draws)
      refine WC.quietS st ty_mixed (by kernel_rfl) fun Kq hKq => ?_
      -- R34.0 134 := convert.go:177 fieldAddr
      refine QL.v (fun w st => by exact r_field ty_fld67_1 rfl) rfl rfl rfl ?_
      -- R34.1 135 := convert.go:177 load
      refine QL.v (fun w st => by exact r_load1 ty_one3 rfl (by first | assumption | exact st.c0 (by first | decide | omega) | exact st.c1 (by first | decide | omega) | exact st.c2 (by first | decide | omega) | exact st.c3 (by first | decide | omega) | exact st.c4 (by first | decide | omega) | exact st.c5 (by first | decide | omega) | exact st.c6 (by first | decide | omega) | exact st.c7 (by first | decide | omega) | exact st.c8 (by first | decide | omega))) rfl rfl rfl ?_
      -- R34.2 136 := convert.go:177 load
      refine QL.v (fun w st => by exact r_load1 ty_one37 rfl (hG.box [_, _, _, _, _] _ st)) rfl rfl rfl ?_
      -- R34.3 137 := convert.go:177 fieldAddr
      refine QL.v (fun w st => by exact r_field ty_fld67_0 rfl) rfl rfl rfl ?_
      -- R34.4 138 := convert.go:177 load
      refine QL.v (fun w st => by exact r_load1 ty_one3 rfl (by first | assumption | exact st.c0 (by first | decide | omega) | exact st.c1 (by first | decide | omega) | exact st.c2 (by first | decide | omega) | exact st.c3 (by first | decide | omega) | exact st.c4 (by first | decide | omega) | exact st.c5 (by first | decide | omega) | exact st.c6 (by first | decide | omega) | exact st.c7 (by first | decide | omega) | exact st.c8 (by first | decide | omega))) rfl rfl rfl ?_
      -- R34.5 139 := convert.go:177 indexAddr
      refine QL.v (fun w st => by exact r_indexS (j := c.1) ty_sl37 rfl rfl (by omega) (by omega)) rfl rfl rfl ?_
      -- R34.6 140 := convert.go:177 fieldAddr
      refine QL.v (fun w st => by exact r_field ty_fld60_1 rfl) rfl rfl rfl ?_
      -- R34.7 141 := convert.go:177 load
      refine QL.v (fun w st => by exact r_load1 ty_one58 rfl ((hG.at_ [_, _, _, _, _] _ st c.1 hc1).2.1)) rfl rfl rfl ?_
      -- R34.8 142 := convert.go:177 call
      refine QL.v (fun w st => by exact r_len ty_usl58 rfl) rfl rfl rfl ?_
      -- R34.9 143 := convert.go:177 binOp
      refine QL.v (fun w st => by first | exact r_lss rfl rfl (decide_eq_true (by omega)) | exact r_lss rfl rfl (decide_eq_false (by omega)) | exact r_lss rfl rfl rfl) rfl rfl rfl ?_
      refine QL.wl hKq fun w st => ?_
      refine WL.fin hK580 (fun _ _ h => h) ?_
      refine WC.condT rfl rfl ?_
      -- region 35
      have st := st.drop2.front3.front3
      refine WC.region ?_
      -- R35.0 144 := convert.go:178 move
      refine WL.v (by first | exact r_move (v := .pointer _) rfl | exact r_move rfl) rfl rfl rfl ?_
      -- R35.1 145 := convert.go:178 load
      refine WL.v (by exact r_loadL (vs := [_, _]) ty_agg67 rfl ⟨(by first | assumption | exact st.c0 (by first | decide | omega) | exact st.c1 (by first | decide | omega) | exact st.c2 (by first | decide | omega) | exact st.c3 (by first | decide | omega) | exact st.c4 (by first | decide | omega) | exact st.c5 (by first | decide | omega) | exact st.c6 (by first | decide | omega) | exact st.c7 (by first | decide | omega) | exact st.c8 (by first | decide | omega)), (by first | assumption | exact st.c0 (by first | decide | omega) | exact st.c1 (by first | decide | omega) | exact st.c2 (by first | decide | omega) | exact st.c3 (by first | decide | omega) | exact st.c4 (by first | decide | omega) | exact st.c5 (by first | decide | omega) | exact st.c6 (by first | decide | omega) | exact st.c7 (by first | decide | omega) | exact st.c8 (by first | decide | omega)), trivial⟩) rfl rfl rfl ?_
      -- R35.2 146 := convert.go:178 call
      refine WL.call (r_call ty_call17 rfl) rfl rfl rfl (replace_ok hb ib n fi it (c.1, ta c.1 + 1) (hG.more [_, _]) hq (by omega) hn hit hok ⟨hc1, hmv⟩ hhp st) ?_
      rintro _ w ⟨f', it', h1, h2, h3, st⟩
      refine WL.next hK3 (fun _ _ h => h) ⟨k + 1, fun a => if a = k then (D c.1 (ta c.1), I c.1) else B a, _, bump ta c.1, n, f', it'⟩ ⟨st.drop2, hn, h1, h2, hHL.moved hmv h3, hMg.step hv hc1 hc3 hmin hne (fun a ha => if_neg (by omega)) (if_pos rfl), hls.more (D c.1 (ta c.1), I c.1)⟩ (by show bas dl m - (k + 1) < bas dl m - k; omega) (by repeat (first | exact sub_nil _ | refine sub_cons rfl rfl ?_))
    · skip
      refine WC.seq fun K581 hK581 => ?_
      refine WC.seq fun K582 hK582 => ?_
      -- region 26
      refine WC.region ?_
      -- R26.0 94 := convert.go:170 move
      refine WL.v (by first | exact r_move (v := .pointer _) rfl | exact r_move rfl) rfl rfl rfl ?_
      -- R26.1 95 := convert.go:170 call
      refine WL.call (r_call ty_call15 rfl) rfl rfl rfl (hlen_ok hb ib n m b8 st) ?_
      rintro _ w ⟨rfl, st⟩
      -- R26.2 96 := convert.go:170 binOp
      refine WL.v (by first | exact r_gtr rfl rfl (decide_eq_true (by omega)) | exact r_gtr rfl rfl (decide_eq_false (by omega)) | exact r_gtr rfl rfl rfl) rfl rfl rfl ?_
      refine WL.fin hK582 (fun _ _ h => h) ?_
      refine WC.condT rfl rfl ?_
      refine WC.skipF hK581 (fun _ _ h => h) ?_
      refine WC.block ?_
      refine WC.seq fun K583 hK583 => ?_
      -- region 27
      refine WC.region ?_
      -- R27.0 97 := convert.go:171 move
      refine WL.v (by first | exact r_move (v := .pointer _) rfl | exact r_move rfl) rfl rfl rfl ?_
      -- R27.1 98 := convert.go:171 call
      refine WL.call (r_call ty_call16 rfl) rfl rfl rfl (top_ok hb ib n m b8 fi it (by omega) hn hit st) ?_
      rintro _ w ⟨rfl, st⟩
      rw [← hc]
      -- R27.2 12 := convert.go:171 alloc
      refine WL.alloc st ty_zero67 rfl rfl rfl ?_
      intro b12 w st
      -- R27.3 None := convert.go:171 store
      first | refine WL.storeW (vs := [_, _]) st ty_agg67 rfl rfl rfl rfl rfl rfl ?_ | refine WL.storeL (vs := [_, _]) st ty_agg67 rfl rfl rfl rfl (by first | decide | omega) rfl rfl ?_ | refine WL.storeW (vs := [_, _]) st.front1 ty_agg67 rfl rfl rfl rfl rfl rfl ?_ | refine WL.storeL (vs := [_, _]) st.front1 ty_agg67 rfl rfl rfl rfl (by first | decide | omega) rfl rfl ?_ | refine WL.storeW (vs := [_, _]) st.front2 ty_agg67 rfl rfl rfl rfl rfl rfl ?_ | refine WL.storeL (vs := [_, _]) st.front2 ty_agg67 rfl rfl rfl rfl (by first | decide | omega) rfl rfl ?_ | refine WL.storeW (vs := [_, _]) st.front3 ty_agg67 rfl rfl rfl rfl rfl rfl ?_ | refine WL.storeL (vs := [_, _]) st.front3 ty_agg67 rfl rfl rfl rfl (by first | decide | omega) rfl rfl ?_ | refine WL.storeW (vs := [_, _]) st.front4 ty_agg67 rfl rfl rfl rfl rfl rfl ?_ | refine WL.storeL (vs := [_, _]) st.front4 ty_agg67 rfl rfl rfl rfl (by first | decide | omega) rfl rfl ?_ | refine WL.storeW (vs := [_, _]) st.front5 ty_agg67 rfl rfl rfl rfl rfl rfl ?_ | refine WL.storeL (vs := [_, _]) st.front5 ty_agg67 rfl rfl rfl rfl (by first | decide | omega) rfl rfl ?_ | refine WL.storeW (vs := [_, _]) st.front6 ty_agg67 rfl rfl rfl rfl rfl rfl ?_ | refine WL.storeL (vs := [_, _]) st.front6 ty_agg67 rfl rfl rfl rfl (by first | decide | omega) rfl rfl ?_ | refine WL.storeW (vs := [_, _]) st.front7 ty_agg67 rfl rfl rfl rfl rfl rfl ?_ | refine WL.storeL (vs := [_, _]) st.front7 ty_agg67 rfl rfl rfl rfl (by first | decide | omega) rfl rfl ?_ | refine WL.storeW (vs := [_, _]) st.front8 ty_agg67 rfl rfl rfl rfl rfl rfl ?_ | refine WL.storeL (vs := [_, _]) st.front8 ty_agg67 rfl rfl rfl rfl (by first | decide | omega) rfl rfl ?_
      intro w st
      refine WL.fin hK583 (fun _ _ h => h) ?_
      refine WC.seq fun K584 hK584 => ?_
      -- region 28
      refine WC.region ?_
      -- R28.0 99 := convert.go:172 load
      refine WL.v (by exact r_load1 ty_one68 rfl (hG.fn [_, _, _, _] _ st)) rfl rfl rfl ?_
      -- R28.1 100 := convert.go:172 load
      refine WL.v (by exact r_loadL (vs := [_, _]) ty_agg67 rfl ⟨(by first | assumption | exact st.c0 (by first | decide | omega) | exact st.c1 (by first | decide | omega) | exact st.c2 (by first | decide | omega) | exact st.c3 (by first | decide | omega) | exact st.c4 (by first | decide | omega) | exact st.c5 (by first | decide | omega) | exact st.c6 (by first | decide | omega) | exact st.c7 (by first | decide | omega) | exact st.c8 (by first | decide | omega)), (by first | assumption | exact st.c0 (by first | decide | omega) | exact st.c1 (by first | decide | omega) | exact st.c2 (by first | decide | omega) | exact st.c3 (by first | decide | omega) | exact st.c4 (by first | decide | omega) | exact st.c5 (by first | decide | omega) | exact st.c6 (by first | decide | omega) | exact st.c7 (by first | decide | omega) | exact st.c8 (by first | decide | omega)), trivial⟩) rfl rfl rfl ?_
      -- R28.2 101 := convert.go:172 call
      refine WL.call (r_callv ty_call11 rfl rfl) rfl rfl rfl (under_ok c.1 c.2 (hG.more [_, _, _, _]) hc1 (by omega) st) ?_
      rintro _ w ⟨rfl, st⟩
      rw [hc2]
      -- R28.3 13 := convert.go:172 assign
      refine WL.v (by first | exact r_assign (v := .int _ _) rfl | exact r_assign rfl) rfl rfl rfl ?_
      refine WL.fin hK584 (fun _ _ h => h) ?_
      refine WC.seq fun K585 hK585 => ?_
      refine WC.seq fun K586 hK586 => ?_
      -- region 29
      refine WC.region ?_
      -- R29.0 102 := convert.go:173 move
      refine WL.v (by first | exact r_move (v := .slice _ _ _) rfl | exact r_move rfl) rfl rfl rfl ?_
      -- R29.1 103 := convert.go:173 call
      refine WL.v (by exact r_len ty_usl25 rfl) rfl rfl rfl ?_
      -- R29.2 14 := convert.go:173 assign
      refine WL.v (by first | exact r_assign (v := .int _ _) rfl | exact r_assign rfl) rfl rfl rfl ?_
      refine WL.fin hK586 (fun _ _ h => h) ?_
      refine WC.seq fun K587 hK587 => ?_
      -- region 30
      refine WC.region ?_
      -- R30.0 104 := convert.go:173 move
      refine WL.v (by first | exact r_move (v := .int _ _) rfl | exact r_move rfl) rfl rfl rfl ?_
      -- R30.1 105 := convert.go:173 binOp
      refine WL.v (by first | exact r_gtr rfl rfl (decide_eq_true (by omega)) | exact r_gtr rfl rfl (decide_eq_false (by omega)) | exact r_gtr rfl rfl rfl) rfl rfl rfl ?_
      -- R30.2 106 := convert.go:173 move
      refine WL.v (by first | exact r_move (v := .bool _) rfl | exact r_move rfl) rfl rfl rfl ?_
      -- R30.3 107 := convert.go:173 move
      refine WL.no rfl rfl ?_
      -- R30.4 108 := convert.go:173 move
      refine WL.no rfl rfl ?_
      -- R30.5 109 := convert.go:173 binOp
      refine WL.no rfl rfl ?_
      -- R30.6 110 := convert.go:173 indexAddr
      refine WL.no rfl rfl ?_
      -- R30.7 111 := convert.go:173 fieldAddr
      refine WL.no rfl rfl ?_
      -- R30.8 112 := convert.go:173 load
      refine WL.no rfl rfl ?_
      -- R30.9 113 := convert.go:173 move
      refine WL.no rfl rfl ?_
      -- R30.10 114 := convert.go:173 binOp
      refine WL.no rfl rfl ?_
      -- R30.11 115 := convert.go:173 pick
      refine WL.v (by first | exact r_pickT (v := .bool _) rfl rfl | exact r_pickF (v := .bool _) rfl rfl) rfl rfl rfl ?_
      refine WL.fin hK587 (fun _ _ h => h) ?_
      refine WC.condF rfl rfl ?_
      refine WC.skipF hK585 (fun _ _ h => h) ?_
      refine WC.seq fun K588 hK588 => ?_
      -- region 32
      refine WC.region ?_
      -- R32.0 119 := convert.go:176 move
      refine WL.v (by first | exact r_move (v := .slice _ _ _) rfl | exact r_move rfl) rfl rfl rfl ?_
      -- R32.1 120 := convert.go:176 move
      refine WL.v (by first | exact r_move (v := .int _ _) rfl | exact r_move rfl) rfl rfl rfl ?_
      -- R32.2 121 := convert.go:176 load
      refine WL.v (by exact r_load1 ty_one37 rfl (hG.box [_, _, _, _] _ st)) rfl rfl rfl ?_
      -- R32.3 122 := convert.go:176 fieldAddr
      refine WL.v (by exact r_field ty_fld67_0 rfl) rfl rfl rfl ?_
      -- R32.4 123 := convert.go:176 load
      refine WL.v (by exact r_load1 ty_one3 rfl (by first | assumption | exact st.c0 (by first | decide | omega) | exact st.c1 (by first | decide | omega) | exact st.c2 (by first | decide | omega) | exact st.c3 (by first | decide | omega) | exact st.c4 (by first | decide | omega) | exact st.c5 (by first | decide | omega) | exact st.c6 (by first | decide | omega) | exact st.c7 (by first | decide | omega) | exact st.c8 (by first | decide | omega))) rfl rfl rfl ?_
      -- R32.5 124 := convert.go:176 indexAddr
      refine WL.v (by exact r_indexS (j := c.1) ty_sl37 rfl rfl (by omega) (by omega)) rfl rfl rfl ?_
      -- R32.6 125 := convert.go:176 fieldAddr
      refine WL.v (by exact r_field ty_fld60_0 rfl) rfl rfl rfl ?_
      -- R32.7 126 := convert.go:176 load
      refine WL.v (by exact r_load1 ty_one5 rfl ((hG.at_ [_, _, _, _] _ st c.1 hc1).1)) rfl rfl rfl ?_
      -- R32.8 127 := convert.go:176 build
      refine WL.v (by first | exact r_build (vs := [.int _ _, .int _ _]) ty_pl63 ty_zero63 rfl rfl | exact r_build (vs := [_, _]) ty_pl63 ty_zero63 rfl rfl | exact r_build ty_pl63 ty_zero63 rfl rfl) rfl rfl rfl ?_
      -- R32.9 128 := convert.go:176 buildSlice
      first | refine WL.mkslice (m := 2) (vs := [.int _ _, .int _ _]) st ty_sl25 ty_zero63 rfl rfl rfl rfl rfl rfl ?_ | refine WL.mkslice (m := 2) (vs := [_, _]) st ty_sl25 ty_zero63 rfl rfl rfl rfl rfl rfl ?_ | refine WL.mkslice st ty_sl25 ty_zero63 rfl rfl rfl rfl rfl rfl ?_
      intro b128 w st
      -- R32.10 129 := convert.go:176 call
      refine WL.appendR (m := 1) st.front4 ty_sl25 rfl rfl (by omega) (by omega) (fun j hj => st.c0 (by omega)) (fun j hj => ?_) rfl rfl rfl ?_
      · match j, hj with
        | 0, _ => rfl
        | 1, _ => rfl
      intro w st
      -- R32.11 11 := convert.go:176 assign
      refine WL.v (by first | exact r_assign (v := .slice _ _ _) rfl | exact r_assign rfl) rfl rfl rfl ?_
      refine WL.fin hK588 (fun _ _ h => h) ?_
      refine WC.seq fun K589 hK589 => ?_
      -- region 33
      refine WC.region ?_
      -- R33.0 130 := convert.go:177 fieldAddr
      refine WL.v (by exact r_field ty_fld67_1 rfl) rfl rfl rfl ?_
      -- R33.1 131 := convert.go:177 load
      refine WL.v (by exact r_load1 ty_one3 rfl (by first | assumption | exact st.c0 (by first | decide | omega) | exact st.c1 (by first | decide | omega) | exact st.c2 (by first | decide | omega) | exact st.c3 (by first | decide | omega) | exact st.c4 (by first | decide | omega) | exact st.c5 (by first | decide | omega) | exact st.c6 (by first | decide | omega) | exact st.c7 (by first | decide | omega) | exact st.c8 (by first | decide | omega))) rfl rfl rfl ?_
      -- R33.2 132 := convert.go:177 binOp
      refine WL.v (by exact r_add (r := ((ta c.1 + 1 : Nat) : Int)) rfl rfl (by rw [hc2, wi64 (by omega) (by omega)]; omega)) rfl rfl rfl ?_
      -- R33.3 133 := convert.go:177 fieldAddr
      refine WL.v (by exact r_field ty_fld67_1 rfl) rfl rfl rfl ?_
      -- R33.4 None := convert.go:177 store
      first | refine WL.store (v := .int _ _) st ty_one3 rfl rfl rfl (by first | decide | omega) rfl rfl ?_ | refine WL.store (v := _) st ty_one3 rfl rfl rfl (by first | decide | omega) rfl rfl ?_ | refine WL.store (v := .int _ _) st.front1 ty_one3 rfl rfl rfl (by first | decide | omega) rfl rfl ?_ | refine WL.store (v := _) st.front1 ty_one3 rfl rfl rfl (by first | decide | omega) rfl rfl ?_ | refine WL.store (v := .int _ _) st.front2 ty_one3 rfl rfl rfl (by first | decide | omega) rfl rfl ?_ | refine WL.store (v := _) st.front2 ty_one3 rfl rfl rfl (by first | decide | omega) rfl rfl ?_ | refine WL.store (v := .int _ _) st.front3 ty_one3 rfl rfl rfl (by first | decide | omega) rfl rfl ?_ | refine WL.store (v := _) st.front3 ty_one3 rfl rfl rfl (by first | decide | omega) rfl rfl ?_ | refine WL.store (v := .int _ _) st.front4 ty_one3 rfl rfl rfl (by first | decide | omega) rfl rfl ?_ | refine WL.store (v := _) st.front4 ty_one3 rfl rfl rfl (by first | decide | omega) rfl rfl ?_ | refine WL.store (v := .int _ _) st.front5 ty_one3 rfl rfl rfl (by first | decide | omega) rfl rfl ?_ | refine WL.store (v := _) st.front5 ty_one3 rfl rfl rfl (by first | decide | omega) rfl rfl ?_ | refine WL.store (v := .int _ _) st.front6 ty_one3 rfl rfl rfl (by first | decide | omega) rfl rfl ?_ | refine WL.store (v := _) st.front6 ty_one3 rfl rfl rfl (by first | decide | omega) rfl rfl ?_ | refine WL.store (v := .int _ _) st.front7 ty_one3 rfl rfl rfl (by first | decide | omega) rfl rfl ?_ | refine WL.store (v := _) st.front7 ty_one3 rfl rfl rfl (by first | decide | omega) rfl rfl ?_ | refine WL.store (v := .int _ _) st.front8 ty_one3 rfl rfl rfl (by first | decide | omega) rfl rfl ?_ | refine WL.store (v := _) st.front8 ty_one3 rfl rfl rfl (by first | decide | omega) rfl rfl ?_
      intro w st
      refine WL.fin hK589 (fun _ _ h => h) ?_
      refine WC.seq fun K590 hK590 => ?_
      -- region 34 (draws)
      refine WC.quietS st ty_mixed (by kernel_rfl) fun Kq hKq => ?_
      -- R34.0 134 := convert.go:177 fieldAddr
      refine QL.v (fun w st => by exact r_field ty_fld67_1 rfl) rfl rfl rfl ?_
      -- R34.1 135 := convert.go:177 load
      refine QL.v (fun w st => by exact r_load1 ty_one3 rfl (by first | assumption | exact st.c0 (by first | decide | omega) | exact st.c1 (by first | decide | omega) | exact st.c2 (by first | decide | omega) | exact st.c3 (by first | decide | omega) | exact st.c4 (by first | decide | omega) | exact st.c5 (by first | decide | omega) | exact st.c6 (by first | decide | omega) | exact st.c7 (by first | decide | omega) | exact st.c8 (by first | decide | omega))) rfl rfl rfl ?_
      -- R34.2 136 := convert.go:177 load
      refine QL.v (fun w st => by exact r_load1 ty_one37 rfl (hG.box [_, _, _, _, _] _ st)) rfl rfl rfl ?_
      -- R34.3 137 := convert.go:177 fieldAddr
      refine QL.v (fun w st => by exact r_field ty_fld67_0 rfl) rfl rfl rfl ?_
      -- R34.4 138 := convert.go:177 load
      refine QL.v (fun w st => by exact r_load1 ty_one3 rfl (by first | assumption | exact st.c0 (by first | decide | omega) | exact st.c1 (by first | decide | omega) | exact st.c2 (by first | decide | omega) | exact st.c3 (by first | decide | omega) | exact st.c4 (by first | decide | omega) | exact st.c5 (by first | decide | omega) | exact st.c6 (by first | decide | omega) | exact st.c7 (by first | decide | omega) | exact st.c8 (by first | decide | omega))) rfl rfl rfl ?_
      -- R34.5 139 := convert.go:177 indexAddr
      refine QL.v (fun w st => by exact r_indexS (j := c.1) ty_sl37 rfl rfl (by omega) (by omega)) rfl rfl rfl ?_
      -- R34.6 140 := convert.go:177 fieldAddr
      refine QL.v (fun w st => by exact r_field ty_fld60_1 rfl) rfl rfl rfl ?_
      -- R34.7 141 := convert.go:177 load
      refine QL.v (fun w st => by exact r_load1 ty_one58 rfl ((hG.at_ [_, _, _, _, _] _ st c.1 hc1).2.1)) rfl rfl rfl ?_
      -- R34.8 142 := convert.go:177 call
      refine QL.v (fun w st => by exact r_len ty_usl58 rfl) rfl rfl rfl ?_
      -- R34.9 143 := convert.go:177 binOp
      refine QL.v (fun w st => by first | exact r_lss rfl rfl (decide_eq_true (by omega)) | exact r_lss rfl rfl (decide_eq_false (by omega)) | exact r_lss rfl rfl rfl) rfl rfl rfl ?_
      refine QL.wl hKq fun w st => ?_
      refine WL.fin hK590 (fun _ _ h => h) ?_
      refine WC.condF rfl rfl ?_
      -- region 36
      have st := st.drop2.front3.front3
      refine WC.region ?_
      -- R36.0 147 := convert.go:180 move
      refine WL.v (by first | exact r_move (v := .pointer _) rfl | exact r_move rfl) rfl rfl rfl ?_
      -- R36.1 148 := convert.go:180 call
      refine WL.call (r_call ty_call18 rfl) rfl rfl rfl (pop_ok hb ib n fi it (hG.more [_, _]) hq (by omega) hn hit hok hhp st) ?_
      rintro _ w ⟨f', it', h1, h2, h3, st⟩
      refine WL.next hK3 (fun _ _ h => h) ⟨k + 1, fun a => if a = k then (D c.1 (ta c.1), I c.1) else B a, _, bump ta c.1, n - 1, f', it'⟩ ⟨st.drop2, by show n - 1 ≤ m; omega, h1, h2, hHL.gone hmv h3, hMg.step hv hc1 hc3 hmin hne (fun a ha => if_neg (by omega)) (if_pos rfl), hls.more (D c.1 (ta c.1), I c.1)⟩ (by show bas dl m - (k + 1) < bas dl m - k; omega) (by repeat (first | exact sub_nil _ | refine sub_cons rfl rfl ?_))
end Go.Proofs.Qxb6500835a

