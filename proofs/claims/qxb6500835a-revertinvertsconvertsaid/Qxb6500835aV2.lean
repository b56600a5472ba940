import Derived.Test.Qxb6500835aV1
set_option linter.unusedVariables false
set_option linter.unusedSimpArgs false
namespace Go.Proofs.Qxb6500835a
open Go.RowKit Go.E1 Go.Conv

/-- What the closures read: the groups' box, the groups. -/
structure Grs (w0 : World) (M : Nat → Prop) (L : List HI) (b1 b8 : Nat) (ga : Option Addr) (q gc g o : Nat) (I : Nat → Int) (db dO dl dc : Nat → Nat) (D : Nat → Nat → Int) : Prop where
  box : ∀ its w', St w0 M (its ++ L) w' → w'.cell? ⟨b1, 0, none⟩ = some (.slice ga q gc)
  fn : ∀ its w', St w0 M (its ++ L) w' → w'.cell? ⟨b8, 0, none⟩ = some (.func (.func 11) #[] #[.pointer (some ⟨b1, 0, none⟩)])
  adr : 0 < q → ga = some ⟨g, o, none⟩
  at_ : ∀ its w', St w0 M (its ++ L) w' → GAt w' g o q I db dO dl dc D

theorem Grs.more {w0 : World} {M : Nat → Prop} {L : List HI} {b1 b8 : Nat} {ga : Option Addr} {q gc g o : Nat} {I : Nat → Int} {db dO dl dc : Nat → Nat} {D : Nat → Nat → Int} (h : Grs w0 M L b1 b8 ga q gc g o I db dO dl dc D) (P : List HI) : Grs w0 M (P ++ L) b1 b8 ga q gc g o I db dO dl dc D :=
  ⟨fun its w' s => h.box (its ++ P) w' (by rw [List.append_assoc]; exact s), fun its w' s => h.fn (its ++ P) w' (by rw [List.append_assoc]; exact s), h.adr, fun its w' s => h.at_ (its ++ P) w' (by rw [List.append_assoc]; exact s)⟩

theorem under_ok (u v : Nat) {w0 : World} {M : Nat → Prop} {L : List HI} {w : World} {b1 b8 : Nat} {ga : Option Addr} {q gc g o : Nat} {I : Nat → Int} {db dO dl dc : Nat → Nat} {D : Nat → Nat → Int} (hG : Grs w0 M L b1 b8 ga q gc g o I db dO dl dc D)
    (hu : u < q) (hv : v < dl u) (st : St w0 M L w) :
    Calls Try.prog 11 #[.agg #[.int .i64 (u : Nat), .int .i64 (v : Nat)], .pointer (some ⟨b1, 0, none⟩)] w (Ret fun x w' => x = .int .u32 (D u v) ∧ St w0 M L w') := by
  obtain rfl := hG.adr (by omega)
  refine enter [.agg #[.int .i64 (u : Nat), .int .i64 (v : Nat)], .pointer (some ⟨b1, 0, none⟩)] Try.func11 rfl Try.ntmps11 rfl ?_
  show WC _ _ _ 14 [] [(0, .agg #[.int .i64 (u : Nat), .int .i64 (v : Nat)]), (1, .pointer (some ⟨b1, 0, none⟩))] _
  refine WC.seq fun K337 hK337 => ?_
  -- region 0
  refine WC.region ?_
  -- R0.0 2 := convert.go:164 box
  first | refine WL.box (m := 2) (vs := [.int _ _, .int _ _]) st rfl rfl rfl rfl rfl rfl ?_ | refine WL.box (m := 2) (vs := [_, _]) st rfl rfl rfl rfl rfl rfl ?_ | refine WL.box st rfl rfl rfl rfl rfl rfl ?_
  intro b2 w st
  -- R0.1 3 := convert.go:164 assign
  refine WL.v (by first | exact r_assign (v := .int _ _) rfl | exact r_assign rfl) rfl rfl rfl ?_
  refine WL.fin hK337 (fun _ _ h => h) ?_
  refine WC.seq fun K338 hK338 => ?_
  -- region 1 (draws)
  refine WC.quietS st ty_mixed (by kernel_rfl) fun Kq hKq => ?_
  -- R1.0 4 := convert.go:164 load
  refine QL.v (fun w st => by exact r_load1 ty_one37 rfl (hG.box [_] _ st)) rfl rfl rfl ?_
  -- R1.1 5 := convert.go:164 fieldAddr
  refine QL.v (fun w st => by exact r_field ty_fld67_0 rfl) rfl rfl rfl ?_
  -- R1.2 6 := convert.go:164 load
  refine QL.v (fun w st => by exact r_load1 ty_one3 rfl (by first | assumption | exact st.c0 (by first | decide | omega) | exact st.c1 (by first | decide | omega) | exact st.c2 (by first | decide | omega) | exact st.c3 (by first | decide | omega) | exact st.c4 (by first | decide | omega) | exact st.c5 (by first | decide | omega) | exact st.c6 (by first | decide | omega) | exact st.c7 (by first | decide | omega) | exact st.c8 (by first | decide | omega))) rfl rfl rfl ?_
  -- R1.3 7 := convert.go:164 indexAddr
  refine QL.v (fun w st => by exact r_indexS (j := u) ty_sl37 rfl rfl (by omega) (by omega)) rfl rfl rfl ?_
  -- R1.4 8 := convert.go:164 fieldAddr
  refine QL.v (fun w st => by exact r_field ty_fld60_1 rfl) rfl rfl rfl ?_
  -- R1.5 9 := convert.go:164 load
  refine QL.v (fun w st => by exact r_load1 ty_one58 rfl ((hG.at_ [_] _ st u hu).2.1)) rfl rfl rfl ?_
  -- R1.6 10 := convert.go:164 fieldAddr
  refine QL.v (fun w st => by exact r_field ty_fld67_1 rfl) rfl rfl rfl ?_
  -- R1.7 11 := convert.go:164 load
  refine QL.v (fun w st => by exact r_load1 ty_one3 rfl (by first | assumption | exact st.c0 (by first | decide | omega) | exact st.c1 (by first | decide | omega) | exact st.c2 (by first | decide | omega) | exact st.c3 (by first | decide | omega) | exact st.c4 (by first | decide | omega) | exact st.c5 (by first | decide | omega) | exact st.c6 (by first | decide | omega) | exact st.c7 (by first | decide | omega) | exact st.c8 (by first | decide | omega))) rfl rfl rfl ?_
  -- R1.8 12 := convert.go:164 indexAddr
  refine QL.v (fun w st => by exact r_indexS (j := v) ty_sl58 rfl rfl (by omega) (by omega)) rfl rfl rfl ?_
  -- R1.9 13 := convert.go:164 load
  refine QL.v (fun w st => by exact r_load1 ty_one50 rfl ((hG.at_ [_] _ st u hu).2.2 v hv)) rfl rfl rfl ?_
  -- R1.10 3 := convert.go:164 assign
  refine QL.v (fun w st => by first | exact r_assign (v := .int _ _) rfl | exact r_assign rfl) rfl rfl rfl ?_
  refine QL.wl hKq fun w st => ?_
  refine WL.fin hK338 (fun _ _ h => h) ?_
  refine WC.ret1 Try.results11 (fun _ _ h => h) rfl ?_
  exact ⟨_, rfl, rfl, st.drop⟩

theorem less_ok (u v u' v' : Nat) {w0 : World} {M : Nat → Prop} {L : List HI} {w : World} {b1 b8 : Nat} {ga : Option Addr} {q gc g o : Nat} {I : Nat → Int} {db dO dl dc : Nat → Nat} {D : Nat → Nat → Int} (hG : Grs w0 M L b1 b8 ga q gc g o I db dO dl dc D)
    (hu : u < q) (hv : v < dl u) (hu' : u' < q) (hv' : v' < dl u') (st : St w0 M L w) :
    Calls Try.prog 13 #[.agg #[.int .i64 (u : Nat), .int .i64 (v : Nat)], .agg #[.int .i64 (u' : Nat), .int .i64 (v' : Nat)], .pointer (some ⟨b8, 0, none⟩)] w (Ret fun x w' => x = .bool (decide (D u v < D u' v')) ∧ St w0 M L w') := by
  refine enter [.agg #[.int .i64 (u : Nat), .int .i64 (v : Nat)], .agg #[.int .i64 (u' : Nat), .int .i64 (v' : Nat)], .pointer (some ⟨b8, 0, none⟩)] Try.func13 rfl Try.ntmps13 rfl ?_
  show WC _ _ _ 13 [] [(0, .agg #[.int .i64 (u : Nat), .int .i64 (v : Nat)]), (1, .agg #[.int .i64 (u' : Nat), .int .i64 (v' : Nat)]), (2, .pointer (some ⟨b8, 0, none⟩))] _
  refine WC.seq fun K339 hK339 => ?_
  -- region 0
  refine WC.region ?_
  -- R0.0 3 := convert.go:165 box
  first | refine WL.box (m := 2) (vs := [.int _ _, .int _ _]) st rfl rfl rfl rfl rfl rfl ?_ | refine WL.box (m := 2) (vs := [_, _]) st rfl rfl rfl rfl rfl rfl ?_ | refine WL.box st rfl rfl rfl rfl rfl rfl ?_
  intro b3 w st
  -- R0.1 4 := convert.go:165 box
  first | refine WL.box (m := 2) (vs := [.int _ _, .int _ _]) st rfl rfl rfl rfl rfl rfl ?_ | refine WL.box (m := 2) (vs := [_, _]) st rfl rfl rfl rfl rfl rfl ?_ | refine WL.box st rfl rfl rfl rfl rfl rfl ?_
  intro b4 w st
  -- R0.2 5 := convert.go:165 assign
  refine WL.v (by first | exact r_assign (v := .bool _) rfl | exact r_assign rfl) rfl rfl rfl ?_
  refine WL.fin hK339 (fun _ _ h => h) ?_
  refine WC.seq fun K340 hK340 => ?_
  -- region 1 (draws)
  refine WC.quietS st ty_mixed (by kernel_rfl) fun Kq hKq => ?_
  -- R1.0 6 := convert.go:165 load
  refine QL.v (fun w st => by exact r_load1 ty_one68 rfl (hG.fn [_, _] _ st)) rfl rfl rfl ?_
  -- R1.1 7 := convert.go:165 load
  refine QL.v (fun w st => by exact r_loadL (vs := [_, _]) ty_agg67 rfl ⟨(by first | assumption | exact st.c0 (by first | decide | omega) | exact st.c1 (by first | decide | omega) | exact st.c2 (by first | decide | omega) | exact st.c3 (by first | decide | omega) | exact st.c4 (by first | decide | omega) | exact st.c5 (by first | decide | omega) | exact st.c6 (by first | decide | omega) | exact st.c7 (by first | decide | omega) | exact st.c8 (by first | decide | omega)), (by first | assumption | exact st.c0 (by first | decide | omega) | exact st.c1 (by first | decide | omega) | exact st.c2 (by first | decide | omega) | exact st.c3 (by first | decide | omega) | exact st.c4 (by first | decide | omega) | exact st.c5 (by first | decide | omega) | exact st.c6 (by first | decide | omega) | exact st.c7 (by first | decide | omega) | exact st.c8 (by first | decide | omega)), trivial⟩) rfl rfl rfl ?_
  -- R1.2 8 := convert.go:165 call
  refine QL.call (val := .int .u32 (D u v)) (fun w st => r_callv ty_call11 rfl rfl) rfl rfl rfl (fun w st => under_ok u v (hG.more [_, _]) hu hv st) ?_
  -- R1.3 9 := convert.go:165 load
  refine QL.v (fun w st => by exact r_load1 ty_one68 rfl (hG.fn [_, _] _ st)) rfl rfl rfl ?_
  -- R1.4 10 := convert.go:165 load
  refine QL.v (fun w st => by exact r_loadL (vs := [_, _]) ty_agg67 rfl ⟨(by first | assumption | exact st.c0 (by first | decide | omega) | exact st.c1 (by first | decide | omega) | exact st.c2 (by first | decide | omega) | exact st.c3 (by first | decide | omega) | exact st.c4 (by first | decide | omega) | exact st.c5 (by first | decide | omega) | exact st.c6 (by first | decide | omega) | exact st.c7 (by first | decide | omega) | exact st.c8 (by first | decide | omega)), (by first | assumption | exact st.c0 (by first | decide | omega) | exact st.c1 (by first | decide | omega) | exact st.c2 (by first | decide | omega) | exact st.c3 (by first | decide | omega) | exact st.c4 (by first | decide | omega) | exact st.c5 (by first | decide | omega) | exact st.c6 (by first | decide | omega) | exact st.c7 (by first | decide | omega) | exact st.c8 (by first | decide | omega)), trivial⟩) rfl rfl rfl ?_
  -- R1.5 11 := convert.go:165 call
  refine QL.call (val := .int .u32 (D u' v')) (fun w st => r_callv ty_call11 rfl rfl) rfl rfl rfl (fun w st => under_ok u' v' (hG.more [_, _]) hu' hv' st) ?_
  -- R1.6 12 := convert.go:165 binOp
  refine QL.v (fun w st => by first | exact r_lss rfl rfl (decide_eq_true (by omega)) | exact r_lss rfl rfl (decide_eq_false (by omega)) | exact r_lss rfl rfl rfl) rfl rfl rfl ?_
  -- R1.7 5 := convert.go:165 assign
  refine QL.v (fun w st => by first | exact r_assign (v := .bool _) rfl | exact r_assign rfl) rfl rfl rfl ?_
  refine QL.wl hKq fun w st => ?_
  refine WL.fin hK340 (fun _ _ h => h) ?_
  refine WC.ret1 Try.results13 (fun _ _ h => h) rfl ?_
  exact ⟨_, rfl, rfl, st.drop.drop⟩

/-- The heap's items. -/
def ItR (f : Nat → Value) (n : Nat) (it : Nat → Nat × Nat) : Prop := ∀ i, i < n → f (0 + i * 2) = .int .i64 ((it i).1 : Nat) ∧ f (0 + i * 2 + 1) = .int .i64 ((it i).2 : Nat)

theorem ItR.congr {f : Nat → Value} {n : Nat} {it it' : Nat → Nat × Nat} (h : ItR f n it) (he : ∀ k, k < n → it k = it' k) : ItR f n it' := fun k hk => by rw [← he k hk]; exact h k hk
theorem ItR.set {f : Nat → Value} {n j : Nat} {it : Nat → Nat × Nat} (h : ItR f n it) (p : Nat × Nat) : ItR (upds f (0 + j * 2) 2 (nth [.int .i64 (p.1 : Nat), .int .i64 (p.2 : Nat)])) n (fun k => if k = j then p else it k) := by
  intro k hk
  obtain ⟨h1, h2⟩ := h k hk
  by_cases hkj : k = j
  · subst hkj
    constructor
    · simp only [upds_eq]; rw [if_pos (by omega), show 0 + k * 2 - (0 + k * 2) = 0 by omega]; simp [nth]
    · simp only [upds_eq]; rw [if_pos (by omega), show 0 + k * 2 + 1 - (0 + k * 2) = 1 by omega]; simp [nth]
  · constructor
    · simp only [upds_eq]; rw [if_neg (by omega), if_neg hkj]; exact h1
    · simp only [upds_eq]; rw [if_neg (by omega), if_neg hkj]; exact h2

abbrev lessV (b8 : Nat) : Value := .func (.func 13) #[] #[.pointer (some ⟨b8, 0, none⟩)]
/-- The heap's struct. -/
abbrev heapR (ib n q b8 : Nat) : Nat → Value := nth [.slice (some ⟨ib, 0, none⟩) n q, lessV b8]

theorem hlen_ok (hb ib n q b8 : Nat) {w0 : World} {M : Nat → Prop} {L : List HI} {w : World} (st : St w0 M ((hb, Row 80 2 (heapR ib n q b8)) :: L) w) :
    Calls Try.prog 15 #[.pointer (some ⟨hb, 0, none⟩)] w (Ret fun v w' => v = .int .i64 (n : Nat) ∧ St w0 M ((hb, Row 80 2 (heapR ib n q b8)) :: L) w') := by
  refine enter [.pointer (some ⟨hb, 0, none⟩)] Try.func15 rfl Try.ntmps15 rfl ?_
  show WC _ _ _ 8 [] [(0, .pointer (some ⟨hb, 0, none⟩))] _
  refine WC.seq fun K341 hK341 => ?_
  -- region 0
  refine WC.region ?_
  -- R0.0 2 := heap.go:15 assign
  refine WL.v (by first | exact r_assign (v := .int _ _) rfl | exact r_assign rfl) rfl rfl rfl ?_
  refine WL.fin hK341 (fun _ _ h => h) ?_
  refine WC.seq fun K342 hK342 => ?_
  -- region 1
  refine WC.region ?_
  -- R1.0 3 := heap.go:15 move
  refine WL.v (by first | exact r_move (v := .pointer _) rfl | exact r_move rfl) rfl rfl rfl ?_
  -- R1.1 4 := heap.go:15 nilCheck
  refine WL.v (by exact r_nilCheck rfl) rfl rfl rfl ?_
  -- R1.2 5 := heap.go:15 fieldAddr
  refine WL.v (by exact r_field ty_fld80_0 rfl) rfl rfl rfl ?_
  -- R1.3 6 := heap.go:15 load
  refine WL.v (by exact r_load1 ty_one78 rfl (by first | assumption | exact st.c0 (by first | decide | omega) | exact st.c1 (by first | decide | omega) | exact st.c2 (by first | decide | omega) | exact st.c3 (by first | decide | omega) | exact st.c4 (by first | decide | omega) | exact st.c5 (by first | decide | omega) | exact st.c6 (by first | decide | omega) | exact st.c7 (by first | decide | omega) | exact st.c8 (by first | decide | omega))) rfl rfl rfl ?_
  -- R1.4 7 := heap.go:15 call
  refine WL.v (by exact r_len ty_usl78 rfl) rfl rfl rfl ?_
  -- R1.5 2 := heap.go:15 assign
  refine WL.v (by first | exact r_assign (v := .int _ _) rfl | exact r_assign rfl) rfl rfl rfl ?_
  refine WL.fin hK342 (fun _ _ h => h) ?_
  refine WC.ret1 Try.results15 (fun _ _ h => h) rfl ?_
  exact ⟨_, rfl, rfl, st⟩
end Go.Proofs.Qxb6500835a

