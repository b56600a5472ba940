import Derived.Test.Qxb6500834aGreatDoorK78
import Derived.Test.Qxb6500834aGreatDoorK64
set_option linter.unusedVariables false
set_option linter.unusedSimpArgs false
set_option maxRecDepth 20000
namespace Go.Proofs.Qxb6500834aGreatDoor
open Go.RowKit Go.E1 Go.Kern
theorem ty_agg102 : aggT Tryz.prog 102 = some 5 := by kernel_rfl
theorem ty_call127 : callT Tryz.prog 127 = true := by kernel_rfl
theorem ty_call128 : callT Tryz.prog 128 = true := by kernel_rfl
theorem ty_call187 : callT Tryz.prog 187 = true := by kernel_rfl
theorem ty_fld102_0 : fldOff Tryz.prog 102 0 = some 0 := by kernel_rfl
theorem ty_fld102_1 : fldOff Tryz.prog 102 1 = some 1 := by kernel_rfl
theorem ty_fld98_9 : fldOff Tryz.prog 98 9 = some 692 := by kernel_rfl
theorem ty_one96 : oneT Tryz.prog 96 = true := by kernel_rfl
theorem ty_sl96 : slT Tryz.prog 96 = some (102, 5) := by kernel_rfl
theorem ty_usl96 : Program.underlying Tryz.prog 96 = some (.slice 102) := by kernel_rfl
theorem ty_zero102 : zeroL Tryz.prog 102 = some [.int .i64 0, .int .i64 0, .int .i64 0, .int .u64 0, .int .u64 0] := by kernel_rfl
variable {w0 : World} {l X : List HI} {w : World} {s s' s0 : KS} {t r N n : Nat} {qv qv' : Nat → Value}
variable {P : List PQ} {m : MR} {pv tv v : Value} {mb : Nat → Nat} {bm : Nat} {T : List (Nat × Nat × Nat)} {O : Nat → Nat → Option Nat}
/-! slices.IndexFunc over pending requests. -/
theorem ixFP_ok {X : List HI} {L : List (PQ)} {p : PQ → Bool} {F : Nat} {cap : Array Value} (hcall : callT Tryz.prog F = true) (hq : LO 102 5 pE v L X) (hX : X ⊆ l)
    (hF : ∀ (q : PQ) (w : World), q ∈ L → S0 w0 l w → Calls Tryz.prog F (([.agg #[.int .i64 (q.t : Nat), .int .i64 (q.r : Nat), .int .i64 (q.u : Nat), .int .u64 (q.d : Nat), .int .u64 (q.n : Nat)]] : List Value) ++ cap.toList).toArray w (Ret fun u w' => u = .bool (p q) ∧ S0 w0 l w')) (st : S0 w0 l w) :
    Calls Tryz.prog 127 #[v, .func (.func F) #[] cap] w (Ret fun u w' => (((∀ q, q ∈ L → p q = false) ∧ u = .int .i64 (-1)) ∨ ∃ i q, L[i]? = some q ∧ p q = true ∧ (∀ k x, k < i → L[k]? = some x → p x = false) ∧ u = .int .i64 (i : Nat)) ∧ S0 w0 l w') := by
  obtain ⟨a, c, b, rfl, hc1, hc2, ha, hcell⟩ := hq.form
  refine enter [.slice a L.length c, .func (.func F) #[] cap] Tryz.func127 rfl Tryz.ntmps127 rfl ?_
  show WC _ _ _ 19 [] [(0, .slice a L.length c), (1, .func (.func F) #[] cap)] _
  refine WC.seq fun K3033 hK3033 => ?_
  -- region 0
  refine WC.region ?_
  -- R0.0 4 := slices.go:107 assign
  refine WL.v (by first | exact r_assign (v := .int _ _) rfl | exact r_assign rfl) rfl rfl rfl ?_
  refine WL.fin hK3033 (fun _ _ h => h) ?_
  refine WC.seq fun K3034 hK3034 => ?_
  refine WC.seq fun K3035 hK3035 => ?_
  -- region 1
  refine WC.region ?_
  -- R1.0 6 := slices.go:108 move
  refine WL.v (by first | exact r_move (v := .slice _ _ _) rfl | exact r_move rfl) rfl rfl rfl ?_
  -- R1.1 7 := slices.go:108 call
  refine WL.v (by exact r_len ty_usl96 rfl) rfl rfl rfl ?_
  -- R1.2 8 := slices.go:108 move
  refine WL.v (by first | exact r_move (v := .int _ _) rfl | exact r_move rfl) rfl rfl rfl ?_
  refine WL.fin hK3035 (fun _ _ h => h) ?_
  refine WC.block ?_
  refine WC.loop (ι := Nat) (fun i => [(0, .slice a L.length c), (1, .func (.func F) #[] cap), (7, .int .i64 (L.length : Nat)), (8, .int .i64 (i : Nat))])
    (fun i w' => i ≤ L.length ∧ (∀ k x, k < i → L[k]? = some x → p x = false) ∧ S0 w0 l w') (fun i => L.length - i) 0 ⟨Nat.zero_le _, fun k x hk => absurd hk (Nat.not_lt_zero _), st⟩ ?_ ?_
  · skip
    repeat (first | exact sub_nil _ | refine sub_cons rfl rfl ?_)
  rintro i w ⟨hi, hno, st⟩ K1 hK1
  by_cases hl : i = L.length
  · subst hl
    refine WC.seq fun K3036 hK3036 => ?_
    -- region 2
    refine WC.region ?_
    -- R2.0 9 := slices.go:108 binOp
    refine WL.v (by first | exact r_lss rfl rfl (decide_eq_true (by omega)) | exact r_lss rfl rfl (decide_eq_false (by omega)) | exact r_lss rfl rfl rfl) rfl rfl rfl ?_
    refine WL.fin hK3036 (fun _ _ h => h) ?_
    refine WC.seq fun K3037 hK3037 => ?_
    refine WC.condF rfl rfl ?_
    refine WC.exitF hK3034 (fun _ _ h => h) ?_
    refine WC.seq fun K3038 hK3038 => ?_
    -- region 7
    refine WC.region ?_
    -- R7.0 4 := slices.go:113 assign
    refine WL.v (by first | exact r_assign (v := .int _ _) rfl | exact r_assign rfl) rfl rfl rfl ?_
    refine WL.fin hK3038 (fun _ _ h => h) ?_
    refine WC.ret1 Tryz.results127 (fun _ _ h => h) rfl ?_
    refine ⟨_, rfl, .inl ⟨fun q hm => ?_, rfl⟩, st⟩
    obtain ⟨k, hk⟩ := List.mem_iff_getElem?.1 hm
    exact hno k q (List.getElem?_eq_some_iff.1 hk).1 hk
  have hil : i < L.length := by omega
  obtain ⟨q, hqi⟩ : ∃ q, L[i]? = some q := ⟨L[i], List.getElem?_eq_getElem hil⟩
  have hqm : q ∈ L := List.mem_of_getElem? hqi
  obtain rfl := ha (by omega)
  have hce := fun j hj => hcell st hX i q hqi j hj
  rcases Bool.eq_false_or_eq_true (p q) with hp | hp
  · skip
    refine WC.seq fun K3039 hK3039 => ?_
    -- region 2
    refine WC.region ?_
    -- R2.0 9 := slices.go:108 binOp
    refine WL.v (by first | exact r_lss rfl rfl (decide_eq_true (by omega)) | exact r_lss rfl rfl (decide_eq_false (by omega)) | exact r_lss rfl rfl rfl) rfl rfl rfl ?_
    refine WL.fin hK3039 (fun _ _ h => h) ?_
    refine WC.seq fun K3040 hK3040 => ?_
    refine WC.condT rfl rfl ?_
    refine WC.skipF hK3040 (fun _ _ h => h) ?_
    refine WC.seq fun K3041 hK3041 => ?_
    refine WC.block ?_
    refine WC.seq fun K3042 hK3042 => ?_
    -- region 3
    refine WC.region ?_
    -- R3.0 10 := slices.go:108 move
    refine WL.v (by first | exact r_move (v := .int _ _) rfl | exact r_move rfl) rfl rfl rfl ?_
    -- R3.1 5 := slices.go:108 assign
    refine WL.v (by first | exact r_assign (v := .int _ _) rfl | exact r_assign rfl) rfl rfl rfl ?_
    refine WL.fin hK3042 (fun _ _ h => h) ?_
    refine WC.seq fun K3043 hK3043 => ?_
    -- region 4
    refine WC.region ?_
    -- R4.0 11 := slices.go:109 move
    refine WL.v (by first | exact r_move (v := .func _ _ _) rfl | exact r_move (v := .nilFunc) rfl | exact r_move rfl) rfl rfl rfl ?_
    -- R4.1 12 := slices.go:109 move
    refine WL.v (by first | exact r_move (v := .slice _ _ _) rfl | exact r_move rfl) rfl rfl rfl ?_
    -- R4.2 13 := slices.go:109 move
    refine WL.v (by first | exact r_move (v := .int _ _) rfl | exact r_move rfl) rfl rfl rfl ?_
    -- R4.3 14 := slices.go:109 indexAddr
    refine WL.v (by exact r_indexS (j := i) ty_sl96 rfl rfl rfl (by omega)) rfl rfl rfl ?_
    -- R4.4 15 := slices.go:109 load
    refine WL.v (by exact r_loadL (vs := [.int .i64 (q.t : Nat), .int .i64 (q.r : Nat), .int .i64 (q.u : Nat), .int .u64 (q.d : Nat), .int .u64 (q.n : Nat)]) ty_agg102 rfl ⟨by rw [Nat.zero_add]; exact hce 0 (by decide), by rw [Nat.zero_add]; exact hce 1 (by decide), by rw [Nat.zero_add]; exact hce 2 (by decide), by rw [Nat.zero_add]; exact hce 3 (by decide), by rw [Nat.zero_add]; exact hce 4 (by decide), trivial⟩) rfl rfl rfl ?_
    -- R4.5 16 := slices.go:109 call
    refine WL.call (r_callv hcall rfl rfl) rfl rfl rfl (hF q w hqm st) ?_
    rintro _ w ⟨he, st⟩
    rw [hp] at he
    subst he
    refine WL.fin hK3043 (fun _ _ h => h) ?_
    refine WC.condT rfl rfl ?_
    refine WC.seq fun K3044 hK3044 => ?_
    -- region 5
    refine WC.region ?_
    -- R5.0 17 := slices.go:110 move
    refine WL.v (by first | exact r_move (v := .int _ _) rfl | exact r_move rfl) rfl rfl rfl ?_
    -- R5.1 4 := slices.go:110 assign
    refine WL.v (by first | exact r_assign (v := .int _ _) rfl | exact r_assign rfl) rfl rfl rfl ?_
    refine WL.fin hK3044 (fun _ _ h => h) ?_
    refine WC.ret1 Tryz.results127 (fun _ _ h => h) rfl ?_
    exact ⟨_, rfl, .inr ⟨i, q, hqi, hp, hno, rfl⟩, st⟩
  · skip
    refine WC.seq fun K3045 hK3045 => ?_
    -- region 2
    refine WC.region ?_
    -- R2.0 9 := slices.go:108 binOp
    refine WL.v (by first | exact r_lss rfl rfl (decide_eq_true (by omega)) | exact r_lss rfl rfl (decide_eq_false (by omega)) | exact r_lss rfl rfl rfl) rfl rfl rfl ?_
    refine WL.fin hK3045 (fun _ _ h => h) ?_
    refine WC.seq fun K3046 hK3046 => ?_
    refine WC.condT rfl rfl ?_
    refine WC.skipF hK3046 (fun _ _ h => h) ?_
    refine WC.seq fun K3047 hK3047 => ?_
    refine WC.block ?_
    refine WC.seq fun K3048 hK3048 => ?_
    -- region 3
    refine WC.region ?_
    -- R3.0 10 := slices.go:108 move
    refine WL.v (by first | exact r_move (v := .int _ _) rfl | exact r_move rfl) rfl rfl rfl ?_
    -- R3.1 5 := slices.go:108 assign
    refine WL.v (by first | exact r_assign (v := .int _ _) rfl | exact r_assign rfl) rfl rfl rfl ?_
    refine WL.fin hK3048 (fun _ _ h => h) ?_
    refine WC.seq fun K3049 hK3049 => ?_
    -- region 4
    refine WC.region ?_
    -- R4.0 11 := slices.go:109 move
    refine WL.v (by first | exact r_move (v := .func _ _ _) rfl | exact r_move (v := .nilFunc) rfl | exact r_move rfl) rfl rfl rfl ?_
    -- R4.1 12 := slices.go:109 move
    refine WL.v (by first | exact r_move (v := .slice _ _ _) rfl | exact r_move rfl) rfl rfl rfl ?_
    -- R4.2 13 := slices.go:109 move
    refine WL.v (by first | exact r_move (v := .int _ _) rfl | exact r_move rfl) rfl rfl rfl ?_
    -- R4.3 14 := slices.go:109 indexAddr
    refine WL.v (by exact r_indexS (j := i) ty_sl96 rfl rfl rfl (by omega)) rfl rfl rfl ?_
    -- R4.4 15 := slices.go:109 load
    refine WL.v (by exact r_loadL (vs := [.int .i64 (q.t : Nat), .int .i64 (q.r : Nat), .int .i64 (q.u : Nat), .int .u64 (q.d : Nat), .int .u64 (q.n : Nat)]) ty_agg102 rfl ⟨by rw [Nat.zero_add]; exact hce 0 (by decide), by rw [Nat.zero_add]; exact hce 1 (by decide), by rw [Nat.zero_add]; exact hce 2 (by decide), by rw [Nat.zero_add]; exact hce 3 (by decide), by rw [Nat.zero_add]; exact hce 4 (by decide), trivial⟩) rfl rfl rfl ?_
    -- R4.5 16 := slices.go:109 call
    refine WL.call (r_callv hcall rfl rfl) rfl rfl rfl (hF q w hqm st) ?_
    rintro _ w ⟨he, st⟩
    rw [hp] at he
    subst he
    refine WL.fin hK3049 (fun _ _ h => h) ?_
    refine WC.condF rfl rfl ?_
    refine WC.skipF hK3047 (fun _ _ h => h) ?_
    -- region 6
    refine WC.region ?_
    -- R6.0 18 := slices.go:108 binOp
    refine WL.v (by first | exact r_add rfl rfl (wi64 (by omega) (by omega)) | exact r_add rfl rfl rfl) rfl rfl rfl ?_
    -- R6.1 8 := slices.go:108 move
    refine WL.v (by first | exact r_move (v := .int _ _) rfl | exact r_move rfl) rfl rfl rfl ?_
    refine WL.next hK1 (fun _ _ h => h) (i + 1) ⟨by omega, fun k x hk hx => by rcases Nat.lt_succ_iff_lt_or_eq.1 hk with h | rfl; exact hno k x h hx; rw [hqi] at hx; cases hx; exact hp, st⟩ (by omega) (by repeat (first | exact sub_nil _ | refine sub_cons rfl rfl ?_))

theorem pl1_ok {q : PQ} {b : Nat} (hm : (b, Row 31 1 (nth [.int .i64 (t : Nat)])) ∈ l) (st : S0 w0 l w) :
    Calls Tryz.prog 128 #[.agg #[.int .i64 (q.t : Nat), .int .i64 (q.r : Nat), .int .i64 (q.u : Nat), .int .u64 (q.d : Nat), .int .u64 (q.n : Nat)], .pointer (some ⟨b, 0, none⟩)] w (Ret fun u w' => u = .bool (q.t == t) ∧ S0 w0 l w') := by
  refine enter [.agg #[.int .i64 (q.t : Nat), .int .i64 (q.r : Nat), .int .i64 (q.u : Nat), .int .u64 (q.d : Nat), .int .u64 (q.n : Nat)], .pointer (some ⟨b, 0, none⟩)] Tryz.func128 rfl Tryz.ntmps128 rfl ?_
  show WC _ _ _ 8 [] [(0, .agg #[.int .i64 (q.t : Nat), .int .i64 (q.r : Nat), .int .i64 (q.u : Nat), .int .u64 (q.d : Nat), .int .u64 (q.n : Nat)]), (1, .pointer (some ⟨b, 0, none⟩))] _
  refine WC.seq fun K3050 hK3050 => ?_
  -- region 0
  refine WC.region ?_
  -- R0.0 2 := model.go:225 box
  first | refine WL.box (m := 5) (vs := [.int _ _, .int _ _, .int _ _, .int _ _, .int _ _]) st rfl rfl rfl rfl rfl rfl ?_ | refine WL.box (m := 5) (vs := [_, _, _, _, _]) st rfl rfl rfl rfl rfl rfl ?_ | refine WL.box st rfl rfl rfl rfl rfl rfl ?_
  intro b2 w st
  -- R0.1 3 := model.go:225 assign
  refine WL.v (by first | exact r_assign (v := .bool _) rfl | exact r_assign rfl) rfl rfl rfl ?_
  refine WL.fin hK3050 (fun _ _ h => h) ?_
  refine WC.seq fun K3051 hK3051 => ?_
  -- region 1
  refine WC.region ?_
  -- R1.0 4 := model.go:225 fieldAddr
  refine WL.v (by exact r_field ty_fld102_0 rfl) rfl rfl rfl ?_
  -- R1.1 5 := model.go:225 load
  refine WL.v (by exact r_load1 ty_one31 rfl (by first | assumption | exact st.c0 (by first | decide | omega) | exact st.c1 (by first | decide | omega) | exact st.c2 (by first | decide | omega) | exact st.c3 (by first | decide | omega) | exact st.c4 (by first | decide | omega) | exact st.c5 (by first | decide | omega) | exact st.c6 (by first | decide | omega) | exact st.c7 (by first | decide | omega) | exact st.c8 (by first | decide | omega))) rfl rfl rfl ?_
  -- R1.2 6 := model.go:225 load
  refine WL.v (by exact r_load1 (v := .int .i64 (t : Nat)) ty_one31 rfl (st.drop.cell hm (by decide))) rfl rfl rfl ?_
  -- R1.3 7 := model.go:225 binOp
  refine WL.v (by exact r_eql (t := q.t == t) rfl rfl beqI) rfl rfl rfl ?_
  -- R1.4 3 := model.go:225 assign
  refine WL.v (by first | exact r_assign (v := .bool _) rfl | exact r_assign rfl) rfl rfl rfl ?_
  refine WL.fin hK3051 (fun _ _ h => h) ?_
  refine WC.ret1 Tryz.results128 (fun _ _ h => h) rfl ?_
  exact ⟨_, rfl, rfl, st.drop⟩
theorem pl0_ok {XP : List HI} (hm : moI bm m pv tv mb ∈ l) (hp : PL0 pv P XP) (hX : XP ⊆ l) (st : S0 w0 l w) :
    Calls Tryz.prog 98 #[.pointer (some ⟨bm, 0, none⟩), .int .i64 (t : Nat)] w (Ret fun u w' => (((∀ q, q ∈ P → (q.t == t) = false) ∧ u = .int .i64 (-1)) ∨ ∃ i q, P[i]? = some q ∧ (q.t == t) = true ∧ (∀ k x, k < i → P[k]? = some x → (x.t == t) = false) ∧ u = .int .i64 (i : Nat)) ∧ S0 w0 l w') := by
  obtain ⟨a, c, b, hpv, hc1, hc2, ha, hcell⟩ := hp.form
  refine enter [.pointer (some ⟨bm, 0, none⟩), .int .i64 (t : Nat)] Tryz.func98 rfl Tryz.ntmps98 rfl ?_
  show WC _ _ _ 11 [] [(0, .pointer (some ⟨bm, 0, none⟩)), (1, .int .i64 (t : Nat))] _
  refine WC.seq fun K3052 hK3052 => ?_
  -- region 0
  refine WC.region ?_
  -- R0.0 3 := model.go:224 box
  first | refine WL.box (m := 1) (vs := [.int _ _]) st rfl rfl rfl rfl rfl rfl ?_ | refine WL.box (m := 1) (vs := [_]) st rfl rfl rfl rfl rfl rfl ?_ | refine WL.box st rfl rfl rfl rfl rfl rfl ?_
  intro b3 w st
  -- R0.1 4 := model.go:224 assign
  refine WL.v (by first | exact r_assign (v := .int _ _) rfl | exact r_assign rfl) rfl rfl rfl ?_
  refine WL.fin hK3052 (fun _ _ h => h) ?_
  refine WC.seq fun K3053 hK3053 => ?_
  -- region 1
  refine WC.region ?_
  -- R1.0 5 := model.go:225 move
  refine WL.v (by first | exact r_move (v := .pointer _) rfl | exact r_move rfl) rfl rfl rfl ?_
  -- R1.1 6 := model.go:225 nilCheck
  refine WL.v (by exact r_nilCheck rfl) rfl rfl rfl ?_
  -- R1.2 7 := model.go:225 fieldAddr
  refine WL.v (by exact r_field ty_fld98_9 rfl) rfl rfl rfl ?_
  -- R1.3 8 := model.go:225 load
  refine WL.v (by exact r_load1 (v := .slice a P.length c) ty_one96 rfl (by rw [← hpv]; exact c_m (List.mem_cons_of_mem _ hm) (by decide) rfl st)) rfl rfl rfl ?_
  -- R1.4 9 := model.go:225 makeFunc
  refine WL.v (by exact r_mkfn rfl rfl) rfl rfl rfl ?_
  -- R1.5 10 := model.go:225 call
  refine WL.call (r_call ty_call127 rfl) rfl rfl rfl (ixFP_ok (v := .slice a P.length c) (p := fun q => q.t == t) (F := 128) (cap := #[.pointer (some ⟨b3, 0, none⟩)]) ty_call128 (by rw [← hpv]; exact hp) (fun x hx => List.mem_cons_of_mem _ (hX hx)) (fun q w _ st => pl1_ok List.mem_cons_self st) st) ?_
  rintro u w ⟨hu, st⟩
  obtain ⟨x, hx⟩ : ∃ x : Int, u = .int .i64 x := by rcases hu with hu | ⟨i, q, _, _, _, hu⟩; exact ⟨_, hu.2⟩; exact ⟨_, hu⟩
  subst hx
  -- R1.6 4 := model.go:225 assign
  refine WL.v (by first | exact r_assign (v := .int _ _) rfl | exact r_assign rfl) rfl rfl rfl ?_
  refine WL.fin hK3053 (fun _ _ h => h) ?_
  refine WC.ret1 Tryz.results98 (fun _ _ h => h) rfl ?_
  exact ⟨_, rfl, hu, st.drop⟩
theorem pl_none {XP : List HI} (hn : ∀ q, q ∈ P → q.t ≠ t) (hm : moI bm m pv tv mb ∈ l) (hp : PL0 pv P XP) (hX : XP ⊆ l) (st : S0 w0 l w) :
    Calls Tryz.prog 98 #[.pointer (some ⟨bm, 0, none⟩), .int .i64 (t : Nat)] w (Ret fun u w' => u = .int .i64 (-1) ∧ S0 w0 l w') := by
  refine (pl0_ok (t := t) hm hp hX st).mono ?_
  rintro _ _ ⟨u, rfl, hu, st⟩
  rcases hu with hu | ⟨i, q, h1, h2, _⟩
  · exact ⟨_, rfl, hu.2, st⟩
  · exact absurd (by simpa using h2) (hn q (List.mem_of_getElem? h1))
theorem pl_some {XP : List HI} {i : Nat} {q : PQ} (hu : P.Pairwise fun p q => p.t ≠ q.t) (hi : P[i]? = some q) (ht : q.t = t) (hm : moI bm m pv tv mb ∈ l) (hp : PL0 pv P XP) (hX : XP ⊆ l) (st : S0 w0 l w) :
    Calls Tryz.prog 98 #[.pointer (some ⟨bm, 0, none⟩), .int .i64 (t : Nat)] w (Ret fun u w' => u = .int .i64 (i : Nat) ∧ S0 w0 l w') := by
  refine (pl0_ok (t := t) hm hp hX st).mono ?_
  rintro _ _ ⟨u, rfl, hu', st⟩
  rcases hu' with hu' | ⟨j, p, h1, h2, h3, h4⟩
  · exact absurd ht (by simpa using hu'.1 q (List.mem_of_getElem? hi))
  · refine ⟨_, rfl, ?_, st⟩
    have e : p.t = t := by simpa using h2
    have hij : j = i := by
      rcases Nat.lt_trichotomy j i with k | k | k
      · obtain ⟨hj, ej⟩ := List.getElem?_eq_some_iff.1 h1
        obtain ⟨hi2, ei⟩ := List.getElem?_eq_some_iff.1 hi
        have := List.pairwise_iff_getElem.1 hu j i hj hi2 k
        rw [ej, ei] at this
        exact absurd (e.trans ht.symm) this
      · exact k
      · have := h3 i q k hi
        exact absurd ht (by simpa using this)
    rw [h4, hij]
theorem fi1_ok {q : PQ} {b : Nat} (hm : (b, Row 77 1 (nth [.int .i64 (t : Nat)])) ∈ l) (st : S0 w0 l w) :
    Calls Tryz.prog 187 #[.agg #[.int .i64 (q.t : Nat), .int .i64 (q.r : Nat), .int .i64 (q.u : Nat), .int .u64 (q.d : Nat), .int .u64 (q.n : Nat)], .pointer (some ⟨b, 0, none⟩)] w (Ret fun u w' => u = .bool (q.r == t) ∧ S0 w0 l w') := by
  refine enter [.agg #[.int .i64 (q.t : Nat), .int .i64 (q.r : Nat), .int .i64 (q.u : Nat), .int .u64 (q.d : Nat), .int .u64 (q.n : Nat)], .pointer (some ⟨b, 0, none⟩)] Tryz.func187 rfl Tryz.ntmps187 rfl ?_
  show WC _ _ _ 8 [] [(0, .agg #[.int .i64 (q.t : Nat), .int .i64 (q.r : Nat), .int .i64 (q.u : Nat), .int .u64 (q.d : Nat), .int .u64 (q.n : Nat)]), (1, .pointer (some ⟨b, 0, none⟩))] _
  refine WC.seq fun K3054 hK3054 => ?_
  -- region 0
  refine WC.region ?_
  -- R0.0 2 := model.go:230 box
  first | refine WL.box (m := 5) (vs := [.int _ _, .int _ _, .int _ _, .int _ _, .int _ _]) st rfl rfl rfl rfl rfl rfl ?_ | refine WL.box (m := 5) (vs := [_, _, _, _, _]) st rfl rfl rfl rfl rfl rfl ?_ | refine WL.box st rfl rfl rfl rfl rfl rfl ?_
  intro b2 w st
  -- R0.1 3 := model.go:230 assign
  refine WL.v (by first | exact r_assign (v := .bool _) rfl | exact r_assign rfl) rfl rfl rfl ?_
  refine WL.fin hK3054 (fun _ _ h => h) ?_
  refine WC.seq fun K3055 hK3055 => ?_
  -- region 1
  refine WC.region ?_
  -- R1.0 4 := model.go:230 fieldAddr
  refine WL.v (by exact r_field ty_fld102_1 rfl) rfl rfl rfl ?_
  -- R1.1 5 := model.go:230 load
  refine WL.v (by exact r_load1 ty_one77 rfl (by first | assumption | exact st.c0 (by first | decide | omega) | exact st.c1 (by first | decide | omega) | exact st.c2 (by first | decide | omega) | exact st.c3 (by first | decide | omega) | exact st.c4 (by first | decide | omega) | exact st.c5 (by first | decide | omega) | exact st.c6 (by first | decide | omega) | exact st.c7 (by first | decide | omega) | exact st.c8 (by first | decide | omega))) rfl rfl rfl ?_
  -- R1.2 6 := model.go:230 load
  refine WL.v (by exact r_load1 (v := .int .i64 (t : Nat)) ty_one77 rfl (st.drop.cell hm (by decide))) rfl rfl rfl ?_
  -- R1.3 7 := model.go:230 binOp
  refine WL.v (by exact r_eql (t := q.r == t) rfl rfl beqI) rfl rfl rfl ?_
  -- R1.4 3 := model.go:230 assign
  refine WL.v (by first | exact r_assign (v := .bool _) rfl | exact r_assign rfl) rfl rfl rfl ?_
  refine WL.fin hK3055 (fun _ _ h => h) ?_
  refine WC.ret1 Tryz.results187 (fun _ _ h => h) rfl ?_
  exact ⟨_, rfl, rfl, st.drop⟩
theorem fi0_ok {XP : List HI} (hm : moI bm m pv tv mb ∈ l) (hp : PL0 pv P XP) (hX : XP ⊆ l) (st : S0 w0 l w) :
    Calls Tryz.prog 157 #[.pointer (some ⟨bm, 0, none⟩), .int .i64 (t : Nat)] w (Ret fun u w' => (((∀ q, q ∈ P → (q.r == t) = false) ∧ u = .int .i64 (-1)) ∨ ∃ i q, P[i]? = some q ∧ (q.r == t) = true ∧ (∀ k x, k < i → P[k]? = some x → (x.r == t) = false) ∧ u = .int .i64 (i : Nat)) ∧ S0 w0 l w') := by
  obtain ⟨a, c, b, hpv, hc1, hc2, ha, hcell⟩ := hp.form
  refine enter [.pointer (some ⟨bm, 0, none⟩), .int .i64 (t : Nat)] Tryz.func157 rfl Tryz.ntmps157 rfl ?_
  show WC _ _ _ 11 [] [(0, .pointer (some ⟨bm, 0, none⟩)), (1, .int .i64 (t : Nat))] _
  refine WC.seq fun K3056 hK3056 => ?_
  -- region 0
  refine WC.region ?_
  -- R0.0 3 := model.go:229 box
  first | refine WL.box (m := 1) (vs := [.int _ _]) st rfl rfl rfl rfl rfl rfl ?_ | refine WL.box (m := 1) (vs := [_]) st rfl rfl rfl rfl rfl rfl ?_ | refine WL.box st rfl rfl rfl rfl rfl rfl ?_
  intro b3 w st
  -- R0.1 4 := model.go:229 assign
  refine WL.v (by first | exact r_assign (v := .int _ _) rfl | exact r_assign rfl) rfl rfl rfl ?_
  refine WL.fin hK3056 (fun _ _ h => h) ?_
  refine WC.seq fun K3057 hK3057 => ?_
  -- region 1
  refine WC.region ?_
  -- R1.0 5 := model.go:230 move
  refine WL.v (by first | exact r_move (v := .pointer _) rfl | exact r_move rfl) rfl rfl rfl ?_
  -- R1.1 6 := model.go:230 nilCheck
  refine WL.v (by exact r_nilCheck rfl) rfl rfl rfl ?_
  -- R1.2 7 := model.go:230 fieldAddr
  refine WL.v (by exact r_field ty_fld98_9 rfl) rfl rfl rfl ?_
  -- R1.3 8 := model.go:230 load
  refine WL.v (by exact r_load1 (v := .slice a P.length c) ty_one96 rfl (by rw [← hpv]; exact c_m (List.mem_cons_of_mem _ hm) (by decide) rfl st)) rfl rfl rfl ?_
  -- R1.4 9 := model.go:230 makeFunc
  refine WL.v (by exact r_mkfn rfl rfl) rfl rfl rfl ?_
  -- R1.5 10 := model.go:230 call
  refine WL.call (r_call ty_call127 rfl) rfl rfl rfl (ixFP_ok (v := .slice a P.length c) (p := fun q => q.r == t) (F := 187) (cap := #[.pointer (some ⟨b3, 0, none⟩)]) ty_call187 (by rw [← hpv]; exact hp) (fun x hx => List.mem_cons_of_mem _ (hX hx)) (fun q w _ st => fi1_ok List.mem_cons_self st) st) ?_
  rintro u w ⟨hu, st⟩
  obtain ⟨x, hx⟩ : ∃ x : Int, u = .int .i64 x := by rcases hu with hu | ⟨i, q, _, _, _, hu⟩; exact ⟨_, hu.2⟩; exact ⟨_, hu⟩
  subst hx
  -- R1.6 4 := model.go:230 assign
  refine WL.v (by first | exact r_assign (v := .int _ _) rfl | exact r_assign rfl) rfl rfl rfl ?_
  refine WL.fin hK3057 (fun _ _ h => h) ?_
  refine WC.ret1 Tryz.results157 (fun _ _ h => h) rfl ?_
  exact ⟨_, rfl, hu, st.drop⟩
theorem fi_none {XP : List HI} (hn : ∀ q, q ∈ P → q.r ≠ t) (hm : moI bm m pv tv mb ∈ l) (hp : PL0 pv P XP) (hX : XP ⊆ l) (st : S0 w0 l w) :
    Calls Tryz.prog 157 #[.pointer (some ⟨bm, 0, none⟩), .int .i64 (t : Nat)] w (Ret fun u w' => u = .int .i64 (-1) ∧ S0 w0 l w') := by
  refine (fi0_ok (t := t) hm hp hX st).mono ?_
  rintro _ _ ⟨u, rfl, hu, st⟩
  rcases hu with hu | ⟨i, q, h1, h2, _⟩
  · exact ⟨_, rfl, hu.2, st⟩
  · exact absurd (by simpa using h2) (hn q (List.mem_of_getElem? h1))
theorem fi_some {XP : List HI} {i : Nat} {q : PQ} (hi : P[i]? = some q) (ht : q.r = t) (hf : ∀ k x, k < i → P[k]? = some x → x.r ≠ t) (hm : moI bm m pv tv mb ∈ l) (hp : PL0 pv P XP) (hX : XP ⊆ l) (st : S0 w0 l w) :
    Calls Tryz.prog 157 #[.pointer (some ⟨bm, 0, none⟩), .int .i64 (t : Nat)] w (Ret fun u w' => u = .int .i64 (i : Nat) ∧ S0 w0 l w') := by
  refine (fi0_ok (t := t) hm hp hX st).mono ?_
  rintro _ _ ⟨u, rfl, hu', st⟩
  rcases hu' with hu' | ⟨j, p, h1, h2, h3, h4⟩
  · exact absurd ht (by simpa using hu'.1 q (List.mem_of_getElem? hi))
  · refine ⟨_, rfl, ?_, st⟩
    have e : p.r = t := by simpa using h2
    have hij : j = i := by
      rcases Nat.lt_trichotomy j i with k | k | k
      · exact absurd e (hf j p k h1)
      · exact k
      · exact absurd ht (by simpa using h3 i q k hi)
    rw [h4, hij]
set_option maxHeartbeats 4000000 in
theorem delP_ok {i : Nat} {X : List HI} (hp : PL0 v P X) (hi : i < P.length) (hlen : P.length ≤ 1000000) (st : S0 w0 (X ++ l) w) :
    Calls Tryz.prog 121 #[v, .int .i64 (i : Nat), .int .i64 ((i + 1 : Nat) : Int)] w (Ret fun u w' => ∃ X', PL0 u (P.take i ++ P.drop (i + 1)) X' ∧ S0 w0 (X' ++ l) w') := by
  obtain ⟨b, c, f, rfl, hc1, hc2, rfl, hf⟩ := hp.row (by omega)
  have st : S0 w0 ((b, Row 102 (c * 5) f) :: l) w := st
  obtain ⟨n, hn⟩ : ∃ n, n = P.length := ⟨_, rfl⟩
  rw [← hn] at hc1 hi hlen ⊢
  have hsl : slA (some ⟨b, 0, none⟩) (i + 1) c 5 = some ⟨b, if c = i + 1 then 0 else (i + 1) * 5, none⟩ := by
    by_cases h : c = i + 1
    · unfold slA; rw [if_pos h, if_pos h]
    · rw [slA_some (by omega), if_neg h, Nat.zero_add]
  have hone : ∀ j, j < (n - (i + 1)) * 5 → (f ((i + 1) * 5 + j)).oneCell' = true := fun j hj => by
    obtain ⟨x, hx⟩ : ∃ x, P[i + 1 + j / 5]? = some x := ⟨_, List.getElem?_eq_getElem (by omega)⟩
    have := hf (i + 1 + j / 5) x hx (j % 5) (by omega)
    rw [show (i + 1 + j / 5) * 5 + j % 5 = (i + 1) * 5 + j by omega] at this
    rw [this]
    have h5 : j % 5 < 5 := Nat.mod_lt _ (by decide)
    rcases (by omega : j % 5 = 0 ∨ j % 5 = 1 ∨ j % 5 = 2 ∨ j % 5 = 3 ∨ j % 5 = 4) with h | h | h | h | h <;> rw [h] <;> rfl
  refine enter [.slice (some ⟨b, 0, none⟩) n c, .int .i64 (i : Nat), .int .i64 ((i + 1 : Nat) : Int)] Tryz.func121 rfl Tryz.ntmps121 rfl ?_
  show WC _ _ _ 33 [] [(0, .slice (some ⟨b, 0, none⟩) n c), (1, .int .i64 (i : Nat)), (2, .int .i64 ((i + 1 : Nat) : Int))] _
  refine WC.seq fun K3058 hK3058 => ?_
  -- region 0
  refine WC.region ?_
  -- R0.0 6 := slices.go:224 assign
  refine WL.v (by first | exact r_assign (v := .slice _ _ _) rfl | exact r_assign rfl) rfl rfl rfl ?_
  refine WL.fin hK3058 (fun _ _ h => h) ?_
  refine WC.seq fun K3059 hK3059 => ?_
  -- region 1
  refine WC.region ?_
  -- R1.0 8 := slices.go:225 move
  refine WL.v (by first | exact r_move (v := .slice _ _ _) rfl | exact r_move rfl) rfl rfl rfl ?_
  -- R1.1 9 := slices.go:225 move
  refine WL.v (by first | exact r_move (v := .int _ _) rfl | exact r_move rfl) rfl rfl rfl ?_
  -- R1.2 10 := slices.go:225 move
  refine WL.v (by first | exact r_move (v := .int _ _) rfl | exact r_move rfl) rfl rfl rfl ?_
  -- R1.3 11 := slices.go:225 move
  refine WL.v (by first | exact r_move (v := .slice _ _ _) rfl | exact r_move rfl) rfl rfl rfl ?_
  -- R1.4 12 := slices.go:225 call
  refine WL.v (by exact r_len (m := n) ty_usl96 rfl) rfl rfl rfl ?_
  -- R1.5 13 := slices.go:225 slice
  refine WL.v (by exact r_slS (l := i) (h := i + 1) (m := n) ty_sl96 rfl ⟨_, rfl⟩ ⟨_, rfl⟩ ⟨_, rfl⟩ (fun h => by cases h) (by omega) (by omega) (by omega) (by omega)) rfl rfl rfl ?_
  refine WL.fin hK3059 (fun _ _ h => h) ?_
  refine WC.seq fun K3060 hK3060 => ?_
  refine WC.seq fun K3061 hK3061 => ?_
  -- region 2
  refine WC.region ?_
  -- R2.0 14 := slices.go:227 move
  refine WL.v (by first | exact r_move (v := .int _ _) rfl | exact r_move rfl) rfl rfl rfl ?_
  -- R2.1 15 := slices.go:227 move
  refine WL.v (by first | exact r_move (v := .int _ _) rfl | exact r_move rfl) rfl rfl rfl ?_
  -- R2.2 16 := slices.go:227 binOp
  refine WL.v (by exact r_eql rfl rfl (decide_eq_false (by omega))) rfl rfl rfl ?_
  refine WL.fin hK3061 (fun _ _ h => h) ?_
  refine WC.condF rfl rfl ?_
  refine WC.skipF hK3060 (fun _ _ h => h) ?_
  refine WC.seq fun K3062 hK3062 => ?_
  -- region 4
  refine WC.region ?_
  -- R4.0 18 := slices.go:231 move
  refine WL.v (by first | exact r_move (v := .slice _ _ _) rfl | exact r_move rfl) rfl rfl rfl ?_
  -- R4.1 19 := slices.go:231 call
  refine WL.v (by exact r_len (m := n) ty_usl96 rfl) rfl rfl rfl ?_
  -- R4.2 7 := slices.go:231 assign
  refine WL.v (by first | exact r_assign (v := .int _ _) rfl | exact r_assign rfl) rfl rfl rfl ?_
  refine WL.fin hK3062 (fun _ _ h => h) ?_
  refine WC.seq fun K3063 hK3063 => ?_
  -- region 5 (draws)
  refine WC.tailS 6 st ty_mixed (by kernel_rfl) fun w st Kq hKq => ?_
  -- R5.0 20 := slices.go:232 move
  refine SL.v (by first | exact r_move (v := .slice _ _ _) rfl | exact r_move rfl) rfl rfl rfl ?_
  -- R5.1 21 := slices.go:232 move
  refine SL.v (by first | exact r_move (v := .int _ _) rfl | exact r_move rfl) rfl rfl rfl ?_
  -- R5.2 22 := slices.go:232 slice
  refine SL.v (by exact r_slS (l := 0) (h := i) (m := c) ty_sl96 rfl rfl ⟨_, rfl⟩ rfl (fun h => by cases h) (by omega) (by omega) (by omega) (by omega)) rfl rfl rfl ?_
  -- R5.3 23 := slices.go:232 move
  refine SL.v (by first | exact r_move (v := .slice _ _ _) rfl | exact r_move rfl) rfl rfl rfl ?_
  -- R5.4 24 := slices.go:232 move
  refine SL.v (by first | exact r_move (v := .int _ _) rfl | exact r_move rfl) rfl rfl rfl ?_
  -- R5.5 25 := slices.go:232 slice
  refine SL.v (by exact r_sl (l := i + 1) (h := n) (m := c) ty_sl96 rfl ⟨_, rfl⟩ rfl rfl (fun _ => rfl) (by omega) (by omega) (by omega)) rfl rfl rfl ?_
  refine SL.fin hKq ?_
  -- R5.6 26 := slices.go:232 call
  refine WL.appendR (nn := i) (m := n - (i + 1)) (cap := c) (off := 0) (bx := b) (ox := if c = i + 1 then 0 else (i + 1) * 5) (c := c - (i + 1)) (news := fun j => f ((i + 1) * 5 + j)) st ty_sl96 rfl (by rw [← hsl]; rfl) (by omega) (by omega) ?_ ?_ rfl rfl rfl ?_
  · intro j hj; rw [if_neg (by omega)]; exact st.c0 (by omega)
  · intro j hj; exact hone j hj
  intro w st
  rw [show i + (n - (i + 1)) = n - 1 by omega]
  -- R5.7 0 := slices.go:232 assign
  refine WL.v (by first | exact r_assign (v := .slice _ _ _) rfl | exact r_assign rfl) rfl rfl rfl ?_
  refine WL.fin hK3063 (fun _ _ h => h) ?_
  refine WC.seq fun K3064 hK3064 => ?_
  -- region 6
  refine WC.region ?_
  -- R6.0 27 := slices.go:233 move
  refine WL.v (by first | exact r_move (v := .slice _ _ _) rfl | exact r_move rfl) rfl rfl rfl ?_
  -- R6.1 28 := slices.go:233 move
  refine WL.v (by first | exact r_move (v := .slice _ _ _) rfl | exact r_move rfl) rfl rfl rfl ?_
  -- R6.2 29 := slices.go:233 call
  refine WL.v (by exact r_len (m := n - 1) ty_usl96 rfl) rfl rfl rfl ?_
  -- R6.3 30 := slices.go:233 move
  refine WL.v (by first | exact r_move (v := .int _ _) rfl | exact r_move rfl) rfl rfl rfl ?_
  -- R6.4 31 := slices.go:233 slice
  refine WL.v (by exact r_slS (l := n - 1) (h := n) (m := c) ty_sl96 rfl ⟨_, rfl⟩ ⟨_, rfl⟩ rfl (fun h => by cases h) (by omega) (by omega) (by omega) (by omega)) rfl rfl rfl ?_
  -- R6.5 None := slices.go:233 call
  refine WL.clear (k := 1) (N := c * 5) st ty_sl96 ty_zero102 rfl (by decide) (by omega) (by decide) (by rw [show n - (n - 1) = 1 by omega]; rfl) (by omega) rfl rfl ?_
  intro w st
  refine WL.fin hK3064 (fun _ _ h => h) ?_
  refine WC.seq fun K3065 hK3065 => ?_
  -- region 7
  refine WC.region ?_
  -- R7.0 32 := slices.go:234 move
  refine WL.v (by first | exact r_move (v := .slice _ _ _) rfl | exact r_move rfl) rfl rfl rfl ?_
  -- R7.1 6 := slices.go:234 assign
  refine WL.v (by first | exact r_assign (v := .slice _ _ _) rfl | exact r_assign rfl) rfl rfl rfl ?_
  refine WL.fin hK3065 (fun _ _ h => h) ?_
  refine WC.ret1 Tryz.results121 (fun _ _ h => h) rfl ?_
  have hl : (P.take i ++ P.drop (i + 1)).length = n - 1 := by rw [List.length_append, List.length_take, List.length_drop]; omega
  refine ⟨_, rfl, [_], ?_, st⟩
  rw [← hl]
  refine LO.of (by omega) hc2 fun k x hx j hj => ?_
  have hk : k < n - 1 := by rw [← hl]; exact (List.getElem?_eq_some_iff.1 hx).1
  rw [upds_eq, if_neg (by omega), upds_eq]
  by_cases hki : k < i
  · rw [if_neg (by omega)]
    rw [List.getElem?_append_left (by rw [List.length_take]; omega), List.getElem?_take_of_lt hki] at hx
    exact hf k x hx j hj
  · rw [if_pos (by omega)]
    rw [List.getElem?_append_right (by rw [List.length_take]; omega), List.length_take, List.getElem?_drop] at hx
    rw [← hf (i + 1 + (k - min i P.length)) x hx j hj]
    show f _ = f _
    congr 1
    have : min i P.length = i := by omega
    rw [this]
    omega
end Go.Proofs.Qxb6500834aGreatDoor

