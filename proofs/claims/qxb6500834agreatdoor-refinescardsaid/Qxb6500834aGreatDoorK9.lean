import Derived.Test.Qxb6500834aGreatDoorK8
set_option linter.unusedVariables false
set_option linter.unusedSimpArgs false
set_option maxRecDepth 20000
namespace Go.Proofs.Qxb6500834aGreatDoor
open Go.RowKit Go.E1 Go.Kern
variable {w0 : World} {L L' l I J K K' X : List HI} {w : World} {M : KM} {s : KS} {XQ : Nat → List HI}
variable {br bp bm mode now armed t r : Nat} {held claim : Nat → Nat → Nat} {qv : Nat → Value} {tk : Nat → TK} {cells : Nat → Nat} {births : Nat} {ov v : Value} {Q : List (Nat × Nat)} {queue : Nat → List (Nat × Nat)}

def hM (held : Nat → Nat → Nat) (i : Nat) : Value := .int .i64 (held (i / 20) (i % 20) : Nat)
theorem rF_hM {i : Nat} (h : i < 320) : rF held qv i = hM held i := if_pos h
theorem pF_hM {i : Nat} (h : i < 320) : pF mode claim (1 + i) = hM claim i := by
  unfold pF hM
  rw [if_neg (by omega), show 1 + i - 1 = i by omega]
theorem matrix_ok (hm : rI br held qv ∈ l) (st : S0 w0 l w) :
    Calls Tryz.prog 90 #[.pointer (some ⟨br, 0, none⟩)] w (Ret fun v w' => v = .agg (mkA 320 (hM held)) ∧ S0 w0 l w') := by
  refine enter [.pointer (some ⟨br, 0, none⟩)] Tryz.func90 rfl Tryz.ntmps90 rfl ?_
  show WC _ _ _ 7 [] [(0, .pointer (some ⟨br, 0, none⟩))] _
  refine WC.seq fun K310 hK310 => ?_
  -- region 0
  refine WC.region ?_
  -- R0.0 2 := resourcem.go:46 alloc
  refine WL.allocN (m := 320) st ty_zeroN45 rfl rfl ?_
  intro b2 w st
  refine WL.fin hK310 (fun _ _ h => h) ?_
  refine WC.seq fun K311 hK311 => ?_
  -- region 1
  refine WC.region ?_
  -- R1.0 3 := resourcem.go:46 move
  refine WL.v (by first | exact r_move (v := .pointer _) rfl | exact r_move rfl) rfl rfl rfl ?_
  -- R1.1 4 := resourcem.go:46 nilCheck
  refine WL.v (by exact r_nilCheck rfl) rfl rfl rfl ?_
  -- R1.2 5 := resourcem.go:46 fieldAddr
  refine WL.v (by exact r_field ty_fld149_0 rfl) rfl rfl rfl ?_
  -- R1.3 6 := resourcem.go:46 load
  refine WL.v (by exact r_loadN (f := hM held) ty_agg45 rfl (fun i hi => by rw [st.drop.cell hm (by omega), show 0 + 0 + i = i by omega, rF_hM hi])) rfl rfl rfl ?_
  -- R1.4 None := resourcem.go:46 store
  refine WL.storeN (st) ty_agg45 rfl rfl (fun _ _ => rfl) (by omega) rfl rfl ?_
  intro w st
  refine WL.fin hK311 (fun _ _ h => h) ?_
  refine WC.retCN (f := hM held) Tryz.results90 (fun _ _ h => h) rfl ty_agg45 rfl (fun i hi => by rw [st.c0 (by omega), upds_eq, if_pos (by omega), show 0 + i - 0 = i by omega]) ?_
  exact ⟨_, rfl, rfl, st.drop⟩
theorem claims_ok (hm : pI bp mode claim ∈ l) (st : S0 w0 l w) :
    Calls Tryz.prog 91 #[.pointer (some ⟨bp, 0, none⟩)] w (Ret fun v w' => v = .agg (mkA 320 (hM claim)) ∧ S0 w0 l w') := by
  refine enter [.pointer (some ⟨bp, 0, none⟩)] Tryz.func91 rfl Tryz.ntmps91 rfl ?_
  show WC _ _ _ 7 [] [(0, .pointer (some ⟨bp, 0, none⟩))] _
  refine WC.seq fun K312 hK312 => ?_
  -- region 0
  refine WC.region ?_
  -- R0.0 2 := policym.go:30 alloc
  refine WL.allocN (m := 320) st ty_zeroN45 rfl rfl ?_
  intro b2 w st
  refine WL.fin hK312 (fun _ _ h => h) ?_
  refine WC.seq fun K313 hK313 => ?_
  -- region 1
  refine WC.region ?_
  -- R1.0 3 := policym.go:30 move
  refine WL.v (by first | exact r_move (v := .pointer _) rfl | exact r_move rfl) rfl rfl rfl ?_
  -- R1.1 4 := policym.go:30 nilCheck
  refine WL.v (by exact r_nilCheck rfl) rfl rfl rfl ?_
  -- R1.2 5 := policym.go:30 fieldAddr
  refine WL.v (by exact r_field ty_fld131_1 rfl) rfl rfl rfl ?_
  -- R1.3 6 := policym.go:30 load
  refine WL.v (by exact r_loadN (f := hM claim) ty_agg45 rfl (fun i hi => by rw [st.drop.cell hm (by omega), show 0 + 1 + i = 1 + i by omega, pF_hM hi])) rfl rfl rfl ?_
  -- R1.4 None := policym.go:30 store
  refine WL.storeN (st) ty_agg45 rfl rfl (fun _ _ => rfl) (by omega) rfl rfl ?_
  intro w st
  refine WL.fin hK313 (fun _ _ h => h) ?_
  refine WC.retCN (f := hM claim) Tryz.results91 (fun _ _ h => h) rfl ty_agg45 rfl (fun i hi => by rw [st.c0 (by omega), upds_eq, if_pos (by omega), show 0 + i - 0 = i by omega]) ?_
  exact ⟨_, rfl, rfl, st.drop⟩
theorem forgetP_ok (ht : t < 16) (st : S0 w0 (pI bp mode claim :: l) w) :
    Calls Tryz.prog 112 #[.pointer (some ⟨bp, 0, none⟩), .int .i64 (t : Nat)] w (Ret fun v w' => v = .tuple #[] ∧ S0 w0 (pI bp mode (zapRow claim t) :: l) w') := by
  refine enter [.pointer (some ⟨bp, 0, none⟩), .int .i64 (t : Nat)] Tryz.func112 rfl Tryz.ntmps112 rfl ?_
  show WC _ _ _ 10 [] [(0, .pointer (some ⟨bp, 0, none⟩)), (1, .int .i64 (t : Nat))] _
  -- region 0
  refine WC.region ?_
  -- R0.0 4 := policym.go:36 move
  refine WL.v (by first | exact r_move (v := .pointer _) rfl | exact r_move rfl) rfl rfl rfl ?_
  -- R0.1 5 := policym.go:36 move
  refine WL.v (by first | exact r_move (v := .int _ _) rfl | exact r_move rfl) rfl rfl rfl ?_
  -- R0.2 6 := policym.go:36 build
  refine WL.v (by exact r_build (ps := []) (vs := [_, _, _, _, _, _, _, _, _, _, _, _, _, _, _, _, _, _, _, _]) ty_pl44 ty_zero44 rfl (fill_nil)) rfl rfl rfl ?_
  -- R0.3 7 := policym.go:36 nilCheck
  refine WL.v (by exact r_nilCheck rfl) rfl rfl rfl ?_
  -- R0.4 8 := policym.go:36 fieldAddr
  refine WL.v (by exact r_field ty_fld131_1 rfl) rfl rfl rfl ?_
  -- R0.5 9 := policym.go:36 indexAddr
  refine WL.v (by exact r_indexA ty_ar45 rfl rfl rfl (by omega)) rfl rfl rfl ?_
  -- R0.6 None := policym.go:36 store
  first | refine WL.storeW (vs := [_, _, _, _, _, _, _, _, _, _, _, _, _, _, _, _, _, _, _, _]) st ty_agg44 rfl rfl rfl rfl rfl rfl ?_ | refine WL.storeL (vs := [_, _, _, _, _, _, _, _, _, _, _, _, _, _, _, _, _, _, _, _]) st ty_agg44 rfl rfl rfl rfl (by first | decide | omega) rfl rfl ?_ | refine WL.storeW (vs := [_, _, _, _, _, _, _, _, _, _, _, _, _, _, _, _, _, _, _, _]) st.front1 ty_agg44 rfl rfl rfl rfl rfl rfl ?_ | refine WL.storeL (vs := [_, _, _, _, _, _, _, _, _, _, _, _, _, _, _, _, _, _, _, _]) st.front1 ty_agg44 rfl rfl rfl rfl (by first | decide | omega) rfl rfl ?_ | refine WL.storeW (vs := [_, _, _, _, _, _, _, _, _, _, _, _, _, _, _, _, _, _, _, _]) st.front2 ty_agg44 rfl rfl rfl rfl rfl rfl ?_ | refine WL.storeL (vs := [_, _, _, _, _, _, _, _, _, _, _, _, _, _, _, _, _, _, _, _]) st.front2 ty_agg44 rfl rfl rfl rfl (by first | decide | omega) rfl rfl ?_ | refine WL.storeW (vs := [_, _, _, _, _, _, _, _, _, _, _, _, _, _, _, _, _, _, _, _]) st.front3 ty_agg44 rfl rfl rfl rfl rfl rfl ?_ | refine WL.storeL (vs := [_, _, _, _, _, _, _, _, _, _, _, _, _, _, _, _, _, _, _, _]) st.front3 ty_agg44 rfl rfl rfl rfl (by first | decide | omega) rfl rfl ?_ | refine WL.storeW (vs := [_, _, _, _, _, _, _, _, _, _, _, _, _, _, _, _, _, _, _, _]) st.front4 ty_agg44 rfl rfl rfl rfl rfl rfl ?_ | refine WL.storeL (vs := [_, _, _, _, _, _, _, _, _, _, _, _, _, _, _, _, _, _, _, _]) st.front4 ty_agg44 rfl rfl rfl rfl (by first | decide | omega) rfl rfl ?_ | refine WL.storeW (vs := [_, _, _, _, _, _, _, _, _, _, _, _, _, _, _, _, _, _, _, _]) st.front5 ty_agg44 rfl rfl rfl rfl rfl rfl ?_ | refine WL.storeL (vs := [_, _, _, _, _, _, _, _, _, _, _, _, _, _, _, _, _, _, _, _]) st.front5 ty_agg44 rfl rfl rfl rfl (by first | decide | omega) rfl rfl ?_ | refine WL.storeW (vs := [_, _, _, _, _, _, _, _, _, _, _, _, _, _, _, _, _, _, _, _]) st.front6 ty_agg44 rfl rfl rfl rfl rfl rfl ?_ | refine WL.storeL (vs := [_, _, _, _, _, _, _, _, _, _, _, _, _, _, _, _, _, _, _, _]) st.front6 ty_agg44 rfl rfl rfl rfl (by first | decide | omega) rfl rfl ?_ | refine WL.storeW (vs := [_, _, _, _, _, _, _, _, _, _, _, _, _, _, _, _, _, _, _, _]) st.front7 ty_agg44 rfl rfl rfl rfl rfl rfl ?_ | refine WL.storeL (vs := [_, _, _, _, _, _, _, _, _, _, _, _, _, _, _, _, _, _, _, _]) st.front7 ty_agg44 rfl rfl rfl rfl (by first | decide | omega) rfl rfl ?_ | refine WL.storeW (vs := [_, _, _, _, _, _, _, _, _, _, _, _, _, _, _, _, _, _, _, _]) st.front8 ty_agg44 rfl rfl rfl rfl rfl rfl ?_ | refine WL.storeL (vs := [_, _, _, _, _, _, _, _, _, _, _, _, _, _, _, _, _, _, _, _]) st.front8 ty_agg44 rfl rfl rfl rfl (by first | decide | omega) rfl rfl ?_
  intro w st
  refine WL.end0 Tryz.results112 (fun _ _ h => h) ?_
  refine ⟨_, rfl, rfl, stE (pF_zap ht ?_) st⟩
  intro i hi
  match i with
  | 0 | 1 | 2 | 3 | 4 | 5 | 6 | 7 | 8 | 9 | 10 | 11 | 12 | 13 | 14 | 15 | 16 | 17 | 18 | 19 => rfl
  | i + 20 => omega
def declareP (r : Nat) (u : Int) (holds : Bool) : Int := if u < 0 ∨ (totP r : Int) < u then 21 else if holds then 22 else 0
theorem declareL_ok {u : Int} {holds : Bool} (ht : t < 16) (hr : r < 20) (st : S0 w0 (pI bp mode claim :: l) w) :
    Calls Tryz.prog 101 #[.pointer (some ⟨bp, 0, none⟩), .int .i64 (t : Nat), .int .i64 (r : Nat), .int .i64 u, .bool holds] w (Ret fun v w' => v = .int .i64 (declareP r u holds) ∧ S0 w0 (pI bp mode (if declareP r u holds = 0 then upd2 claim t r u.toNat else claim) :: l) w') := by
  by_cases h1 : u < 0
  · have e : declareP r u holds = 21 := if_pos (.inl h1)
    rw [e, if_neg (by decide)]
    refine enter [.pointer (some ⟨bp, 0, none⟩), .int .i64 (t : Nat), .int .i64 (r : Nat), .int .i64 u, .bool holds] Tryz.func101 rfl Tryz.ntmps101 rfl ?_
    show WC _ _ _ 28 [] [(0, .pointer (some ⟨bp, 0, none⟩)), (1, .int .i64 (t : Nat)), (2, .int .i64 (r : Nat)), (3, .int .i64 u), (4, .bool holds)] _
    refine WC.seq fun K314 hK314 => ?_
    -- region 0
    refine WC.region ?_
    -- R0.0 10 := policym.go:18 assign
    refine WL.v (by first | exact r_assign (v := .int _ _) rfl | exact r_assign rfl) rfl rfl rfl ?_
    refine WL.fin hK314 (fun _ _ h => h) ?_
    refine WC.seq fun K315 hK315 => ?_
    refine WC.seq fun K316 hK316 => ?_
    -- region 1
    refine WC.region ?_
    -- R1.0 11 := policym.go:19 move
    refine WL.v (by first | exact r_move (v := .int _ _) rfl | exact r_move rfl) rfl rfl rfl ?_
    -- R1.1 12 := policym.go:19 binOp
    refine WL.v (by first | exact r_lss rfl rfl (decide_eq_true (by omega)) | exact r_lss rfl rfl (decide_eq_false (by omega)) | exact r_lss rfl rfl rfl) rfl rfl rfl ?_
    -- R1.2 13 := policym.go:19 move
    refine WL.v (by first | exact r_move (v := .bool _) rfl | exact r_move rfl) rfl rfl rfl ?_
    -- R1.3 14 := policym.go:19 move
    refine WL.no rfl rfl ?_
    -- R1.4 15 := policym.go:19 move
    refine WL.no rfl rfl ?_
    -- R1.5 16 := policym.go:19 call
    refine WL.no rfl rfl ?_
    -- R1.6 17 := policym.go:19 binOp
    refine WL.no rfl rfl ?_
    -- R1.7 18 := policym.go:19 pick
    refine WL.v (by first | exact r_pickT (v := .bool _) rfl rfl | exact r_pickF (v := .bool _) rfl rfl) rfl rfl rfl ?_
    refine WL.fin hK316 (fun _ _ h => h) ?_
    refine WC.condT rfl rfl ?_
    refine WC.seq fun K317 hK317 => ?_
    -- region 2
    refine WC.region ?_
    -- R2.0 10 := policym.go:20 assign
    refine WL.v (by first | exact r_assign (v := .int _ _) rfl | exact r_assign rfl) rfl rfl rfl ?_
    refine WL.fin hK317 (fun _ _ h => h) ?_
    refine WC.ret1 Tryz.results101 (fun _ _ h => h) rfl ?_
    exact ⟨_, rfl, rfl, st⟩
  by_cases h2 : (totP r : Int) < u
  · have e : declareP r u holds = 21 := if_pos (.inr h2)
    rw [e, if_neg (by decide)]
    refine enter [.pointer (some ⟨bp, 0, none⟩), .int .i64 (t : Nat), .int .i64 (r : Nat), .int .i64 u, .bool holds] Tryz.func101 rfl Tryz.ntmps101 rfl ?_
    show WC _ _ _ 28 [] [(0, .pointer (some ⟨bp, 0, none⟩)), (1, .int .i64 (t : Nat)), (2, .int .i64 (r : Nat)), (3, .int .i64 u), (4, .bool holds)] _
    refine WC.seq fun K318 hK318 => ?_
    -- region 0
    refine WC.region ?_
    -- R0.0 10 := policym.go:18 assign
    refine WL.v (by first | exact r_assign (v := .int _ _) rfl | exact r_assign rfl) rfl rfl rfl ?_
    refine WL.fin hK318 (fun _ _ h => h) ?_
    refine WC.seq fun K319 hK319 => ?_
    refine WC.seq fun K320 hK320 => ?_
    -- region 1
    refine WC.region ?_
    -- R1.0 11 := policym.go:19 move
    refine WL.v (by first | exact r_move (v := .int _ _) rfl | exact r_move rfl) rfl rfl rfl ?_
    -- R1.1 12 := policym.go:19 binOp
    refine WL.v (by first | exact r_lss rfl rfl (decide_eq_true (by omega)) | exact r_lss rfl rfl (decide_eq_false (by omega)) | exact r_lss rfl rfl rfl) rfl rfl rfl ?_
    -- R1.2 13 := policym.go:19 move
    refine WL.v (by first | exact r_move (v := .bool _) rfl | exact r_move rfl) rfl rfl rfl ?_
    -- R1.3 14 := policym.go:19 move
    refine WL.v (by first | exact r_move (v := .int _ _) rfl | exact r_move rfl) rfl rfl rfl ?_
    -- R1.4 15 := policym.go:19 move
    refine WL.v (by first | exact r_move (v := .int _ _) rfl | exact r_move rfl) rfl rfl rfl ?_
    -- R1.5 16 := policym.go:19 call
    refine WL.call (r_call ty_call58 rfl) rfl rfl rfl (total_ok st) ?_
    rintro _ w ⟨rfl, st⟩
    -- R1.6 17 := policym.go:19 binOp
    refine WL.v (by first | exact r_gtr rfl rfl (decide_eq_true (by omega)) | exact r_gtr rfl rfl (decide_eq_false (by omega)) | exact r_gtr rfl rfl rfl) rfl rfl rfl ?_
    -- R1.7 18 := policym.go:19 pick
    refine WL.v (by first | exact r_pickT (v := .bool _) rfl rfl | exact r_pickF (v := .bool _) rfl rfl) rfl rfl rfl ?_
    refine WL.fin hK320 (fun _ _ h => h) ?_
    refine WC.condT rfl rfl ?_
    refine WC.seq fun K321 hK321 => ?_
    -- region 2
    refine WC.region ?_
    -- R2.0 10 := policym.go:20 assign
    refine WL.v (by first | exact r_assign (v := .int _ _) rfl | exact r_assign rfl) rfl rfl rfl ?_
    refine WL.fin hK321 (fun _ _ h => h) ?_
    refine WC.ret1 Tryz.results101 (fun _ _ h => h) rfl ?_
    exact ⟨_, rfl, rfl, st⟩
  have e : declareP r u holds = if holds then 22 else 0 := if_neg (by omega)
  rw [e]
  cases holds
  · obtain ⟨n, rfl⟩ : ∃ n : Nat, u = n := ⟨u.toNat, by omega⟩
    rw [show (if (false = true) then (22 : Int) else 0) = 0 from rfl, if_pos rfl, Int.toNat_natCast]
    refine enter [.pointer (some ⟨bp, 0, none⟩), .int .i64 (t : Nat), .int .i64 (r : Nat), .int .i64 (n : Nat), .bool false] Tryz.func101 rfl Tryz.ntmps101 rfl ?_
    show WC _ _ _ 28 [] [(0, .pointer (some ⟨bp, 0, none⟩)), (1, .int .i64 (t : Nat)), (2, .int .i64 (r : Nat)), (3, .int .i64 (n : Nat)), (4, .bool false)] _
    refine WC.seq fun K322 hK322 => ?_
    -- region 0
    refine WC.region ?_
    -- R0.0 10 := policym.go:18 assign
    refine WL.v (by first | exact r_assign (v := .int _ _) rfl | exact r_assign rfl) rfl rfl rfl ?_
    refine WL.fin hK322 (fun _ _ h => h) ?_
    refine WC.seq fun K323 hK323 => ?_
    refine WC.seq fun K324 hK324 => ?_
    -- region 1
    refine WC.region ?_
    -- R1.0 11 := policym.go:19 move
    refine WL.v (by first | exact r_move (v := .int _ _) rfl | exact r_move rfl) rfl rfl rfl ?_
    -- R1.1 12 := policym.go:19 binOp
    refine WL.v (by first | exact r_lss rfl rfl (decide_eq_true (by omega)) | exact r_lss rfl rfl (decide_eq_false (by omega)) | exact r_lss rfl rfl rfl) rfl rfl rfl ?_
    -- R1.2 13 := policym.go:19 move
    refine WL.v (by first | exact r_move (v := .bool _) rfl | exact r_move rfl) rfl rfl rfl ?_
    -- R1.3 14 := policym.go:19 move
    refine WL.v (by first | exact r_move (v := .int _ _) rfl | exact r_move rfl) rfl rfl rfl ?_
    -- R1.4 15 := policym.go:19 move
    refine WL.v (by first | exact r_move (v := .int _ _) rfl | exact r_move rfl) rfl rfl rfl ?_
    -- R1.5 16 := policym.go:19 call
    refine WL.call (r_call ty_call58 rfl) rfl rfl rfl (total_ok st) ?_
    rintro _ w ⟨rfl, st⟩
    -- R1.6 17 := policym.go:19 binOp
    refine WL.v (by first | exact r_gtr rfl rfl (decide_eq_true (by omega)) | exact r_gtr rfl rfl (decide_eq_false (by omega)) | exact r_gtr rfl rfl rfl) rfl rfl rfl ?_
    -- R1.7 18 := policym.go:19 pick
    refine WL.v (by first | exact r_pickT (v := .bool _) rfl rfl | exact r_pickF (v := .bool _) rfl rfl) rfl rfl rfl ?_
    refine WL.fin hK324 (fun _ _ h => h) ?_
    refine WC.condF rfl rfl ?_
    refine WC.skipF hK323 (fun _ _ h => h) ?_
    refine WC.seq fun K325 hK325 => ?_
    refine WC.seq fun K326 hK326 => ?_
    -- region 3
    refine WC.region ?_
    -- R3.0 19 := policym.go:22 move
    refine WL.v (by first | exact r_move (v := .bool _) rfl | exact r_move rfl) rfl rfl rfl ?_
    refine WL.fin hK326 (fun _ _ h => h) ?_
    refine WC.condF rfl rfl ?_
    refine WC.skipF hK325 (fun _ _ h => h) ?_
    refine WC.seq fun K327 hK327 => ?_
    -- region 5
    refine WC.region ?_
    -- R5.0 20 := policym.go:25 move
    refine WL.v (by first | exact r_move (v := .pointer _) rfl | exact r_move rfl) rfl rfl rfl ?_
    -- R5.1 21 := policym.go:25 move
    refine WL.v (by first | exact r_move (v := .int _ _) rfl | exact r_move rfl) rfl rfl rfl ?_
    -- R5.2 22 := policym.go:25 move
    refine WL.v (by first | exact r_move (v := .int _ _) rfl | exact r_move rfl) rfl rfl rfl ?_
    -- R5.3 23 := policym.go:25 move
    refine WL.v (by first | exact r_move (v := .int _ _) rfl | exact r_move rfl) rfl rfl rfl ?_
    -- R5.4 24 := policym.go:25 nilCheck
    refine WL.v (by exact r_nilCheck rfl) rfl rfl rfl ?_
    -- R5.5 25 := policym.go:25 fieldAddr
    refine WL.v (by exact r_field ty_fld131_1 rfl) rfl rfl rfl ?_
    -- R5.6 26 := policym.go:25 indexAddr
    refine WL.v (by exact r_indexA ty_ar45 rfl rfl rfl (by omega)) rfl rfl rfl ?_
    -- R5.7 27 := policym.go:25 indexAddr
    refine WL.v (by exact r_indexA ty_ar44 rfl rfl rfl (by omega)) rfl rfl rfl ?_
    -- R5.8 None := policym.go:25 store
    first | refine WL.store (v := .int _ _) st ty_one3 rfl rfl rfl (by first | decide | omega) rfl rfl ?_ | refine WL.store (v := _) st ty_one3 rfl rfl rfl (by first | decide | omega) rfl rfl ?_ | refine WL.store (v := .int _ _) st.front1 ty_one3 rfl rfl rfl (by first | decide | omega) rfl rfl ?_ | refine WL.store (v := _) st.front1 ty_one3 rfl rfl rfl (by first | decide | omega) rfl rfl ?_ | refine WL.store (v := .int _ _) st.front2 ty_one3 rfl rfl rfl (by first | decide | omega) rfl rfl ?_ | refine WL.store (v := _) st.front2 ty_one3 rfl rfl rfl (by first | decide | omega) rfl rfl ?_ | refine WL.store (v := .int _ _) st.front3 ty_one3 rfl rfl rfl (by first | decide | omega) rfl rfl ?_ | refine WL.store (v := _) st.front3 ty_one3 rfl rfl rfl (by first | decide | omega) rfl rfl ?_ | refine WL.store (v := .int _ _) st.front4 ty_one3 rfl rfl rfl (by first | decide | omega) rfl rfl ?_ | refine WL.store (v := _) st.front4 ty_one3 rfl rfl rfl (by first | decide | omega) rfl rfl ?_ | refine WL.store (v := .int _ _) st.front5 ty_one3 rfl rfl rfl (by first | decide | omega) rfl rfl ?_ | refine WL.store (v := _) st.front5 ty_one3 rfl rfl rfl (by first | decide | omega) rfl rfl ?_ | refine WL.store (v := .int _ _) st.front6 ty_one3 rfl rfl rfl (by first | decide | omega) rfl rfl ?_ | refine WL.store (v := _) st.front6 ty_one3 rfl rfl rfl (by first | decide | omega) rfl rfl ?_ | refine WL.store (v := .int _ _) st.front7 ty_one3 rfl rfl rfl (by first | decide | omega) rfl rfl ?_ | refine WL.store (v := _) st.front7 ty_one3 rfl rfl rfl (by first | decide | omega) rfl rfl ?_ | refine WL.store (v := .int _ _) st.front8 ty_one3 rfl rfl rfl (by first | decide | omega) rfl rfl ?_ | refine WL.store (v := _) st.front8 ty_one3 rfl rfl rfl (by first | decide | omega) rfl rfl ?_
    intro w st
    refine WL.fin hK327 (fun _ _ h => h) ?_
    refine WC.seq fun K328 hK328 => ?_
    -- region 6
    refine WC.region ?_
    -- R6.0 10 := policym.go:26 assign
    refine WL.v (by first | exact r_assign (v := .int _ _) rfl | exact r_assign rfl) rfl rfl rfl ?_
    refine WL.fin hK328 (fun _ _ h => h) ?_
    refine WC.ret1 Tryz.results101 (fun _ _ h => h) rfl ?_
    exact ⟨_, rfl, rfl, stE (pF_set ht hr) st⟩
  · rw [show (if (true = true) then (22 : Int) else 0) = 22 from rfl, if_neg (by decide)]
    refine enter [.pointer (some ⟨bp, 0, none⟩), .int .i64 (t : Nat), .int .i64 (r : Nat), .int .i64 u, .bool true] Tryz.func101 rfl Tryz.ntmps101 rfl ?_
    show WC _ _ _ 28 [] [(0, .pointer (some ⟨bp, 0, none⟩)), (1, .int .i64 (t : Nat)), (2, .int .i64 (r : Nat)), (3, .int .i64 u), (4, .bool true)] _
    refine WC.seq fun K329 hK329 => ?_
    -- region 0
    refine WC.region ?_
    -- R0.0 10 := policym.go:18 assign
    refine WL.v (by first | exact r_assign (v := .int _ _) rfl | exact r_assign rfl) rfl rfl rfl ?_
    refine WL.fin hK329 (fun _ _ h => h) ?_
    refine WC.seq fun K330 hK330 => ?_
    refine WC.seq fun K331 hK331 => ?_
    -- region 1
    refine WC.region ?_
    -- R1.0 11 := policym.go:19 move
    refine WL.v (by first | exact r_move (v := .int _ _) rfl | exact r_move rfl) rfl rfl rfl ?_
    -- R1.1 12 := policym.go:19 binOp
    refine WL.v (by first | exact r_lss rfl rfl (decide_eq_true (by omega)) | exact r_lss rfl rfl (decide_eq_false (by omega)) | exact r_lss rfl rfl rfl) rfl rfl rfl ?_
    -- R1.2 13 := policym.go:19 move
    refine WL.v (by first | exact r_move (v := .bool _) rfl | exact r_move rfl) rfl rfl rfl ?_
    -- R1.3 14 := policym.go:19 move
    refine WL.v (by first | exact r_move (v := .int _ _) rfl | exact r_move rfl) rfl rfl rfl ?_
    -- R1.4 15 := policym.go:19 move
    refine WL.v (by first | exact r_move (v := .int _ _) rfl | exact r_move rfl) rfl rfl rfl ?_
    -- R1.5 16 := policym.go:19 call
    refine WL.call (r_call ty_call58 rfl) rfl rfl rfl (total_ok st) ?_
    rintro _ w ⟨rfl, st⟩
    -- R1.6 17 := policym.go:19 binOp
    refine WL.v (by first | exact r_gtr rfl rfl (decide_eq_true (by omega)) | exact r_gtr rfl rfl (decide_eq_false (by omega)) | exact r_gtr rfl rfl rfl) rfl rfl rfl ?_
    -- R1.7 18 := policym.go:19 pick
    refine WL.v (by first | exact r_pickT (v := .bool _) rfl rfl | exact r_pickF (v := .bool _) rfl rfl) rfl rfl rfl ?_
    refine WL.fin hK331 (fun _ _ h => h) ?_
    refine WC.condF rfl rfl ?_
    refine WC.skipF hK330 (fun _ _ h => h) ?_
    refine WC.seq fun K332 hK332 => ?_
    refine WC.seq fun K333 hK333 => ?_
    -- region 3
    refine WC.region ?_
    -- R3.0 19 := policym.go:22 move
    refine WL.v (by first | exact r_move (v := .bool _) rfl | exact r_move rfl) rfl rfl rfl ?_
    refine WL.fin hK333 (fun _ _ h => h) ?_
    refine WC.condT rfl rfl ?_
    refine WC.seq fun K334 hK334 => ?_
    -- region 4
    refine WC.region ?_
    -- R4.0 10 := policym.go:23 assign
    refine WL.v (by first | exact r_assign (v := .int _ _) rfl | exact r_assign rfl) rfl rfl rfl ?_
    refine WL.fin hK334 (fun _ _ h => h) ?_
    refine WC.ret1 Tryz.results101 (fun _ _ h => h) rfl ?_
    exact ⟨_, rfl, rfl, st⟩

theorem cloneR_ok (hq : QL0 v Q X) (hX : X ⊆ l) (hlen : Q.length ≤ 1000000) (st : S0 w0 l w) :
    Calls Tryz.prog 118 #[v] w (Ret fun u w' => ∃ X', QL0 u Q X' ∧ S0 w0 (X' ++ l) w') := by
  obtain ⟨f, ho, hf⟩ := hq
  rcases ho with ⟨rfl, h0, rfl⟩ | ⟨b, c, rfl, h1, h2, rfl⟩
  · obtain rfl := List.eq_nil_of_length_eq_zero h0
    refine enter [.slice none 0 0] Tryz.func118 rfl Tryz.ntmps118 rfl ?_
    show WC _ _ _ 8 [] [(0, .slice none 0 0)] _
    refine WC.seq fun K335 hK335 => ?_
    -- region 0
    refine WC.region ?_
    -- R0.0 2 := slices.go:355 assign
    refine WL.v (by first | exact r_assign (v := .slice _ _ _) rfl | exact r_assign rfl) rfl rfl rfl ?_
    refine WL.fin hK335 (fun _ _ h => h) ?_
    refine WC.seq fun K336 hK336 => ?_
    refine WC.seq fun K337 hK337 => ?_
    -- region 1
    refine WC.region ?_
    -- R1.0 3 := slices.go:357 move
    refine WL.v (by first | exact r_move (v := .slice _ _ _) rfl | exact r_move rfl) rfl rfl rfl ?_
    -- R1.1 4 := slices.go:357 binOp
    refine WL.v (by first | exact r_sleqT ty_sl46 rfl rfl | exact r_sleqF ty_sl46 rfl rfl) rfl rfl rfl ?_
    refine WL.fin hK337 (fun _ _ h => h) ?_
    refine WC.condT rfl rfl ?_
    refine WC.seq fun K338 hK338 => ?_
    -- region 2
    refine WC.region ?_
    -- R2.0 2 := slices.go:358 assign
    refine WL.v (by first | exact r_assign (v := .slice _ _ _) rfl | exact r_assign rfl) rfl rfl rfl ?_
    refine WL.fin hK338 (fun _ _ h => h) ?_
    refine WC.ret1 Tryz.results118 (fun _ _ h => h) rfl ?_
    exact ⟨_, rfl, [], LO.nil, st⟩
  have hcell : ∀ j, j < Q.length * 2 → ∃ q : Nat × Nat, f j = qE q (j % 2) ∧ Q[j / 2]? = some q := fun j hj => by
    obtain ⟨x, hx⟩ : ∃ x, Q[j / 2]? = some x := ⟨_, List.getElem?_eq_getElem (by omega)⟩
    have := hf (j / 2) x hx (j % 2) (by omega)
    rw [show j / 2 * 2 + j % 2 = j by omega] at this
    exact ⟨x, this, hx⟩
  have hone : ∀ j, j < Q.length * 2 → (f j).oneCell' = true := fun j hj => by
    obtain ⟨x, e, _⟩ := hcell j hj
    rw [e]
    rcases Nat.mod_two_eq_zero_or_one j with h | h <;> rw [h] <;> rfl
  have hrd : ∀ {l' : List HI} {w : World}, S0 w0 (l' ++ l) w → ∀ j, j < Q.length * 2 → w.cell? ⟨b, 0 + j, none⟩ = some (f j) := fun st j hj => by
    rw [st.cell (b := b) (t := 61) (n := c * 2) (f := f) (List.mem_append_right _ (hX (by simp))) (by omega), Nat.zero_add]
  by_cases hQ0 : Q = []
  · subst hQ0
    refine enter [.slice (some ⟨b, 0, none⟩) 0 c] Tryz.func118 rfl Tryz.ntmps118 rfl ?_
    show WC _ _ _ 8 [] [(0, .slice (some ⟨b, 0, none⟩) 0 c)] _
    refine WC.seq fun K339 hK339 => ?_
    -- region 0
    refine WC.region ?_
    -- R0.0 2 := slices.go:355 assign
    refine WL.v (by first | exact r_assign (v := .slice _ _ _) rfl | exact r_assign rfl) rfl rfl rfl ?_
    refine WL.fin hK339 (fun _ _ h => h) ?_
    refine WC.seq fun K340 hK340 => ?_
    refine WC.seq fun K341 hK341 => ?_
    -- region 1
    refine WC.region ?_
    -- R1.0 3 := slices.go:357 move
    refine WL.v (by first | exact r_move (v := .slice _ _ _) rfl | exact r_move rfl) rfl rfl rfl ?_
    -- R1.1 4 := slices.go:357 binOp
    refine WL.v (by first | exact r_sleqT ty_sl46 rfl rfl | exact r_sleqF ty_sl46 rfl rfl) rfl rfl rfl ?_
    refine WL.fin hK341 (fun _ _ h => h) ?_
    refine WC.condF rfl rfl ?_
    refine WC.skipF hK340 (fun _ _ h => h) ?_
    refine WC.seq fun K342 hK342 => ?_
    -- region 3
    refine WC.region ?_
    -- R3.0 5 := slices.go:362 buildSlice
    refine WL.mkslice0 st ty_sl46 rfl rfl ?_
    intro b5 w st
    -- R3.1 6 := slices.go:362 move
    refine WL.v (by first | exact r_move (v := .slice _ _ _) rfl | exact r_move rfl) rfl rfl rfl ?_
    -- R3.2 7 := slices.go:362 call
    refine WL.appendR (nn := 0) (m := 0) (cap := 0) (off := 0) (bx := b) (ox := 0) (c := c) (news := f) st ty_sl46 rfl rfl (by omega) (by omega) (fun j hj => by omega) (fun j hj => by omega) rfl rfl rfl ?_
    intro w st
    -- R3.3 2 := slices.go:362 assign
    refine WL.v (by first | exact r_assign (v := .slice _ _ _) rfl | exact r_assign rfl) rfl rfl rfl ?_
    refine WL.fin hK342 (fun _ _ h => h) ?_
    refine WC.ret1 Tryz.results118 (fun _ _ h => h) rfl ?_
    exact ⟨_, rfl, [_], LO.of (L := []) (c := 0) (Nat.le_refl _) (by omega) (fun i a h => by simp at h), st⟩
  have hpos : 0 < Q.length := List.length_pos_iff.2 hQ0
  refine enter [.slice (some ⟨b, 0, none⟩) Q.length c] Tryz.func118 rfl Tryz.ntmps118 rfl ?_
  show WC _ _ _ 8 [] [(0, .slice (some ⟨b, 0, none⟩) Q.length c)] _
  refine WC.seq fun K343 hK343 => ?_
  -- region 0
  refine WC.region ?_
  -- R0.0 2 := slices.go:355 assign
  refine WL.v (by first | exact r_assign (v := .slice _ _ _) rfl | exact r_assign rfl) rfl rfl rfl ?_
  refine WL.fin hK343 (fun _ _ h => h) ?_
  refine WC.seq fun K344 hK344 => ?_
  refine WC.seq fun K345 hK345 => ?_
  -- region 1
  refine WC.region ?_
  -- R1.0 3 := slices.go:357 move
  refine WL.v (by first | exact r_move (v := .slice _ _ _) rfl | exact r_move rfl) rfl rfl rfl ?_
  -- R1.1 4 := slices.go:357 binOp
  refine WL.v (by first | exact r_sleqT ty_sl46 rfl rfl | exact r_sleqF ty_sl46 rfl rfl) rfl rfl rfl ?_
  refine WL.fin hK345 (fun _ _ h => h) ?_
  refine WC.condF rfl rfl ?_
  refine WC.skipF hK344 (fun _ _ h => h) ?_
  refine WC.seq fun K346 hK346 => ?_
  -- region 3
  refine WC.region ?_
  -- R3.0 5 := slices.go:362 buildSlice
  refine WL.mkslice0 st ty_sl46 rfl rfl ?_
  intro b5 w st
  -- R3.1 6 := slices.go:362 move
  refine WL.v (by first | exact r_move (v := .slice _ _ _) rfl | exact r_move rfl) rfl rfl rfl ?_
  -- R3.2 7 := slices.go:362 call
  refine WL.append (b := b5) (nn := 0) (cap := 0) (m := Q.length) (news := f) st ty_mk46 ty_zero61 rfl (by decide) rfl rfl (by omega) (by omega) hpos (hrd (l' := [_]) st) hone (by omega) (by omega) rfl rfl rfl ?_
  intro b' cap' f' w st h3 h4 h5 h6
  rw [Nat.zero_add]
  -- R3.3 2 := slices.go:362 assign
  refine WL.v (by first | exact r_assign (v := .slice _ _ _) rfl | exact r_assign rfl) rfl rfl rfl ?_
  refine WL.fin hK346 (fun _ _ h => h) ?_
  refine WC.ret1 Tryz.results118 (fun _ _ h => h) rfl ?_
  refine ⟨_, rfl, [_], LO.of (by omega) h4 (fun i a ha j hj => ?_), st⟩
  have hi : i < Q.length := (List.getElem?_eq_some_iff.1 ha).1
  have := h6 (i * 2 + j) (by omega)
  rw [Nat.zero_mul, Nat.zero_add] at this
  rw [this]
  exact hf i a ha j hj
theorem queue_ok (hr : r < 20) (hm : rI br held qv ∈ l) (hq : QL0 (qv r) Q X) (hX : X ⊆ l) (hlen : Q.length ≤ 1000000) (st : S0 w0 l w) :
    Calls Tryz.prog 92 #[.pointer (some ⟨br, 0, none⟩), .int .i64 (r : Nat)] w (Ret fun u w' => ∃ X', QL0 u Q X' ∧ S0 w0 (X' ++ l) w') := by
  refine enter [.pointer (some ⟨br, 0, none⟩), .int .i64 (r : Nat)] Tryz.func92 rfl Tryz.ntmps92 rfl ?_
  show WC _ _ _ 12 [] [(0, .pointer (some ⟨br, 0, none⟩)), (1, .int .i64 (r : Nat))] _
  refine WC.seq fun K347 hK347 => ?_
  -- region 0
  refine WC.region ?_
  -- R0.0 4 := resourcem.go:80 assign
  refine WL.v (by first | exact r_assign (v := .slice _ _ _) rfl | exact r_assign rfl) rfl rfl rfl ?_
  refine WL.fin hK347 (fun _ _ h => h) ?_
  refine WC.seq fun K348 hK348 => ?_
  -- region 1
  refine WC.region ?_
  -- R1.0 5 := resourcem.go:80 move
  refine WL.v (by first | exact r_move (v := .pointer _) rfl | exact r_move rfl) rfl rfl rfl ?_
  -- R1.1 6 := resourcem.go:80 move
  refine WL.v (by first | exact r_move (v := .int _ _) rfl | exact r_move rfl) rfl rfl rfl ?_
  -- R1.2 7 := resourcem.go:80 nilCheck
  refine WL.v (by exact r_nilCheck rfl) rfl rfl rfl ?_
  -- R1.3 8 := resourcem.go:80 fieldAddr
  refine WL.v (by exact r_field ty_fld149_1 rfl) rfl rfl rfl ?_
  -- R1.4 9 := resourcem.go:80 indexAddr
  refine WL.v (by exact r_indexA ty_ar47 rfl rfl rfl (by omega)) rfl rfl rfl ?_
  -- R1.5 10 := resourcem.go:80 load
  refine WL.v (by exact r_load1 (v := qv r) ty_one46 rfl (c_queue st hm hr)) rfl rfl rfl ?_
  -- R1.6 11 := resourcem.go:80 call
  refine WL.call (r_call ty_call118 rfl) rfl rfl rfl (cloneR_ok hq hX hlen st) ?_
  rintro _ w ⟨X', ho, st⟩
  -- R1.7 4 := resourcem.go:80 assign
  refine WL.v (by first | exact r_assign (v := .slice _ _ _) rfl | exact r_assign rfl) rfl rfl rfl ?_
  refine WL.fin hK348 (fun _ _ h => h) ?_
  refine WC.ret1 Tryz.results92 (fun _ _ h => h) rfl ?_
  exact ⟨_, rfl, X', ho, st⟩
end Go.Proofs.Qxb6500834aGreatDoor

