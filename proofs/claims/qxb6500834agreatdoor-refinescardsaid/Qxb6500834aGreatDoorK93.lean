import Derived.Test.Qxb6500834aGreatDoorK92
set_option linter.unusedVariables false
set_option linter.unusedSimpArgs false
set_option maxRecDepth 20000
namespace Go.Proofs.Qxb6500834aGreatDoor
open Go.RowKit Go.E1 Go.Kern
theorem ty_call95 : callT Tryz.prog 95 = true := by kernel_rfl
theorem ty_sl140 : slT Tryz.prog 140 = some (4, 1) := by kernel_rfl
theorem ty_usl140 : Program.underlying Tryz.prog 140 = some (.slice 4) := by kernel_rfl
variable {w0 : World} {l X : List HI} {w : World} {s s' s0 : KS} {t r N n : Nat} {qv qv' : Nat → Value}
variable {P : List PQ} {m : MR} {pv tv v : Value} {mb : Nat → Nat} {bm : Nat} {T : List (Nat × Nat × Nat)} {O : Nat → Nat → Option Nat} {held claim : Nat → Nat → Nat}

/-! slices.Index and slices.Contains over the array of the living. -/
def liX (f : Nat → Bool) (x : Bool) : Int := match (List.range 16).find? (fun i => f i == x) with | some i => i | none => -1
theorem liX_none {f : Nat → Bool} {x : Bool} (h : ∀ i, i < 16 → f i ≠ x) : liX f x = -1 := by
  unfold liX
  rw [List.find?_eq_none.2 fun i hi => by simpa using h i (List.mem_range.1 hi)]
theorem liX_some {f : Nat → Bool} {x : Bool} {k : Nat} (hk : k < 16) (h1 : f k = x) (h2 : ∀ i, i < k → f i ≠ x) : liX f x = k := by
  unfold liX
  have : (List.range 16).find? (fun i => f i == x) = some k := by
    rw [List.find?_range_eq_some]
    exact ⟨by simpa using h1, List.mem_range.2 hk, fun j hj => by simpa using h2 j hj⟩
  rw [this]
theorem indexB_ok {x : Bool} (hm : moI bm m pv tv mb ∈ l) (st : S0 w0 l w) :
    Calls Tryz.prog 95 #[.slice (some ⟨bm, 0 + 4, none⟩) 16 16, .bool x] w (Ret fun u w' => u = .int .i64 (liX m.live x) ∧ S0 w0 l w') := by
  refine enter [.slice (some ⟨bm, 0 + 4, none⟩) 16 16, .bool x] Tryz.func95 rfl Tryz.ntmps95 rfl ?_
  show WC _ _ _ 19 [] [(0, .slice (some ⟨bm, 0 + 4, none⟩) 16 16), (1, .bool x)] _
  refine WC.seq fun K3801 hK3801 => ?_
  -- region 0
  refine WC.region ?_
  -- R0.0 4 := slices.go:96 assign
  refine WL.v (by first | exact r_assign (v := .int _ _) rfl | exact r_assign rfl) rfl rfl rfl ?_
  refine WL.fin hK3801 (fun _ _ h => h) ?_
  refine WC.seq fun K3802 hK3802 => ?_
  refine WC.seq fun K3803 hK3803 => ?_
  -- region 1
  refine WC.region ?_
  -- R1.0 6 := slices.go:97 move
  refine WL.v (by first | exact r_move (v := .slice _ _ _) rfl | exact r_move rfl) rfl rfl rfl ?_
  -- R1.1 7 := slices.go:97 call
  refine WL.v (by exact r_len ty_usl140 rfl) rfl rfl rfl ?_
  -- R1.2 8 := slices.go:97 move
  refine WL.v (by first | exact r_move (v := .int _ _) rfl | exact r_move rfl) rfl rfl rfl ?_
  refine WL.fin hK3803 (fun _ _ h => h) ?_
  refine WC.block ?_
  refine WC.loop (ι := Nat) (fun k => [(0, .slice (some ⟨bm, 0 + 4, none⟩) 16 16), (1, .bool x), (7, .int .i64 ((16 : Nat) : Int)), (8, .int .i64 (k : Nat))])
    (fun k w' => k ≤ 16 ∧ (∀ i, i < k → m.live i ≠ x) ∧ S0 w0 l w') (fun k => 16 - k) 0 ⟨Nat.zero_le _, fun i hi => absurd hi (Nat.not_lt_zero _), st⟩ ?_ ?_
  · skip
    repeat (first | exact sub_nil _ | refine sub_cons rfl rfl ?_)
  clear st
  rintro k w ⟨hk, hno, st⟩ K1 hK1
  by_cases hk16 : k = 16
  · subst hk16
    refine WC.seq fun K3804 hK3804 => ?_
    -- region 2
    refine WC.region ?_
    -- R2.0 9 := slices.go:97 binOp
    refine WL.v (by first | exact r_lss rfl rfl (decide_eq_true (by omega)) | exact r_lss rfl rfl (decide_eq_false (by omega)) | exact r_lss rfl rfl rfl) rfl rfl rfl ?_
    refine WL.fin hK3804 (fun _ _ h => h) ?_
    refine WC.seq fun K3805 hK3805 => ?_
    refine WC.condF rfl rfl ?_
    refine WC.exitF hK3802 (fun _ _ h => h) ?_
    refine WC.seq fun K3806 hK3806 => ?_
    -- region 7
    refine WC.region ?_
    -- R7.0 4 := slices.go:102 assign
    refine WL.v (by first | exact r_assign (v := .int _ _) rfl | exact r_assign rfl) rfl rfl rfl ?_
    refine WL.fin hK3806 (fun _ _ h => h) ?_
    refine WC.ret1 Tryz.results95 (fun _ _ h => h) rfl ?_
    exact ⟨_, rfl, by rw [liX_none hno]; rfl, st⟩
  have hk' : k < 16 := by omega
  by_cases hx : m.live k = x
  · skip
    refine WC.seq fun K3807 hK3807 => ?_
    -- region 2
    refine WC.region ?_
    -- R2.0 9 := slices.go:97 binOp
    refine WL.v (by first | exact r_lss rfl rfl (decide_eq_true (by omega)) | exact r_lss rfl rfl (decide_eq_false (by omega)) | exact r_lss rfl rfl rfl) rfl rfl rfl ?_
    refine WL.fin hK3807 (fun _ _ h => h) ?_
    refine WC.seq fun K3808 hK3808 => ?_
    refine WC.condT rfl rfl ?_
    refine WC.skipF hK3808 (fun _ _ h => h) ?_
    refine WC.seq fun K3809 hK3809 => ?_
    refine WC.block ?_
    refine WC.seq fun K3810 hK3810 => ?_
    -- region 3
    refine WC.region ?_
    -- R3.0 10 := slices.go:97 move
    refine WL.v (by first | exact r_move (v := .int _ _) rfl | exact r_move rfl) rfl rfl rfl ?_
    -- R3.1 5 := slices.go:97 assign
    refine WL.v (by first | exact r_assign (v := .int _ _) rfl | exact r_assign rfl) rfl rfl rfl ?_
    refine WL.fin hK3810 (fun _ _ h => h) ?_
    refine WC.seq fun K3811 hK3811 => ?_
    -- region 4
    refine WC.region ?_
    -- R4.0 11 := slices.go:98 move
    refine WL.v (by first | exact r_move (v := .bool _) rfl | exact r_move rfl) rfl rfl rfl ?_
    -- R4.1 12 := slices.go:98 move
    refine WL.v (by first | exact r_move (v := .slice _ _ _) rfl | exact r_move rfl) rfl rfl rfl ?_
    -- R4.2 13 := slices.go:98 move
    refine WL.v (by first | exact r_move (v := .int _ _) rfl | exact r_move rfl) rfl rfl rfl ?_
    -- R4.3 14 := slices.go:98 indexAddr
    refine WL.v (by exact r_indexS (j := k) ty_sl140 rfl rfl rfl (by omega)) rfl rfl rfl ?_
    -- R4.4 15 := slices.go:98 load
    refine WL.v (by exact r_load1 (v := .bool (m.live k)) ty_one4 rfl (c_mlive hm hk' (by omega) st)) rfl rfl rfl ?_
    -- R4.5 16 := slices.go:98 binOp
    refine WL.v (by exact r_beql (t := true) Tryz.underlying4 rfl rfl (by rw [hx]; simp)) rfl rfl rfl ?_
    refine WL.fin hK3811 (fun _ _ h => h) ?_
    refine WC.condT rfl rfl ?_
    refine WC.seq fun K3812 hK3812 => ?_
    -- region 5
    refine WC.region ?_
    -- R5.0 17 := slices.go:99 move
    refine WL.v (by first | exact r_move (v := .int _ _) rfl | exact r_move rfl) rfl rfl rfl ?_
    -- R5.1 4 := slices.go:99 assign
    refine WL.v (by first | exact r_assign (v := .int _ _) rfl | exact r_assign rfl) rfl rfl rfl ?_
    refine WL.fin hK3812 (fun _ _ h => h) ?_
    refine WC.ret1 Tryz.results95 (fun _ _ h => h) rfl ?_
    exact ⟨_, rfl, by rw [liX_some hk' hx hno]; rfl, st⟩
  · skip
    refine WC.seq fun K3813 hK3813 => ?_
    -- region 2
    refine WC.region ?_
    -- R2.0 9 := slices.go:97 binOp
    refine WL.v (by first | exact r_lss rfl rfl (decide_eq_true (by omega)) | exact r_lss rfl rfl (decide_eq_false (by omega)) | exact r_lss rfl rfl rfl) rfl rfl rfl ?_
    refine WL.fin hK3813 (fun _ _ h => h) ?_
    refine WC.seq fun K3814 hK3814 => ?_
    refine WC.condT rfl rfl ?_
    refine WC.skipF hK3814 (fun _ _ h => h) ?_
    refine WC.seq fun K3815 hK3815 => ?_
    refine WC.block ?_
    refine WC.seq fun K3816 hK3816 => ?_
    -- region 3
    refine WC.region ?_
    -- R3.0 10 := slices.go:97 move
    refine WL.v (by first | exact r_move (v := .int _ _) rfl | exact r_move rfl) rfl rfl rfl ?_
    -- R3.1 5 := slices.go:97 assign
    refine WL.v (by first | exact r_assign (v := .int _ _) rfl | exact r_assign rfl) rfl rfl rfl ?_
    refine WL.fin hK3816 (fun _ _ h => h) ?_
    refine WC.seq fun K3817 hK3817 => ?_
    -- region 4
    refine WC.region ?_
    -- R4.0 11 := slices.go:98 move
    refine WL.v (by first | exact r_move (v := .bool _) rfl | exact r_move rfl) rfl rfl rfl ?_
    -- R4.1 12 := slices.go:98 move
    refine WL.v (by first | exact r_move (v := .slice _ _ _) rfl | exact r_move rfl) rfl rfl rfl ?_
    -- R4.2 13 := slices.go:98 move
    refine WL.v (by first | exact r_move (v := .int _ _) rfl | exact r_move rfl) rfl rfl rfl ?_
    -- R4.3 14 := slices.go:98 indexAddr
    refine WL.v (by exact r_indexS (j := k) ty_sl140 rfl rfl rfl (by omega)) rfl rfl rfl ?_
    -- R4.4 15 := slices.go:98 load
    refine WL.v (by exact r_load1 (v := .bool (m.live k)) ty_one4 rfl (c_mlive hm hk' (by omega) st)) rfl rfl rfl ?_
    -- R4.5 16 := slices.go:98 binOp
    refine WL.v (by exact r_beql (t := false) Tryz.underlying4 rfl rfl (by simpa using fun e => hx e.symm)) rfl rfl rfl ?_
    refine WL.fin hK3817 (fun _ _ h => h) ?_
    refine WC.condF rfl rfl ?_
    refine WC.skipF hK3815 (fun _ _ h => h) ?_
    -- region 6
    refine WC.region ?_
    -- R6.0 18 := slices.go:97 binOp
    refine WL.v (by first | exact r_add rfl rfl (wi64 (by omega) (by omega)) | exact r_add rfl rfl rfl) rfl rfl rfl ?_
    -- R6.1 8 := slices.go:97 move
    refine WL.v (by first | exact r_move (v := .int _ _) rfl | exact r_move rfl) rfl rfl rfl ?_
    refine WL.next hK1 (fun _ _ h => h) (k + 1) ⟨hk', fun i hi => by rcases Nat.lt_succ_iff_lt_or_eq.1 hi with h | rfl; exact hno i h; exact hx, st⟩ (by omega) (by repeat (first | exact sub_nil _ | refine sub_cons rfl rfl ?_))
theorem anyLive_iff : anyLive s = true ↔ ∃ i, i < 16 ∧ (s.tk i).live = true := by
  unfold anyLive
  rw [List.any_eq_true]
  exact ⟨fun ⟨i, h1, h2⟩ => ⟨i, List.mem_range.1 h1, h2⟩, fun ⟨i, h1, h2⟩ => ⟨i, List.mem_range.2 h1, h2⟩⟩
theorem liX_any : decide (0 ≤ liX (mrOf s).live true) = anyLive s := by
  rw [Bool.eq_iff_iff, decide_eq_true_eq, anyLive_iff]
  unfold liX
  cases h : (List.range 16).find? (fun i => (mrOf s).live i == true) with
  | none =>
    refine ⟨fun k => absurd k (by decide), fun ⟨i, h1, h2⟩ => ?_⟩
    have := List.find?_eq_none.1 h i (List.mem_range.2 h1)
    have h2 : (mrOf s).live i = true := h2
    rw [h2] at this; exact absurd rfl this
  | some i =>
    have h1 := List.mem_range.1 (List.mem_of_find?_eq_some h)
    have h2 := List.find?_some h
    have h3 : (mrOf s).live i = true := by simpa using h2
    exact ⟨fun _ => ⟨i, h1, h3⟩, fun _ => by show (0 : Int) ≤ (i : Int); omega⟩
theorem liX_slot : liX (mrOf s).live false = match slotP s with | some t => (t : Int) | none => -1 := by
  unfold liX slotP
  have e : (fun i => (mrOf s).live i == false) = fun t => !(s.tk t).live := by
    funext i
    show ((s.tk i).live == false) = _
    cases (s.tk i).live <;> rfl
  rw [e]
theorem containsB_ok (hm : moI bm (mrOf s) pv tv mb ∈ l) (st : S0 w0 l w) :
    Calls Tryz.prog 94 #[.slice (some ⟨bm, 0 + 4, none⟩) 16 16, .bool true] w (Ret fun u w' => u = .bool (anyLive s) ∧ S0 w0 l w') := by
  refine enter [.slice (some ⟨bm, 0 + 4, none⟩) 16 16, .bool true] Tryz.func94 rfl Tryz.ntmps94 rfl ?_
  show WC _ _ _ 9 [] [(0, .slice (some ⟨bm, 0 + 4, none⟩) 16 16), (1, .bool true)] _
  refine WC.seq fun K3818 hK3818 => ?_
  -- region 0
  refine WC.region ?_
  -- R0.0 4 := slices.go:117 assign
  refine WL.v (by first | exact r_assign (v := .bool _) rfl | exact r_assign rfl) rfl rfl rfl ?_
  refine WL.fin hK3818 (fun _ _ h => h) ?_
  refine WC.seq fun K3819 hK3819 => ?_
  -- region 1
  refine WC.region ?_
  -- R1.0 5 := slices.go:118 move
  refine WL.v (by first | exact r_move (v := .slice _ _ _) rfl | exact r_move rfl) rfl rfl rfl ?_
  -- R1.1 6 := slices.go:118 move
  refine WL.v (by first | exact r_move (v := .bool _) rfl | exact r_move rfl) rfl rfl rfl ?_
  -- R1.2 7 := slices.go:118 call
  refine WL.call (r_call ty_call95 rfl) rfl rfl rfl (indexB_ok (x := true) hm st) ?_
  rintro _ w ⟨rfl, st⟩
  -- R1.3 8 := slices.go:118 binOp
  refine WL.v (by exact r_geq (t := anyLive s) rfl rfl liX_any) rfl rfl rfl ?_
  -- R1.4 4 := slices.go:118 assign
  refine WL.v (by first | exact r_assign (v := .bool _) rfl | exact r_assign rfl) rfl rfl rfl ?_
  refine WL.fin hK3819 (fun _ _ h => h) ?_
  refine WC.ret1 Tryz.results94 (fun _ _ h => h) rfl ?_
  exact ⟨_, rfl, rfl, st⟩
end Go.Proofs.Qxb6500834aGreatDoor

