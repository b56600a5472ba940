import Derived.Test.Qxb6500834aGreatDoorK32
set_option linter.unusedVariables false
set_option linter.unusedSimpArgs false
set_option maxRecDepth 20000
namespace Go.Proofs.Qxb6500834aGreatDoor
open Go.RowKit Go.E1 Go.Kern
variable {w0 : World} {L L' l I J K K' X Y : List HI} {w : World} {s : KS} {B : KA} {t r N : Nat} {qv : Nat → Value}

/-! A fresh kernel. -/
theorem zero149 : zeroL Tryz.prog 149 = some ((List.range 340).map (rF (fun _ _ => 0) nilQ)) := by kernel_rfl
theorem zero131 : zeroL Tryz.prog 131 = some ((List.range 321).map (pF 0 fun _ _ => 0)) := by kernel_rfl
def kZ (i : Nat) : Value := if i < 3 then .pointer none else kF 0 0 0 (fun _ => tk0) (fun _ => 0) 0 (.slice none 0 0) i
theorem zero120 : zeroL Tryz.prog 120 = some ((List.range 2177).map kZ) := by kernel_rfl
theorem newM_ok (st : S0 w0 l w) : Calls Tryz.prog 72 #[] w (Ret fun v w' => ∃ b, v = .pointer (some ⟨b, 0, none⟩) ∧ S0 w0 (mI b 0 0 (.slice none 0 0) :: l) w') := by
  refine enter [] Tryz.func72 rfl Tryz.ntmps72 rfl ?_
  show WC _ _ _ 3 [] [] _
  refine WC.seq fun K1363 hK1363 => ?_
  -- region 0
  refine WC.region ?_
  -- R0.0 0 := machinem.go:25 assign
  refine WL.v (by first | exact r_assign (v := .pointer _) rfl | exact r_assign rfl) rfl rfl rfl ?_
  refine WL.fin hK1363 (fun _ _ h => h) ?_
  refine WC.seq fun K1364 hK1364 => ?_
  -- region 1
  refine WC.region ?_
  -- R1.0 1 := machinem.go:25 build
  refine WL.v (by exact r_build (ps := []) (vs := [_, _, _]) ty_pl147 ty_zero147 rfl (fill_nil)) rfl rfl rfl ?_
  -- R1.1 2 := machinem.go:25 box
  first | refine WL.box (m := 3) (vs := [.int _ _, .int _ _, .slice _ _ _]) st rfl rfl rfl rfl rfl rfl ?_ | refine WL.box (m := 3) (vs := [_, _, _]) st rfl rfl rfl rfl rfl rfl ?_ | refine WL.box st rfl rfl rfl rfl rfl rfl ?_
  intro b2 w st
  -- R1.2 0 := machinem.go:25 assign
  refine WL.v (by first | exact r_assign (v := .pointer _) rfl | exact r_assign rfl) rfl rfl rfl ?_
  refine WL.fin hK1364 (fun _ _ h => h) ?_
  refine WC.ret1 Tryz.results72 (fun _ _ h => h) rfl ?_
  exact ⟨_, rfl, b2, rfl, st⟩
theorem newR_ok (st : S0 w0 l w) : Calls Tryz.prog 73 #[] w (Ret fun v w' => ∃ b, v = .pointer (some ⟨b, 0, none⟩) ∧ S0 w0 (rI b (fun _ _ => 0) nilQ :: l) w') := by
  refine enter [] Tryz.func73 rfl Tryz.ntmps73 rfl ?_
  show WC _ _ _ 3 [] [] _
  refine WC.seq fun K1365 hK1365 => ?_
  -- region 0
  refine WC.region ?_
  -- R0.0 0 := resourcem.go:21 assign
  refine WL.v (by first | exact r_assign (v := .pointer _) rfl | exact r_assign rfl) rfl rfl rfl ?_
  refine WL.fin hK1365 (fun _ _ h => h) ?_
  refine WC.seq fun K1366 hK1366 => ?_
  -- region 1
  refine WC.region ?_
  -- R1.0 1 := resourcem.go:21 build
  refine WL.v (by exact r_buildN (n := 340) (z := rF (fun _ _ => 0) nilQ) (v := rF (fun _ _ => 0) nilQ) (ps := []) ty_pl149 zero149 rfl fill_nil) rfl rfl rfl ?_
  -- R1.1 2 := resourcem.go:21 box
  refine WL.boxN (m := 340) (v := rF (fun _ _ => 0) nilQ) st rfl rfl rfl rfl ?_
  intro b2 w st
  -- R1.2 0 := resourcem.go:21 assign
  refine WL.v (by first | exact r_assign (v := .pointer _) rfl | exact r_assign rfl) rfl rfl rfl ?_
  refine WL.fin hK1366 (fun _ _ h => h) ?_
  refine WC.ret1 Tryz.results73 (fun _ _ h => h) rfl ?_
  exact ⟨_, rfl, b2, rfl, st⟩
theorem newP_ok (st : S0 w0 l w) : Calls Tryz.prog 74 #[] w (Ret fun v w' => ∃ b, v = .pointer (some ⟨b, 0, none⟩) ∧ S0 w0 (pI b 0 (fun _ _ => 0) :: l) w') := by
  refine enter [] Tryz.func74 rfl Tryz.ntmps74 rfl ?_
  show WC _ _ _ 3 [] [] _
  refine WC.seq fun K1367 hK1367 => ?_
  -- region 0
  refine WC.region ?_
  -- R0.0 0 := policym.go:14 assign
  refine WL.v (by first | exact r_assign (v := .pointer _) rfl | exact r_assign rfl) rfl rfl rfl ?_
  refine WL.fin hK1367 (fun _ _ h => h) ?_
  refine WC.seq fun K1368 hK1368 => ?_
  -- region 1
  refine WC.region ?_
  -- R1.0 1 := policym.go:14 build
  refine WL.v (by exact r_buildN (n := 321) (z := pF 0 fun _ _ => 0) (v := pF 0 fun _ _ => 0) (ps := []) ty_pl131 zero131 rfl fill_nil) rfl rfl rfl ?_
  -- R1.1 2 := policym.go:14 box
  refine WL.boxN (m := 321) (v := pF 0 fun _ _ => 0) st rfl rfl rfl rfl ?_
  intro b2 w st
  -- R1.2 0 := policym.go:14 assign
  refine WL.v (by first | exact r_assign (v := .pointer _) rfl | exact r_assign rfl) rfl rfl rfl ?_
  refine WL.fin hK1368 (fun _ _ h => h) ?_
  refine WC.ret1 Tryz.results74 (fun _ _ h => h) rfl ?_
  exact ⟨_, rfl, b2, rfl, st⟩
theorem kZ_full {bm br bp k : Nat} (hk : k < 2177) : upds (upds (upds kZ 0 1 fun _ => .pointer (some ⟨bm, 0, none⟩)) 1 1 fun _ => .pointer (some ⟨br, 0, none⟩)) 2 1 (fun _ => .pointer (some ⟨bp, 0, none⟩)) k = kF bm br bp (fun _ => tk0) (fun _ => 0) 0 (.slice none 0 0) k := by
  by_cases h : k < 3
  · match k with
    | 0 | 1 | 2 => rfl
    | k + 3 => omega
  · rw [upds_eq, if_neg (by omega), upds_eq, if_neg (by omega), upds_eq, if_neg (by omega)]
    unfold kZ
    rw [if_neg h]
    unfold kF
    rw [if_neg h, if_neg h]
set_option maxHeartbeats 2000000 in
theorem newK_ok (st : S0 w0 l w) : Calls Tryz.prog 51 #[] w (Ret fun v w' => ∃ B : KA, v = .pointer (some ⟨B.bk, 0, none⟩) ∧ KH w0 B ks0 l w') := by
  refine enter [] Tryz.func51 rfl Tryz.ntmps51 rfl ?_
  show WC _ _ _ 6 [] [] _
  refine WC.seq fun K1369 hK1369 => ?_
  -- region 0
  refine WC.region ?_
  -- R0.0 0 := kernel.go:47 assign
  refine WL.v (by first | exact r_assign (v := .pointer _) rfl | exact r_assign rfl) rfl rfl rfl ?_
  refine WL.fin hK1369 (fun _ _ h => h) ?_
  refine WC.seq fun K1370 hK1370 => ?_
  -- region 1
  refine WC.region ?_
  -- R1.0 1 := kernel.go:48 call
  refine WL.call (r_call ty_call72 rfl) rfl rfl rfl (newM_ok st) ?_
  rintro _ w ⟨bm, rfl, st⟩
  -- R1.1 2 := kernel.go:48 call
  refine WL.call (r_call ty_call73 rfl) rfl rfl rfl (newR_ok st) ?_
  rintro _ w ⟨br, rfl, st⟩
  -- R1.2 3 := kernel.go:48 call
  refine WL.call (r_call ty_call74 rfl) rfl rfl rfl (newP_ok st) ?_
  rintro _ w ⟨bp, rfl, st⟩
  -- R1.3 4 := kernel.go:48 build
  refine WL.v (by exact r_buildN (n := 2177) (z := kZ) (v := upds (upds (upds kZ 0 1 fun _ => .pointer (some ⟨bm, 0, none⟩)) 1 1 fun _ => .pointer (some ⟨br, 0, none⟩)) 2 1 fun _ => .pointer (some ⟨bp, 0, none⟩)) (ps := [(0, .pointer (some ⟨bm, 0, none⟩)), (1, .pointer (some ⟨br, 0, none⟩)), (2, .pointer (some ⟨bp, 0, none⟩))]) ty_pl120 zero120 rfl (fill_stepN (p := fun _ => .pointer (some ⟨bm, 0, none⟩)) rfl rfl (by decide) (fill_stepN (p := fun _ => .pointer (some ⟨br, 0, none⟩)) rfl rfl (by decide) (fill_stepN (p := fun _ => .pointer (some ⟨bp, 0, none⟩)) rfl rfl (by decide) fill_nil)))) rfl rfl rfl ?_
  -- R1.4 5 := kernel.go:48 box
  refine WL.boxN (m := 2177) st rfl rfl rfl rfl ?_
  intro b5 w st
  have st : S0 w0 (kR b5 bm br bp (fun _ => tk0) (fun _ => 0) 0 (.slice none 0 0) :: pI bp 0 (fun _ _ => 0) :: rI br (fun _ _ => 0) nilQ :: mI bm 0 0 (.slice none 0 0) :: l) w := stE (fun k hk => kZ_full hk) st
  -- R1.5 0 := kernel.go:48 assign
  refine WL.v (by first | exact r_assign (v := .pointer _) rfl | exact r_assign rfl) rfl rfl rfl ?_
  refine WL.fin hK1370 (fun _ _ h => h) ?_
  refine WC.ret1 Tryz.results51 (fun _ _ h => h) rfl ?_
  refine ⟨_, rfl, ⟨b5, bm, br, bp⟩, rfl, nilQ, fun _ => [], .slice none 0 0, [], .slice none 0 0, [], fun r hr => LO.nil, LO.nil, LO.nil, ?_⟩
  rw [gather_nil]
  exact st.perm (by classical exact List.perm_iff_count.2 fun x => by simp only [List.count_append, List.count_cons, List.count_nil, List.append_eq, List.cons_append, List.nil_append, List.append_assoc, Nat.add_zero, Nat.zero_add] <;> ac_rfl)
theorem KB0' : KB 0 ks0 := ⟨fun _ _ => Nat.zero_le _, fun _ _ => Nat.zero_le _, (fun r p hp => by cases hp), fun _ => Nat.zero_le _, fun _ _ => (by decide : 0 < 12), (fun p hp => by cases hp), List.Pairwise.nil, (fun p hp => by cases hp), Nat.le_refl _, by decide⟩
end Go.Proofs.Qxb6500834aGreatDoor

