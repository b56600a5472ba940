import Derived.Test.Qxb6500834aGreatDoorK15
set_option linter.unusedVariables false
set_option linter.unusedSimpArgs false
set_option maxRecDepth 20000
namespace Go.Proofs.Qxb6500834aGreatDoor
open Go.RowKit Go.E1 Go.Kern
variable {w0 : World} {L L' l I J K K' X : List HI} {w : World} {M : KM} {s : KS} {XQ : Nat → List HI}
variable {bk br bp bm mode now armed t r : Nat} {tv v : Value} {timers : List (Nat × Nat × Nat)}

/-! The machine. -/
def MH (w0 : World) (bm now armed : Nat) (timers : List (Nat × Nat × Nat)) (l : List HI) (w : World) : Prop := ∃ tv XT, TL0 tv timers XT ∧ S0 w0 (mI bm now armed tv :: (XT ++ l)) w
def deadP (now ticks : Nat) : Nat := if now + ticks < 18446744073709551616 then now + ticks else 18446744073709551615
theorem deadP_lt {now ticks : Nat} : deadP now ticks < 18446744073709551616 := by unfold deadP; split <;> omega
theorem tE_one {a : Nat × Nat × Nat} : ∀ k, k < 3 → (tE a k).oneCell' = true := fun k hk => by
  match k with
  | 0 | 1 | 2 => rfl
  | k + 3 => omega
theorem mI_now {x : Nat} : ∀ k, k < 3 → upd (nth [.int .u64 (now : Nat), .int .u64 (armed : Nat), tv]) (0 + 0) (.int .u64 (x : Nat)) k = nth [.int .u64 (x : Nat), .int .u64 (armed : Nat), tv] k := fun k hk => by
  match k with
  | 0 | 1 | 2 => rfl
  | k + 3 => omega
theorem mI_armed {x : Nat} : ∀ k, k < 3 → upd (nth [.int .u64 (now : Nat), .int .u64 (armed : Nat), tv]) (0 + 1) (.int .u64 (x : Nat)) k = nth [.int .u64 (now : Nat), .int .u64 (x : Nat), tv] k := fun k hk => by
  match k with
  | 0 | 1 | 2 => rfl
  | k + 3 => omega
theorem mI_tv {v : Value} : ∀ k, k < 3 → upd (nth [.int .u64 (now : Nat), .int .u64 (armed : Nat), tv]) (0 + 2) v k = nth [.int .u64 (now : Nat), .int .u64 (armed : Nat), v] k := fun k hk => by
  match k with
  | 0 | 1 | 2 => rfl
  | k + 3 => omega
set_option maxHeartbeats 4000000 in
theorem armAfter_ok {ticks cookie : Nat} (hn : now < 18446744073709551616) (hti : ticks < 18446744073709551616) (ha : armed < 9223372036854775808) (hlen : timers.length ≤ 1000000) (st : MH w0 bm now armed timers l w) :
    Calls Tryz.prog 138 #[.pointer (some ⟨bm, 0, none⟩), .int .u64 (ticks : Nat), .int .u64 (cookie : Nat)] w (Ret fun v w' => v = .agg #[.int .u64 ((armed + 1 : Nat) : Int), .int .u64 (deadP now ticks : Nat), .int .u64 (cookie : Nat)] ∧ MH w0 bm now (armed + 1) (timers ++ [(armed + 1, deadP now ticks, cookie)]) l w') := by
  obtain ⟨tv, XT, ho, st⟩ := st
  by_cases hov : now + ticks < 18446744073709551616
  · have eD : deadP now ticks = now + ticks := if_pos hov
    refine enter [.pointer (some ⟨bm, 0, none⟩), .int .u64 (ticks : Nat), .int .u64 (cookie : Nat)] Tryz.func138 rfl Tryz.ntmps138 rfl ?_
    show WC _ _ _ 46 [] [(0, .pointer (some ⟨bm, 0, none⟩)), (1, .int .u64 (ticks : Nat)), (2, .int .u64 (cookie : Nat))] _
    refine WC.seq fun K511 hK511 => ?_
    -- region 0
    refine WC.region ?_
    -- R0.0 6 := machinem.go:32 alloc
    refine WL.alloc (m := 3) st ty_zero164 rfl rfl rfl ?_
    intro b6 w st
    refine WL.fin hK511 (fun _ _ h => h) ?_
    refine WC.seq fun K512 hK512 => ?_
    -- region 1
    refine WC.region ?_
    -- R1.0 9 := machinem.go:33 move
    refine WL.v (by first | exact r_move (v := .pointer _) rfl | exact r_move rfl) rfl rfl rfl ?_
    -- R1.1 10 := machinem.go:33 nilCheck
    refine WL.v (by exact r_nilCheck rfl) rfl rfl rfl ?_
    -- R1.2 11 := machinem.go:33 fieldAddr
    refine WL.v (by exact r_field ty_fld147_0 rfl) rfl rfl rfl ?_
    -- R1.3 12 := machinem.go:33 load
    refine WL.v (by exact r_load1 ty_one26 rfl (by first | assumption | exact st.c0 (by first | decide | omega) | exact st.c1 (by first | decide | omega) | exact st.c2 (by first | decide | omega) | exact st.c3 (by first | decide | omega) | exact st.c4 (by first | decide | omega) | exact st.c5 (by first | decide | omega) | exact st.c6 (by first | decide | omega) | exact st.c7 (by first | decide | omega) | exact st.c8 (by first | decide | omega))) rfl rfl rfl ?_
    -- R1.4 13 := machinem.go:33 move
    refine WL.v (by first | exact r_move (v := .int _ _) rfl | exact r_move rfl) rfl rfl rfl ?_
    -- R1.5 14 := machinem.go:33 binOp
    refine WL.v (by exact r_add (r := ((now + ticks : Nat) : Int)) rfl rfl (wu64 (by omega) (by omega))) rfl rfl rfl ?_
    -- R1.6 7 := machinem.go:33 assign
    refine WL.v (by first | exact r_assign (v := .int _ _) rfl | exact r_assign rfl) rfl rfl rfl ?_
    refine WL.fin hK512 (fun _ _ h => h) ?_
    refine WC.seq fun K513 hK513 => ?_
    refine WC.seq fun K514 hK514 => ?_
    -- region 2
    refine WC.region ?_
    -- R2.0 15 := machinem.go:34 move
    refine WL.v (by first | exact r_move (v := .int _ _) rfl | exact r_move rfl) rfl rfl rfl ?_
    -- R2.1 16 := machinem.go:34 move
    refine WL.v (by first | exact r_move (v := .pointer _) rfl | exact r_move rfl) rfl rfl rfl ?_
    -- R2.2 17 := machinem.go:34 nilCheck
    refine WL.v (by exact r_nilCheck rfl) rfl rfl rfl ?_
    -- R2.3 18 := machinem.go:34 fieldAddr
    refine WL.v (by exact r_field ty_fld147_0 rfl) rfl rfl rfl ?_
    -- R2.4 19 := machinem.go:34 load
    refine WL.v (by exact r_load1 ty_one26 rfl (by first | assumption | exact st.c0 (by first | decide | omega) | exact st.c1 (by first | decide | omega) | exact st.c2 (by first | decide | omega) | exact st.c3 (by first | decide | omega) | exact st.c4 (by first | decide | omega) | exact st.c5 (by first | decide | omega) | exact st.c6 (by first | decide | omega) | exact st.c7 (by first | decide | omega) | exact st.c8 (by first | decide | omega))) rfl rfl rfl ?_
    -- R2.5 20 := machinem.go:34 binOp
    refine WL.v (by first | exact r_lss rfl rfl (decide_eq_true (by omega)) | exact r_lss rfl rfl (decide_eq_false (by omega)) | exact r_lss rfl rfl rfl) rfl rfl rfl ?_
    refine WL.fin hK514 (fun _ _ h => h) ?_
    refine WC.condF rfl rfl ?_
    refine WC.skipF hK513 (fun _ _ h => h) ?_
    refine WC.seq fun K515 hK515 => ?_
    -- region 4
    refine WC.region ?_
    -- R4.0 21 := machinem.go:37 move
    refine WL.v (by first | exact r_move (v := .pointer _) rfl | exact r_move rfl) rfl rfl rfl ?_
    -- R4.1 22 := machinem.go:37 nilCheck
    refine WL.v (by exact r_nilCheck rfl) rfl rfl rfl ?_
    -- R4.2 23 := machinem.go:37 fieldAddr
    refine WL.v (by exact r_field ty_fld147_1 rfl) rfl rfl rfl ?_
    -- R4.3 24 := machinem.go:37 load
    refine WL.v (by exact r_load1 ty_one26 rfl (by first | assumption | exact st.c0 (by first | decide | omega) | exact st.c1 (by first | decide | omega) | exact st.c2 (by first | decide | omega) | exact st.c3 (by first | decide | omega) | exact st.c4 (by first | decide | omega) | exact st.c5 (by first | decide | omega) | exact st.c6 (by first | decide | omega) | exact st.c7 (by first | decide | omega) | exact st.c8 (by first | decide | omega))) rfl rfl rfl ?_
    -- R4.4 25 := machinem.go:37 binOp
    refine WL.v (by exact r_add (r := ((armed + 1 : Nat) : Int)) rfl rfl (wu64 (by omega) (by omega))) rfl rfl rfl ?_
    -- R4.5 26 := machinem.go:37 nilCheck
    refine WL.v (by exact r_nilCheck rfl) rfl rfl rfl ?_
    -- R4.6 27 := machinem.go:37 fieldAddr
    refine WL.v (by exact r_field ty_fld147_1 rfl) rfl rfl rfl ?_
    -- R4.7 None := machinem.go:37 store
    refine WL.store (v := .int .u64 ((armed + 1 : Nat) : Int)) st.front1 ty_one26 rfl rfl rfl (by decide) rfl rfl ?_
    intro w st
    have st := (stE (mI_armed (x := armed + 1)) st).front1
    refine WL.fin hK515 (fun _ _ h => h) ?_
    refine WC.seq fun K516 hK516 => ?_
    -- region 5
    refine WC.region ?_
    -- R5.0 28 := machinem.go:38 move
    refine WL.v (by first | exact r_move (v := .pointer _) rfl | exact r_move rfl) rfl rfl rfl ?_
    -- R5.1 29 := machinem.go:38 nilCheck
    refine WL.v (by exact r_nilCheck rfl) rfl rfl rfl ?_
    -- R5.2 30 := machinem.go:38 fieldAddr
    refine WL.v (by exact r_field ty_fld147_1 rfl) rfl rfl rfl ?_
    -- R5.3 31 := machinem.go:38 load
    refine WL.v (by exact r_load1 ty_one26 rfl (by first | assumption | exact st.c0 (by first | decide | omega) | exact st.c1 (by first | decide | omega) | exact st.c2 (by first | decide | omega) | exact st.c3 (by first | decide | omega) | exact st.c4 (by first | decide | omega) | exact st.c5 (by first | decide | omega) | exact st.c6 (by first | decide | omega) | exact st.c7 (by first | decide | omega) | exact st.c8 (by first | decide | omega))) rfl rfl rfl ?_
    -- R5.4 32 := machinem.go:38 move
    refine WL.v (by first | exact r_move (v := .int _ _) rfl | exact r_move rfl) rfl rfl rfl ?_
    -- R5.5 33 := machinem.go:38 move
    refine WL.v (by first | exact r_move (v := .int _ _) rfl | exact r_move rfl) rfl rfl rfl ?_
    -- R5.6 34 := machinem.go:38 build
    refine WL.v (by exact r_build (ps := [(0, .int _ _), (1, .int _ _), (2, .int _ _)]) (vs := [_, _, _]) ty_pl164 ty_zero164 rfl (fill_step (pv := [_]) (cs' := [_, _, _]) rfl rfl rfl rfl (fill_step (pv := [_]) (cs' := [_, _, _]) rfl rfl rfl rfl (fill_step (pv := [_]) (cs' := [_, _, _]) rfl rfl rfl rfl (fill_nil))))) rfl rfl rfl ?_
    -- R5.7 8 := machinem.go:38 alloc
    refine WL.alloc (m := 3) st ty_zero164 rfl rfl rfl ?_
    intro b8 w st
    -- R5.8 None := machinem.go:38 store
    first | refine WL.storeW (vs := [_, _, _]) st ty_agg164 rfl rfl rfl rfl rfl rfl ?_ | refine WL.storeL (vs := [_, _, _]) st ty_agg164 rfl rfl rfl rfl (by first | decide | omega) rfl rfl ?_ | refine WL.storeW (vs := [_, _, _]) st.front1 ty_agg164 rfl rfl rfl rfl rfl rfl ?_ | refine WL.storeL (vs := [_, _, _]) st.front1 ty_agg164 rfl rfl rfl rfl (by first | decide | omega) rfl rfl ?_ | refine WL.storeW (vs := [_, _, _]) st.front2 ty_agg164 rfl rfl rfl rfl rfl rfl ?_ | refine WL.storeL (vs := [_, _, _]) st.front2 ty_agg164 rfl rfl rfl rfl (by first | decide | omega) rfl rfl ?_ | refine WL.storeW (vs := [_, _, _]) st.front3 ty_agg164 rfl rfl rfl rfl rfl rfl ?_ | refine WL.storeL (vs := [_, _, _]) st.front3 ty_agg164 rfl rfl rfl rfl (by first | decide | omega) rfl rfl ?_ | refine WL.storeW (vs := [_, _, _]) st.front4 ty_agg164 rfl rfl rfl rfl rfl rfl ?_ | refine WL.storeL (vs := [_, _, _]) st.front4 ty_agg164 rfl rfl rfl rfl (by first | decide | omega) rfl rfl ?_ | refine WL.storeW (vs := [_, _, _]) st.front5 ty_agg164 rfl rfl rfl rfl rfl rfl ?_ | refine WL.storeL (vs := [_, _, _]) st.front5 ty_agg164 rfl rfl rfl rfl (by first | decide | omega) rfl rfl ?_ | refine WL.storeW (vs := [_, _, _]) st.front6 ty_agg164 rfl rfl rfl rfl rfl rfl ?_ | refine WL.storeL (vs := [_, _, _]) st.front6 ty_agg164 rfl rfl rfl rfl (by first | decide | omega) rfl rfl ?_ | refine WL.storeW (vs := [_, _, _]) st.front7 ty_agg164 rfl rfl rfl rfl rfl rfl ?_ | refine WL.storeL (vs := [_, _, _]) st.front7 ty_agg164 rfl rfl rfl rfl (by first | decide | omega) rfl rfl ?_ | refine WL.storeW (vs := [_, _, _]) st.front8 ty_agg164 rfl rfl rfl rfl rfl rfl ?_ | refine WL.storeL (vs := [_, _, _]) st.front8 ty_agg164 rfl rfl rfl rfl (by first | decide | omega) rfl rfl ?_
    intro w st
    refine WL.fin hK516 (fun _ _ h => h) ?_
    refine WC.seq fun K517 hK517 => ?_
    -- region 6 (draws)
    refine WC.heldS2 [7, 8, 9, 10] [1, 2, 3, 4, 5] [0] [6, 7, 8, 9, 10] st (st) ty_mixed (by kernel_rfl) fun w st Kq Kq2 hKq hKq2 => ?_
    -- R6.1 36 := machinem.go:39 move
    refine HL.v (fun w st => by first | exact r_move (v := .pointer _) rfl | exact r_move rfl) rfl rfl rfl ?_
    -- R6.2 37 := machinem.go:39 nilCheck
    refine HL.v (fun w st => by exact r_nilCheck rfl) rfl rfl rfl ?_
    -- R6.3 38 := machinem.go:39 fieldAddr
    refine HL.v (fun w st => by exact r_field ty_fld147_2 rfl) rfl rfl rfl ?_
    -- R6.4 39 := machinem.go:39 load
    refine HL.v (fun w st => by exact r_load1 (v := tv) ty_one145 rfl (st.drop.drop.c0 (by decide))) rfl rfl rfl ?_
    -- R6.5 40 := machinem.go:39 load
    refine HL.v (fun w st => by exact r_loadL (vs := [_, _, _]) ty_agg164 rfl ⟨(by first | assumption | exact st.c0 (by first | decide | omega) | exact st.c1 (by first | decide | omega) | exact st.c2 (by first | decide | omega) | exact st.c3 (by first | decide | omega) | exact st.c4 (by first | decide | omega) | exact st.c5 (by first | decide | omega) | exact st.c6 (by first | decide | omega) | exact st.c7 (by first | decide | omega) | exact st.c8 (by first | decide | omega)), (by first | assumption | exact st.c0 (by first | decide | omega) | exact st.c1 (by first | decide | omega) | exact st.c2 (by first | decide | omega) | exact st.c3 (by first | decide | omega) | exact st.c4 (by first | decide | omega) | exact st.c5 (by first | decide | omega) | exact st.c6 (by first | decide | omega) | exact st.c7 (by first | decide | omega) | exact st.c8 (by first | decide | omega)), (by first | assumption | exact st.c0 (by first | decide | omega) | exact st.c1 (by first | decide | omega) | exact st.c2 (by first | decide | omega) | exact st.c3 (by first | decide | omega) | exact st.c4 (by first | decide | omega) | exact st.c5 (by first | decide | omega) | exact st.c6 (by first | decide | omega) | exact st.c7 (by first | decide | omega) | exact st.c8 (by first | decide | omega)), trivial⟩) rfl rfl rfl ?_
    refine HL.pure hKq ?_
    -- R6.0 35 := machinem.go:39 move
    refine HL.v (fun w _ => by first | exact r_move (v := .pointer _) rfl | exact r_move rfl) rfl rfl rfl ?_
    refine HL.fin hKq2 ?_
    refine TL.at ?_
    -- R6.6 41 := machinem.go:39 buildSlice
    first | refine WL.mkslice (m := 3) (vs := [.int _ _, .int _ _, .int _ _]) st ty_sl145 ty_zero164 rfl rfl rfl rfl rfl rfl ?_ | refine WL.mkslice (m := 3) (vs := [_, _, _]) st ty_sl145 ty_zero164 rfl rfl rfl rfl rfl rfl ?_ | refine WL.mkslice st ty_sl145 ty_zero164 rfl rfl rfl rfl rfl rfl ?_
    intro b41 w st
    refine TL.nxt (by first | exact st | exact st.drop | exact st.drop1 | exact st.drop2 | exact st.drop3 | exact st.drop4 | exact st.drop.drop | exact st.drop.drop1 | exact st.drop.drop2 | exact st.drop.drop3 | exact st.drop.drop4 | exact st.drop.drop.drop | exact st.drop.drop.drop.drop | exact st_dropL st | exact st_dropL st.drop | exact st_none st) ?_
    refine TL.at ?_
    -- R6.7 42 := machinem.go:39 call
    have c0 : ∀ k, k < 3 → w.cell? ⟨b41, 0 + k, none⟩ = some (tE (armed + 1, deadP now ticks, cookie) k) := fun k hk => by rw [st.c0 (by omega), Nat.zero_add, eD]; rfl
    have st := st.perm (List.perm_append_comm_assoc [_, _, _, _] XT l)
    refine WL.appL (bx := b41) (ox := 0) (a := (armed + 1, deadP now ticks, cookie)) ho st ty_mk145 ty_zero164 rfl (by decide) rfl rfl c0 tE_one (by omega) (by omega) rfl rfl rfl ?_
    intro v' X' w ho st
    obtain ⟨a', c', b', rfl, -, -, -, -⟩ := ho.form
    have st := (st.perm (List.perm_append_comm_assoc X' [_, _, _, _] _)).drop
    refine TL.nxt' rfl ?_
    refine TL.at ?_
    -- R6.8 43 := machinem.go:39 nilCheck
    refine WL.v (by exact r_nilCheck rfl) rfl rfl rfl ?_
    refine TL.nxt' rfl ?_
    refine TL.at ?_
    -- R6.9 44 := machinem.go:39 fieldAddr
    refine WL.v (by exact r_field ty_fld147_2 rfl) rfl rfl rfl ?_
    refine TL.nxt' rfl ?_
    refine TL.at ?_
    -- R6.10 None := machinem.go:39 store
    refine WL.store (v := .slice a' _ c') (st.front2) ty_one145 rfl rfl rfl (by decide) rfl rfl ?_
    intro w st
    have st := stE mI_tv st
    refine TL.nxt' rfl ?_
    refine TL.wl ?_
    refine WL.fin hK517 (fun _ _ h => h) ?_
    refine WC.seq fun K518 hK518 => ?_
    -- region 7
    refine WC.region ?_
    -- R7.0 45 := machinem.go:40 load
    refine WL.v (by exact r_loadL (vs := [_, _, _]) ty_agg164 rfl ⟨(by first | assumption | exact st.c0 (by first | decide | omega) | exact st.c1 (by first | decide | omega) | exact st.c2 (by first | decide | omega) | exact st.c3 (by first | decide | omega) | exact st.c4 (by first | decide | omega) | exact st.c5 (by first | decide | omega) | exact st.c6 (by first | decide | omega) | exact st.c7 (by first | decide | omega) | exact st.c8 (by first | decide | omega)), (by first | assumption | exact st.c0 (by first | decide | omega) | exact st.c1 (by first | decide | omega) | exact st.c2 (by first | decide | omega) | exact st.c3 (by first | decide | omega) | exact st.c4 (by first | decide | omega) | exact st.c5 (by first | decide | omega) | exact st.c6 (by first | decide | omega) | exact st.c7 (by first | decide | omega) | exact st.c8 (by first | decide | omega)), (by first | assumption | exact st.c0 (by first | decide | omega) | exact st.c1 (by first | decide | omega) | exact st.c2 (by first | decide | omega) | exact st.c3 (by first | decide | omega) | exact st.c4 (by first | decide | omega) | exact st.c5 (by first | decide | omega) | exact st.c6 (by first | decide | omega) | exact st.c7 (by first | decide | omega) | exact st.c8 (by first | decide | omega)), trivial⟩) rfl rfl rfl ?_
    -- R7.1 None := machinem.go:40 store
    first | refine WL.storeW (vs := [_, _, _]) st ty_agg164 rfl rfl rfl rfl rfl rfl ?_ | refine WL.storeL (vs := [_, _, _]) st ty_agg164 rfl rfl rfl rfl (by first | decide | omega) rfl rfl ?_ | refine WL.storeW (vs := [_, _, _]) st.front1 ty_agg164 rfl rfl rfl rfl rfl rfl ?_ | refine WL.storeL (vs := [_, _, _]) st.front1 ty_agg164 rfl rfl rfl rfl (by first | decide | omega) rfl rfl ?_ | refine WL.storeW (vs := [_, _, _]) st.front2 ty_agg164 rfl rfl rfl rfl rfl rfl ?_ | refine WL.storeL (vs := [_, _, _]) st.front2 ty_agg164 rfl rfl rfl rfl (by first | decide | omega) rfl rfl ?_ | refine WL.storeW (vs := [_, _, _]) st.front3 ty_agg164 rfl rfl rfl rfl rfl rfl ?_ | refine WL.storeL (vs := [_, _, _]) st.front3 ty_agg164 rfl rfl rfl rfl (by first | decide | omega) rfl rfl ?_ | refine WL.storeW (vs := [_, _, _]) st.front4 ty_agg164 rfl rfl rfl rfl rfl rfl ?_ | refine WL.storeL (vs := [_, _, _]) st.front4 ty_agg164 rfl rfl rfl rfl (by first | decide | omega) rfl rfl ?_ | refine WL.storeW (vs := [_, _, _]) st.front5 ty_agg164 rfl rfl rfl rfl rfl rfl ?_ | refine WL.storeL (vs := [_, _, _]) st.front5 ty_agg164 rfl rfl rfl rfl (by first | decide | omega) rfl rfl ?_ | refine WL.storeW (vs := [_, _, _]) st.front6 ty_agg164 rfl rfl rfl rfl rfl rfl ?_ | refine WL.storeL (vs := [_, _, _]) st.front6 ty_agg164 rfl rfl rfl rfl (by first | decide | omega) rfl rfl ?_ | refine WL.storeW (vs := [_, _, _]) st.front7 ty_agg164 rfl rfl rfl rfl rfl rfl ?_ | refine WL.storeL (vs := [_, _, _]) st.front7 ty_agg164 rfl rfl rfl rfl (by first | decide | omega) rfl rfl ?_ | refine WL.storeW (vs := [_, _, _]) st.front8 ty_agg164 rfl rfl rfl rfl rfl rfl ?_ | refine WL.storeL (vs := [_, _, _]) st.front8 ty_agg164 rfl rfl rfl rfl (by first | decide | omega) rfl rfl ?_
    intro w st
    refine WL.fin hK518 (fun _ _ h => h) ?_
    refine WC.retC (vs := [_, _, _]) Tryz.results138 (fun _ _ h => h) rfl ty_agg164 rfl ⟨(by first | assumption | exact st.c0 (by first | decide | omega) | exact st.c1 (by first | decide | omega) | exact st.c2 (by first | decide | omega) | exact st.c3 (by first | decide | omega) | exact st.c4 (by first | decide | omega) | exact st.c5 (by first | decide | omega) | exact st.c6 (by first | decide | omega) | exact st.c7 (by first | decide | omega) | exact st.c8 (by first | decide | omega)), (by first | assumption | exact st.c0 (by first | decide | omega) | exact st.c1 (by first | decide | omega) | exact st.c2 (by first | decide | omega) | exact st.c3 (by first | decide | omega) | exact st.c4 (by first | decide | omega) | exact st.c5 (by first | decide | omega) | exact st.c6 (by first | decide | omega) | exact st.c7 (by first | decide | omega) | exact st.c8 (by first | decide | omega)), (by first | assumption | exact st.c0 (by first | decide | omega) | exact st.c1 (by first | decide | omega) | exact st.c2 (by first | decide | omega) | exact st.c3 (by first | decide | omega) | exact st.c4 (by first | decide | omega) | exact st.c5 (by first | decide | omega) | exact st.c6 (by first | decide | omega) | exact st.c7 (by first | decide | omega) | exact st.c8 (by first | decide | omega)), trivial⟩ ?_
    exact ⟨_, rfl, by rw [eD]; rfl, _, X', ho, st.drop.drop1⟩
  · have eD : deadP now ticks = 18446744073709551615 := if_neg hov
    refine enter [.pointer (some ⟨bm, 0, none⟩), .int .u64 (ticks : Nat), .int .u64 (cookie : Nat)] Tryz.func138 rfl Tryz.ntmps138 rfl ?_
    show WC _ _ _ 46 [] [(0, .pointer (some ⟨bm, 0, none⟩)), (1, .int .u64 (ticks : Nat)), (2, .int .u64 (cookie : Nat))] _
    refine WC.seq fun K519 hK519 => ?_
    -- region 0
    refine WC.region ?_
    -- R0.0 6 := machinem.go:32 alloc
    refine WL.alloc (m := 3) st ty_zero164 rfl rfl rfl ?_
    intro b6 w st
    refine WL.fin hK519 (fun _ _ h => h) ?_
    refine WC.seq fun K520 hK520 => ?_
    -- region 1
    refine WC.region ?_
    -- R1.0 9 := machinem.go:33 move
    refine WL.v (by first | exact r_move (v := .pointer _) rfl | exact r_move rfl) rfl rfl rfl ?_
    -- R1.1 10 := machinem.go:33 nilCheck
    refine WL.v (by exact r_nilCheck rfl) rfl rfl rfl ?_
    -- R1.2 11 := machinem.go:33 fieldAddr
    refine WL.v (by exact r_field ty_fld147_0 rfl) rfl rfl rfl ?_
    -- R1.3 12 := machinem.go:33 load
    refine WL.v (by exact r_load1 ty_one26 rfl (by first | assumption | exact st.c0 (by first | decide | omega) | exact st.c1 (by first | decide | omega) | exact st.c2 (by first | decide | omega) | exact st.c3 (by first | decide | omega) | exact st.c4 (by first | decide | omega) | exact st.c5 (by first | decide | omega) | exact st.c6 (by first | decide | omega) | exact st.c7 (by first | decide | omega) | exact st.c8 (by first | decide | omega))) rfl rfl rfl ?_
    -- R1.4 13 := machinem.go:33 move
    refine WL.v (by first | exact r_move (v := .int _ _) rfl | exact r_move rfl) rfl rfl rfl ?_
    -- R1.5 14 := machinem.go:33 binOp
    refine WL.v (by exact r_add (r := ((now + ticks - 18446744073709551616 : Nat) : Int)) rfl rfl (by show ((now : Nat) + (ticks : Nat) : Int) % 18446744073709551616 = _; omega)) rfl rfl rfl ?_
    -- R1.6 7 := machinem.go:33 assign
    refine WL.v (by first | exact r_assign (v := .int _ _) rfl | exact r_assign rfl) rfl rfl rfl ?_
    refine WL.fin hK520 (fun _ _ h => h) ?_
    refine WC.seq fun K521 hK521 => ?_
    refine WC.seq fun K522 hK522 => ?_
    -- region 2
    refine WC.region ?_
    -- R2.0 15 := machinem.go:34 move
    refine WL.v (by first | exact r_move (v := .int _ _) rfl | exact r_move rfl) rfl rfl rfl ?_
    -- R2.1 16 := machinem.go:34 move
    refine WL.v (by first | exact r_move (v := .pointer _) rfl | exact r_move rfl) rfl rfl rfl ?_
    -- R2.2 17 := machinem.go:34 nilCheck
    refine WL.v (by exact r_nilCheck rfl) rfl rfl rfl ?_
    -- R2.3 18 := machinem.go:34 fieldAddr
    refine WL.v (by exact r_field ty_fld147_0 rfl) rfl rfl rfl ?_
    -- R2.4 19 := machinem.go:34 load
    refine WL.v (by exact r_load1 ty_one26 rfl (by first | assumption | exact st.c0 (by first | decide | omega) | exact st.c1 (by first | decide | omega) | exact st.c2 (by first | decide | omega) | exact st.c3 (by first | decide | omega) | exact st.c4 (by first | decide | omega) | exact st.c5 (by first | decide | omega) | exact st.c6 (by first | decide | omega) | exact st.c7 (by first | decide | omega) | exact st.c8 (by first | decide | omega))) rfl rfl rfl ?_
    -- R2.5 20 := machinem.go:34 binOp
    refine WL.v (by first | exact r_lss rfl rfl (decide_eq_true (by omega)) | exact r_lss rfl rfl (decide_eq_false (by omega)) | exact r_lss rfl rfl rfl) rfl rfl rfl ?_
    refine WL.fin hK522 (fun _ _ h => h) ?_
    refine WC.condT rfl rfl ?_
    -- region 3
    refine WC.region ?_
    -- R3.0 7 := machinem.go:35 assign
    refine WL.v (by first | exact r_assign (v := .int _ _) rfl | exact r_assign rfl) rfl rfl rfl ?_
    refine WL.fin hK521 (fun _ _ h => h) ?_
    refine WC.seq fun K523 hK523 => ?_
    -- region 4
    refine WC.region ?_
    -- R4.0 21 := machinem.go:37 move
    refine WL.v (by first | exact r_move (v := .pointer _) rfl | exact r_move rfl) rfl rfl rfl ?_
    -- R4.1 22 := machinem.go:37 nilCheck
    refine WL.v (by exact r_nilCheck rfl) rfl rfl rfl ?_
    -- R4.2 23 := machinem.go:37 fieldAddr
    refine WL.v (by exact r_field ty_fld147_1 rfl) rfl rfl rfl ?_
    -- R4.3 24 := machinem.go:37 load
    refine WL.v (by exact r_load1 ty_one26 rfl (by first | assumption | exact st.c0 (by first | decide | omega) | exact st.c1 (by first | decide | omega) | exact st.c2 (by first | decide | omega) | exact st.c3 (by first | decide | omega) | exact st.c4 (by first | decide | omega) | exact st.c5 (by first | decide | omega) | exact st.c6 (by first | decide | omega) | exact st.c7 (by first | decide | omega) | exact st.c8 (by first | decide | omega))) rfl rfl rfl ?_
    -- R4.4 25 := machinem.go:37 binOp
    refine WL.v (by exact r_add (r := ((armed + 1 : Nat) : Int)) rfl rfl (wu64 (by omega) (by omega))) rfl rfl rfl ?_
    -- R4.5 26 := machinem.go:37 nilCheck
    refine WL.v (by exact r_nilCheck rfl) rfl rfl rfl ?_
    -- R4.6 27 := machinem.go:37 fieldAddr
    refine WL.v (by exact r_field ty_fld147_1 rfl) rfl rfl rfl ?_
    -- R4.7 None := machinem.go:37 store
    refine WL.store (v := .int .u64 ((armed + 1 : Nat) : Int)) st.front1 ty_one26 rfl rfl rfl (by decide) rfl rfl ?_
    intro w st
    have st := (stE (mI_armed (x := armed + 1)) st).front1
    refine WL.fin hK523 (fun _ _ h => h) ?_
    refine WC.seq fun K524 hK524 => ?_
    -- region 5
    refine WC.region ?_
    -- R5.0 28 := machinem.go:38 move
    refine WL.v (by first | exact r_move (v := .pointer _) rfl | exact r_move rfl) rfl rfl rfl ?_
    -- R5.1 29 := machinem.go:38 nilCheck
    refine WL.v (by exact r_nilCheck rfl) rfl rfl rfl ?_
    -- R5.2 30 := machinem.go:38 fieldAddr
    refine WL.v (by exact r_field ty_fld147_1 rfl) rfl rfl rfl ?_
    -- R5.3 31 := machinem.go:38 load
    refine WL.v (by exact r_load1 ty_one26 rfl (by first | assumption | exact st.c0 (by first | decide | omega) | exact st.c1 (by first | decide | omega) | exact st.c2 (by first | decide | omega) | exact st.c3 (by first | decide | omega) | exact st.c4 (by first | decide | omega) | exact st.c5 (by first | decide | omega) | exact st.c6 (by first | decide | omega) | exact st.c7 (by first | decide | omega) | exact st.c8 (by first | decide | omega))) rfl rfl rfl ?_
    -- R5.4 32 := machinem.go:38 move
    refine WL.v (by first | exact r_move (v := .int _ _) rfl | exact r_move rfl) rfl rfl rfl ?_
    -- R5.5 33 := machinem.go:38 move
    refine WL.v (by first | exact r_move (v := .int _ _) rfl | exact r_move rfl) rfl rfl rfl ?_
    -- R5.6 34 := machinem.go:38 build
    refine WL.v (by exact r_build (ps := [(0, .int _ _), (1, .int _ _), (2, .int _ _)]) (vs := [_, _, _]) ty_pl164 ty_zero164 rfl (fill_step (pv := [_]) (cs' := [_, _, _]) rfl rfl rfl rfl (fill_step (pv := [_]) (cs' := [_, _, _]) rfl rfl rfl rfl (fill_step (pv := [_]) (cs' := [_, _, _]) rfl rfl rfl rfl (fill_nil))))) rfl rfl rfl ?_
    -- R5.7 8 := machinem.go:38 alloc
    refine WL.alloc (m := 3) st ty_zero164 rfl rfl rfl ?_
    intro b8 w st
    -- R5.8 None := machinem.go:38 store
    first | refine WL.storeW (vs := [_, _, _]) st ty_agg164 rfl rfl rfl rfl rfl rfl ?_ | refine WL.storeL (vs := [_, _, _]) st ty_agg164 rfl rfl rfl rfl (by first | decide | omega) rfl rfl ?_ | refine WL.storeW (vs := [_, _, _]) st.front1 ty_agg164 rfl rfl rfl rfl rfl rfl ?_ | refine WL.storeL (vs := [_, _, _]) st.front1 ty_agg164 rfl rfl rfl rfl (by first | decide | omega) rfl rfl ?_ | refine WL.storeW (vs := [_, _, _]) st.front2 ty_agg164 rfl rfl rfl rfl rfl rfl ?_ | refine WL.storeL (vs := [_, _, _]) st.front2 ty_agg164 rfl rfl rfl rfl (by first | decide | omega) rfl rfl ?_ | refine WL.storeW (vs := [_, _, _]) st.front3 ty_agg164 rfl rfl rfl rfl rfl rfl ?_ | refine WL.storeL (vs := [_, _, _]) st.front3 ty_agg164 rfl rfl rfl rfl (by first | decide | omega) rfl rfl ?_ | refine WL.storeW (vs := [_, _, _]) st.front4 ty_agg164 rfl rfl rfl rfl rfl rfl ?_ | refine WL.storeL (vs := [_, _, _]) st.front4 ty_agg164 rfl rfl rfl rfl (by first | decide | omega) rfl rfl ?_ | refine WL.storeW (vs := [_, _, _]) st.front5 ty_agg164 rfl rfl rfl rfl rfl rfl ?_ | refine WL.storeL (vs := [_, _, _]) st.front5 ty_agg164 rfl rfl rfl rfl (by first | decide | omega) rfl rfl ?_ | refine WL.storeW (vs := [_, _, _]) st.front6 ty_agg164 rfl rfl rfl rfl rfl rfl ?_ | refine WL.storeL (vs := [_, _, _]) st.front6 ty_agg164 rfl rfl rfl rfl (by first | decide | omega) rfl rfl ?_ | refine WL.storeW (vs := [_, _, _]) st.front7 ty_agg164 rfl rfl rfl rfl rfl rfl ?_ | refine WL.storeL (vs := [_, _, _]) st.front7 ty_agg164 rfl rfl rfl rfl (by first | decide | omega) rfl rfl ?_ | refine WL.storeW (vs := [_, _, _]) st.front8 ty_agg164 rfl rfl rfl rfl rfl rfl ?_ | refine WL.storeL (vs := [_, _, _]) st.front8 ty_agg164 rfl rfl rfl rfl (by first | decide | omega) rfl rfl ?_
    intro w st
    refine WL.fin hK524 (fun _ _ h => h) ?_
    refine WC.seq fun K525 hK525 => ?_
    -- region 6 (draws)
    refine WC.heldS2 [7, 8, 9, 10] [1, 2, 3, 4, 5] [0] [6, 7, 8, 9, 10] st (st) ty_mixed (by kernel_rfl) fun w st Kq Kq2 hKq hKq2 => ?_
    -- R6.1 36 := machinem.go:39 move
    refine HL.v (fun w st => by first | exact r_move (v := .pointer _) rfl | exact r_move rfl) rfl rfl rfl ?_
    -- R6.2 37 := machinem.go:39 nilCheck
    refine HL.v (fun w st => by exact r_nilCheck rfl) rfl rfl rfl ?_
    -- R6.3 38 := machinem.go:39 fieldAddr
    refine HL.v (fun w st => by exact r_field ty_fld147_2 rfl) rfl rfl rfl ?_
    -- R6.4 39 := machinem.go:39 load
    refine HL.v (fun w st => by exact r_load1 (v := tv) ty_one145 rfl (st.drop.drop.c0 (by decide))) rfl rfl rfl ?_
    -- R6.5 40 := machinem.go:39 load
    refine HL.v (fun w st => by exact r_loadL (vs := [_, _, _]) ty_agg164 rfl ⟨(by first | assumption | exact st.c0 (by first | decide | omega) | exact st.c1 (by first | decide | omega) | exact st.c2 (by first | decide | omega) | exact st.c3 (by first | decide | omega) | exact st.c4 (by first | decide | omega) | exact st.c5 (by first | decide | omega) | exact st.c6 (by first | decide | omega) | exact st.c7 (by first | decide | omega) | exact st.c8 (by first | decide | omega)), (by first | assumption | exact st.c0 (by first | decide | omega) | exact st.c1 (by first | decide | omega) | exact st.c2 (by first | decide | omega) | exact st.c3 (by first | decide | omega) | exact st.c4 (by first | decide | omega) | exact st.c5 (by first | decide | omega) | exact st.c6 (by first | decide | omega) | exact st.c7 (by first | decide | omega) | exact st.c8 (by first | decide | omega)), (by first | assumption | exact st.c0 (by first | decide | omega) | exact st.c1 (by first | decide | omega) | exact st.c2 (by first | decide | omega) | exact st.c3 (by first | decide | omega) | exact st.c4 (by first | decide | omega) | exact st.c5 (by first | decide | omega) | exact st.c6 (by first | decide | omega) | exact st.c7 (by first | decide | omega) | exact st.c8 (by first | decide | omega)), trivial⟩) rfl rfl rfl ?_
    refine HL.pure hKq ?_
    -- R6.0 35 := machinem.go:39 move
    refine HL.v (fun w _ => by first | exact r_move (v := .pointer _) rfl | exact r_move rfl) rfl rfl rfl ?_
    refine HL.fin hKq2 ?_
    refine TL.at ?_
    -- R6.6 41 := machinem.go:39 buildSlice
    first | refine WL.mkslice (m := 3) (vs := [.int _ _, .int _ _, .int _ _]) st ty_sl145 ty_zero164 rfl rfl rfl rfl rfl rfl ?_ | refine WL.mkslice (m := 3) (vs := [_, _, _]) st ty_sl145 ty_zero164 rfl rfl rfl rfl rfl rfl ?_ | refine WL.mkslice st ty_sl145 ty_zero164 rfl rfl rfl rfl rfl rfl ?_
    intro b41 w st
    refine TL.nxt (by first | exact st | exact st.drop | exact st.drop1 | exact st.drop2 | exact st.drop3 | exact st.drop4 | exact st.drop.drop | exact st.drop.drop1 | exact st.drop.drop2 | exact st.drop.drop3 | exact st.drop.drop4 | exact st.drop.drop.drop | exact st.drop.drop.drop.drop | exact st_dropL st | exact st_dropL st.drop | exact st_none st) ?_
    refine TL.at ?_
    -- R6.7 42 := machinem.go:39 call
    have c0 : ∀ k, k < 3 → w.cell? ⟨b41, 0 + k, none⟩ = some (tE (armed + 1, deadP now ticks, cookie) k) := fun k hk => by rw [st.c0 (by omega), Nat.zero_add, eD]; rfl
    have st := st.perm (List.perm_append_comm_assoc [_, _, _, _] XT l)
    refine WL.appL (bx := b41) (ox := 0) (a := (armed + 1, deadP now ticks, cookie)) ho st ty_mk145 ty_zero164 rfl (by decide) rfl rfl c0 tE_one (by omega) (by omega) rfl rfl rfl ?_
    intro v' X' w ho st
    obtain ⟨a', c', b', rfl, -, -, -, -⟩ := ho.form
    have st := (st.perm (List.perm_append_comm_assoc X' [_, _, _, _] _)).drop
    refine TL.nxt' rfl ?_
    refine TL.at ?_
    -- R6.8 43 := machinem.go:39 nilCheck
    refine WL.v (by exact r_nilCheck rfl) rfl rfl rfl ?_
    refine TL.nxt' rfl ?_
    refine TL.at ?_
    -- R6.9 44 := machinem.go:39 fieldAddr
    refine WL.v (by exact r_field ty_fld147_2 rfl) rfl rfl rfl ?_
    refine TL.nxt' rfl ?_
    refine TL.at ?_
    -- R6.10 None := machinem.go:39 store
    refine WL.store (v := .slice a' _ c') (st.front2) ty_one145 rfl rfl rfl (by decide) rfl rfl ?_
    intro w st
    have st := stE mI_tv st
    refine TL.nxt' rfl ?_
    refine TL.wl ?_
    refine WL.fin hK525 (fun _ _ h => h) ?_
    refine WC.seq fun K526 hK526 => ?_
    -- region 7
    refine WC.region ?_
    -- R7.0 45 := machinem.go:40 load
    refine WL.v (by exact r_loadL (vs := [_, _, _]) ty_agg164 rfl ⟨(by first | assumption | exact st.c0 (by first | decide | omega) | exact st.c1 (by first | decide | omega) | exact st.c2 (by first | decide | omega) | exact st.c3 (by first | decide | omega) | exact st.c4 (by first | decide | omega) | exact st.c5 (by first | decide | omega) | exact st.c6 (by first | decide | omega) | exact st.c7 (by first | decide | omega) | exact st.c8 (by first | decide | omega)), (by first | assumption | exact st.c0 (by first | decide | omega) | exact st.c1 (by first | decide | omega) | exact st.c2 (by first | decide | omega) | exact st.c3 (by first | decide | omega) | exact st.c4 (by first | decide | omega) | exact st.c5 (by first | decide | omega) | exact st.c6 (by first | decide | omega) | exact st.c7 (by first | decide | omega) | exact st.c8 (by first | decide | omega)), (by first | assumption | exact st.c0 (by first | decide | omega) | exact st.c1 (by first | decide | omega) | exact st.c2 (by first | decide | omega) | exact st.c3 (by first | decide | omega) | exact st.c4 (by first | decide | omega) | exact st.c5 (by first | decide | omega) | exact st.c6 (by first | decide | omega) | exact st.c7 (by first | decide | omega) | exact st.c8 (by first | decide | omega)), trivial⟩) rfl rfl rfl ?_
    -- R7.1 None := machinem.go:40 store
    first | refine WL.storeW (vs := [_, _, _]) st ty_agg164 rfl rfl rfl rfl rfl rfl ?_ | refine WL.storeL (vs := [_, _, _]) st ty_agg164 rfl rfl rfl rfl (by first | decide | omega) rfl rfl ?_ | refine WL.storeW (vs := [_, _, _]) st.front1 ty_agg164 rfl rfl rfl rfl rfl rfl ?_ | refine WL.storeL (vs := [_, _, _]) st.front1 ty_agg164 rfl rfl rfl rfl (by first | decide | omega) rfl rfl ?_ | refine WL.storeW (vs := [_, _, _]) st.front2 ty_agg164 rfl rfl rfl rfl rfl rfl ?_ | refine WL.storeL (vs := [_, _, _]) st.front2 ty_agg164 rfl rfl rfl rfl (by first | decide | omega) rfl rfl ?_ | refine WL.storeW (vs := [_, _, _]) st.front3 ty_agg164 rfl rfl rfl rfl rfl rfl ?_ | refine WL.storeL (vs := [_, _, _]) st.front3 ty_agg164 rfl rfl rfl rfl (by first | decide | omega) rfl rfl ?_ | refine WL.storeW (vs := [_, _, _]) st.front4 ty_agg164 rfl rfl rfl rfl rfl rfl ?_ | refine WL.storeL (vs := [_, _, _]) st.front4 ty_agg164 rfl rfl rfl rfl (by first | decide | omega) rfl rfl ?_ | refine WL.storeW (vs := [_, _, _]) st.front5 ty_agg164 rfl rfl rfl rfl rfl rfl ?_ | refine WL.storeL (vs := [_, _, _]) st.front5 ty_agg164 rfl rfl rfl rfl (by first | decide | omega) rfl rfl ?_ | refine WL.storeW (vs := [_, _, _]) st.front6 ty_agg164 rfl rfl rfl rfl rfl rfl ?_ | refine WL.storeL (vs := [_, _, _]) st.front6 ty_agg164 rfl rfl rfl rfl (by first | decide | omega) rfl rfl ?_ | refine WL.storeW (vs := [_, _, _]) st.front7 ty_agg164 rfl rfl rfl rfl rfl rfl ?_ | refine WL.storeL (vs := [_, _, _]) st.front7 ty_agg164 rfl rfl rfl rfl (by first | decide | omega) rfl rfl ?_ | refine WL.storeW (vs := [_, _, _]) st.front8 ty_agg164 rfl rfl rfl rfl rfl rfl ?_ | refine WL.storeL (vs := [_, _, _]) st.front8 ty_agg164 rfl rfl rfl rfl (by first | decide | omega) rfl rfl ?_
    intro w st
    refine WL.fin hK526 (fun _ _ h => h) ?_
    refine WC.retC (vs := [_, _, _]) Tryz.results138 (fun _ _ h => h) rfl ty_agg164 rfl ⟨(by first | assumption | exact st.c0 (by first | decide | omega) | exact st.c1 (by first | decide | omega) | exact st.c2 (by first | decide | omega) | exact st.c3 (by first | decide | omega) | exact st.c4 (by first | decide | omega) | exact st.c5 (by first | decide | omega) | exact st.c6 (by first | decide | omega) | exact st.c7 (by first | decide | omega) | exact st.c8 (by first | decide | omega)), (by first | assumption | exact st.c0 (by first | decide | omega) | exact st.c1 (by first | decide | omega) | exact st.c2 (by first | decide | omega) | exact st.c3 (by first | decide | omega) | exact st.c4 (by first | decide | omega) | exact st.c5 (by first | decide | omega) | exact st.c6 (by first | decide | omega) | exact st.c7 (by first | decide | omega) | exact st.c8 (by first | decide | omega)), (by first | assumption | exact st.c0 (by first | decide | omega) | exact st.c1 (by first | decide | omega) | exact st.c2 (by first | decide | omega) | exact st.c3 (by first | decide | omega) | exact st.c4 (by first | decide | omega) | exact st.c5 (by first | decide | omega) | exact st.c6 (by first | decide | omega) | exact st.c7 (by first | decide | omega) | exact st.c8 (by first | decide | omega)), trivial⟩ ?_
    exact ⟨_, rfl, by rw [eD]; rfl, _, X', ho, st.drop.drop1⟩

def cancelP (timers : List (Nat × Nat × Nat)) (id : Nat) : List (Nat × Nat × Nat) := timers.filter fun p => !(p.1 == id)
theorem can1_ok {q : Nat × Nat × Nat} {b id : Nat} (hm : (b, Row 26 1 (nth [.int .u64 (id : Nat)])) ∈ l) (st : S0 w0 l w) :
    Calls Tryz.prog 166 #[.agg #[.int .u64 (q.1 : Nat), .int .u64 (q.2.1 : Nat), .int .u64 (q.2.2 : Nat)], .pointer (some ⟨b, 0, none⟩)] w (Ret fun u w' => u = .bool (q.1 == id) ∧ S0 w0 l w') := by
  refine enter [.agg #[.int .u64 (q.1 : Nat), .int .u64 (q.2.1 : Nat), .int .u64 (q.2.2 : Nat)], .pointer (some ⟨b, 0, none⟩)] Tryz.func166 rfl Tryz.ntmps166 rfl ?_
  show WC _ _ _ 8 [] [(0, .agg #[.int .u64 (q.1 : Nat), .int .u64 (q.2.1 : Nat), .int .u64 (q.2.2 : Nat)]), (1, .pointer (some ⟨b, 0, none⟩))] _
  refine WC.seq fun K527 hK527 => ?_
  -- region 0
  refine WC.region ?_
  -- R0.0 2 := machinem.go:45 box
  first | refine WL.box (m := 3) (vs := [.int _ _, .int _ _, .int _ _]) st rfl rfl rfl rfl rfl rfl ?_ | refine WL.box (m := 3) (vs := [_, _, _]) st rfl rfl rfl rfl rfl rfl ?_ | refine WL.box st rfl rfl rfl rfl rfl rfl ?_
  intro b2 w st
  -- R0.1 3 := machinem.go:45 assign
  refine WL.v (by first | exact r_assign (v := .bool _) rfl | exact r_assign rfl) rfl rfl rfl ?_
  refine WL.fin hK527 (fun _ _ h => h) ?_
  refine WC.seq fun K528 hK528 => ?_
  -- region 1
  refine WC.region ?_
  -- R1.0 4 := machinem.go:45 fieldAddr
  refine WL.v (by exact r_field ty_fld164_0 rfl) rfl rfl rfl ?_
  -- R1.1 5 := machinem.go:45 load
  refine WL.v (by exact r_load1 ty_one26 rfl (by first | assumption | exact st.c0 (by first | decide | omega) | exact st.c1 (by first | decide | omega) | exact st.c2 (by first | decide | omega) | exact st.c3 (by first | decide | omega) | exact st.c4 (by first | decide | omega) | exact st.c5 (by first | decide | omega) | exact st.c6 (by first | decide | omega) | exact st.c7 (by first | decide | omega) | exact st.c8 (by first | decide | omega))) rfl rfl rfl ?_
  -- R1.2 6 := machinem.go:45 load
  refine WL.v (by exact r_load1 (v := .int .u64 (id : Nat)) ty_one26 rfl (st.drop.cell hm (by decide))) rfl rfl rfl ?_
  -- R1.3 7 := machinem.go:45 binOp
  refine WL.v (by exact r_eql (t := q.1 == id) rfl rfl beqI) rfl rfl rfl ?_
  -- R1.4 3 := machinem.go:45 assign
  refine WL.v (by first | exact r_assign (v := .bool _) rfl | exact r_assign rfl) rfl rfl rfl ?_
  refine WL.fin hK528 (fun _ _ h => h) ?_
  refine WC.ret1 Tryz.results166 (fun _ _ h => h) rfl ?_
  exact ⟨_, rfl, rfl, st.drop⟩
theorem cancel_ok {id : Nat} (st : MH w0 bm now armed timers l w) :
    Calls Tryz.prog 147 #[.pointer (some ⟨bm, 0, none⟩), .int .u64 (id : Nat)] w (Ret fun v w' => v = .tuple #[] ∧ MH w0 bm now armed (cancelP timers id) l w') := by
  obtain ⟨tv, XT, ho, st⟩ := st
  refine enter [.pointer (some ⟨bm, 0, none⟩), .int .u64 (id : Nat)] Tryz.func147 rfl Tryz.ntmps147 rfl ?_
  show WC _ _ _ 13 [] [(0, .pointer (some ⟨bm, 0, none⟩)), (1, .int .u64 (id : Nat))] _
  refine WC.seq fun K529 hK529 => ?_
  -- region 0
  refine WC.region ?_
  -- R0.0 3 := machinem.go:44 box
  first | refine WL.box (m := 1) (vs := [.int _ _]) st rfl rfl rfl rfl rfl rfl ?_ | refine WL.box (m := 1) (vs := [_]) st rfl rfl rfl rfl rfl rfl ?_ | refine WL.box st rfl rfl rfl rfl rfl rfl ?_
  intro b3 w st
  refine WL.fin hK529 (fun _ _ h => h) ?_
  -- region 1
  refine WC.region ?_
  -- R1.0 4 := machinem.go:45 move
  refine WL.v (by first | exact r_move (v := .pointer _) rfl | exact r_move rfl) rfl rfl rfl ?_
  -- R1.1 5 := machinem.go:45 move
  refine WL.v (by first | exact r_move (v := .pointer _) rfl | exact r_move rfl) rfl rfl rfl ?_
  -- R1.2 6 := machinem.go:45 nilCheck
  refine WL.v (by exact r_nilCheck rfl) rfl rfl rfl ?_
  -- R1.3 7 := machinem.go:45 fieldAddr
  refine WL.v (by exact r_field ty_fld147_2 rfl) rfl rfl rfl ?_
  -- R1.4 8 := machinem.go:45 load
  refine WL.v (by exact r_load1 (v := tv) ty_one145 rfl (st.drop.c0 (by decide))) rfl rfl rfl ?_
  -- R1.5 9 := machinem.go:45 makeFunc
  refine WL.v (by exact r_mkfn rfl rfl) rfl rfl rfl ?_
  -- R1.6 10 := machinem.go:45 call
  have st := st.perm (List.perm_append_comm_assoc [_, _] XT l)
  refine WL.call (r_call ty_call142 rfl) rfl rfl rfl (delFT_ok (p := fun q => q.1 == id) (F := 166) (cap := #[.pointer (some ⟨b3, 0, none⟩)]) ty_call166 ho (fun I q w _ st => can1_ok (by simp) st) st) ?_
  rintro _ w ⟨X', ho', st⟩
  obtain ⟨a', c', b', rfl, -, -, -, -⟩ := ho'.form
  have st := (st.perm (List.perm_append_comm_assoc X' [_, _] _)).front1
  -- R1.7 11 := machinem.go:45 nilCheck
  refine WL.v (by exact r_nilCheck rfl) rfl rfl rfl ?_
  -- R1.8 12 := machinem.go:45 fieldAddr
  refine WL.v (by exact r_field ty_fld147_2 rfl) rfl rfl rfl ?_
  -- R1.9 None := machinem.go:45 store
  first | refine WL.store (v := .slice _ _ _) st ty_one145 rfl rfl rfl (by first | decide | omega) rfl rfl ?_ | refine WL.store (v := _) st ty_one145 rfl rfl rfl (by first | decide | omega) rfl rfl ?_ | refine WL.store (v := .slice _ _ _) st.front1 ty_one145 rfl rfl rfl (by first | decide | omega) rfl rfl ?_ | refine WL.store (v := _) st.front1 ty_one145 rfl rfl rfl (by first | decide | omega) rfl rfl ?_ | refine WL.store (v := .slice _ _ _) st.front2 ty_one145 rfl rfl rfl (by first | decide | omega) rfl rfl ?_ | refine WL.store (v := _) st.front2 ty_one145 rfl rfl rfl (by first | decide | omega) rfl rfl ?_ | refine WL.store (v := .slice _ _ _) st.front3 ty_one145 rfl rfl rfl (by first | decide | omega) rfl rfl ?_ | refine WL.store (v := _) st.front3 ty_one145 rfl rfl rfl (by first | decide | omega) rfl rfl ?_ | refine WL.store (v := .slice _ _ _) st.front4 ty_one145 rfl rfl rfl (by first | decide | omega) rfl rfl ?_ | refine WL.store (v := _) st.front4 ty_one145 rfl rfl rfl (by first | decide | omega) rfl rfl ?_ | refine WL.store (v := .slice _ _ _) st.front5 ty_one145 rfl rfl rfl (by first | decide | omega) rfl rfl ?_ | refine WL.store (v := _) st.front5 ty_one145 rfl rfl rfl (by first | decide | omega) rfl rfl ?_ | refine WL.store (v := .slice _ _ _) st.front6 ty_one145 rfl rfl rfl (by first | decide | omega) rfl rfl ?_ | refine WL.store (v := _) st.front6 ty_one145 rfl rfl rfl (by first | decide | omega) rfl rfl ?_ | refine WL.store (v := .slice _ _ _) st.front7 ty_one145 rfl rfl rfl (by first | decide | omega) rfl rfl ?_ | refine WL.store (v := _) st.front7 ty_one145 rfl rfl rfl (by first | decide | omega) rfl rfl ?_ | refine WL.store (v := .slice _ _ _) st.front8 ty_one145 rfl rfl rfl (by first | decide | omega) rfl rfl ?_ | refine WL.store (v := _) st.front8 ty_one145 rfl rfl rfl (by first | decide | omega) rfl rfl ?_
  intro w st
  refine WL.end0 Tryz.results147 (fun _ _ h => h) ?_
  exact ⟨_, rfl, rfl, _, X', ho', (stE mI_tv st).drop1⟩

/-! The timers that go off, in order. -/
def ltT (x y : Nat × Nat × Nat) : Bool := if x.2.1 = y.2.1 then decide (x.1 < y.1) else decide (x.2.1 < y.2.1)
set_option maxHeartbeats 4000000 in
theorem less_ok {b c bv n i j : Nat} {W : World} {d : Nat → Nat × Nat × Nat} (hs : W.cell? ⟨bv, 0, none⟩ = some (.slice (some ⟨b, 0, none⟩) n c)) (hc : ∀ i, i < n → ∀ k, k < 3 → W.cell? ⟨b, 0 + i * 3 + k, none⟩ = some (tE (d i) k)) (hi : i < n) (hj : j < n) :
    Calls Tryz.prog 144 #[.int .i64 (i : Nat), .int .i64 (j : Nat), .pointer (some ⟨bv, 0, none⟩)] W (Ret fun u w' => u = .bool (ltT (d i) (d j)) ∧ ∃ q, w' = W.drewN q) := by
  have hW : ∃ q, W = W.drewN q := ⟨0, rfl⟩
  by_cases he : (d i).2.1 = (d j).2.1
  · have e : ltT (d i) (d j) = decide ((d i).1 < (d j).1) := if_pos he
    refine enter [.int .i64 (i : Nat), .int .i64 (j : Nat), .pointer (some ⟨bv, 0, none⟩)] Tryz.func144 rfl Tryz.ntmps144 rfl ?_
    show WC _ _ _ 39 [] [(0, .int .i64 (i : Nat)), (1, .int .i64 (j : Nat)), (2, .pointer (some ⟨bv, 0, none⟩))] _
    refine WC.seq fun K530 hK530 => ?_
    -- region 0
    refine WC.region ?_
    -- R0.0 5 := machinem.go:61 assign
    refine WL.v (by first | exact r_assign (v := .bool _) rfl | exact r_assign rfl) rfl rfl rfl ?_
    refine WL.fin hK530 (fun _ _ h => h) ?_
    refine WC.seq fun K531 hK531 => ?_
    refine WC.seq fun K532 hK532 => ?_
    -- region 1 (draws)
    refine WC.quiet (fun w' => ∃ q, w' = W.drewN q) ty_mixed (by kernel_rfl) (⟨1, rfl⟩) fun Kq hKq => ?_
    -- R1.0 6 := machinem.go:62 load
    refine QL.v (fun w st => by obtain ⟨q, rfl⟩ := st; exact r_load1 (v := .slice (some ⟨b, 0, none⟩) n c) ty_one145 rfl hs) rfl rfl rfl ?_
    -- R1.1 7 := machinem.go:62 move
    refine QL.v (fun w st => by first | exact r_move (v := .int _ _) rfl | exact r_move rfl) rfl rfl rfl ?_
    -- R1.2 8 := machinem.go:62 indexAddr
    refine QL.v (fun w st => by exact r_indexS (j := i) ty_sl145 rfl rfl rfl (by omega)) rfl rfl rfl ?_
    -- R1.3 9 := machinem.go:62 fieldAddr
    refine QL.v (fun w st => by exact r_field ty_fld164_1 rfl) rfl rfl rfl ?_
    -- R1.4 10 := machinem.go:62 load
    refine QL.v (fun w st => by obtain ⟨q, rfl⟩ := st; exact r_load1 (v := .int .u64 ((d i).2.1 : Nat)) ty_one26 rfl (hc i (by omega) 1 (by decide))) rfl rfl rfl ?_
    -- R1.5 11 := machinem.go:62 load
    refine QL.v (fun w st => by obtain ⟨q, rfl⟩ := st; exact r_load1 (v := .slice (some ⟨b, 0, none⟩) n c) ty_one145 rfl hs) rfl rfl rfl ?_
    -- R1.6 12 := machinem.go:62 move
    refine QL.v (fun w st => by first | exact r_move (v := .int _ _) rfl | exact r_move rfl) rfl rfl rfl ?_
    -- R1.7 13 := machinem.go:62 indexAddr
    refine QL.v (fun w st => by exact r_indexS (j := j) ty_sl145 rfl rfl rfl (by omega)) rfl rfl rfl ?_
    -- R1.8 14 := machinem.go:62 fieldAddr
    refine QL.v (fun w st => by exact r_field ty_fld164_1 rfl) rfl rfl rfl ?_
    -- R1.9 15 := machinem.go:62 load
    refine QL.v (fun w st => by obtain ⟨q, rfl⟩ := st; exact r_load1 (v := .int .u64 ((d j).2.1 : Nat)) ty_one26 rfl (hc j (by omega) 1 (by decide))) rfl rfl rfl ?_
    -- R1.10 16 := machinem.go:62 binOp
    refine QL.v (fun w st => by first | exact r_neq rfl rfl (decide_eq_true (by omega)) | exact r_neq rfl rfl (decide_eq_false (by omega)) | exact r_neq rfl rfl rfl) rfl rfl rfl ?_
    refine QL.wlC hKq fun w st => ?_
    refine WL.fin hK532 (fun _ _ h => h) ?_
    refine WC.condF rfl rfl ?_
    refine WC.skipF hK531 (fun _ _ h => h) ?_
    refine WC.seq fun K533 hK533 => ?_
    -- region 3 (draws)
    refine WC.quiet (fun w' => ∃ q, w' = W.drewN q) ty_mixed (by kernel_rfl) (by obtain ⟨q, rfl⟩ := st; exact ⟨q + 1, rfl⟩) fun Kq hKq => ?_
    -- R3.0 28 := machinem.go:65 load
    refine QL.v (fun w st => by obtain ⟨q, rfl⟩ := st; exact r_load1 (v := .slice (some ⟨b, 0, none⟩) n c) ty_one145 rfl hs) rfl rfl rfl ?_
    -- R3.1 29 := machinem.go:65 move
    refine QL.v (fun w st => by first | exact r_move (v := .int _ _) rfl | exact r_move rfl) rfl rfl rfl ?_
    -- R3.2 30 := machinem.go:65 indexAddr
    refine QL.v (fun w st => by exact r_indexS (j := i) ty_sl145 rfl rfl rfl (by omega)) rfl rfl rfl ?_
    -- R3.3 31 := machinem.go:65 fieldAddr
    refine QL.v (fun w st => by exact r_field ty_fld164_0 rfl) rfl rfl rfl ?_
    -- R3.4 32 := machinem.go:65 load
    refine QL.v (fun w st => by obtain ⟨q, rfl⟩ := st; exact r_load1 (v := .int .u64 ((d i).1 : Nat)) ty_one26 rfl (hc i (by omega) 0 (by decide))) rfl rfl rfl ?_
    -- R3.5 33 := machinem.go:65 load
    refine QL.v (fun w st => by obtain ⟨q, rfl⟩ := st; exact r_load1 (v := .slice (some ⟨b, 0, none⟩) n c) ty_one145 rfl hs) rfl rfl rfl ?_
    -- R3.6 34 := machinem.go:65 move
    refine QL.v (fun w st => by first | exact r_move (v := .int _ _) rfl | exact r_move rfl) rfl rfl rfl ?_
    -- R3.7 35 := machinem.go:65 indexAddr
    refine QL.v (fun w st => by exact r_indexS (j := j) ty_sl145 rfl rfl rfl (by omega)) rfl rfl rfl ?_
    -- R3.8 36 := machinem.go:65 fieldAddr
    refine QL.v (fun w st => by exact r_field ty_fld164_0 rfl) rfl rfl rfl ?_
    -- R3.9 37 := machinem.go:65 load
    refine QL.v (fun w st => by obtain ⟨q, rfl⟩ := st; exact r_load1 (v := .int .u64 ((d j).1 : Nat)) ty_one26 rfl (hc j (by omega) 0 (by decide))) rfl rfl rfl ?_
    -- R3.10 38 := machinem.go:65 binOp
    refine QL.v (fun w st => by exact r_lss (t := ltT (d i) (d j)) rfl rfl (by rw [e, decide_eq_decide]; omega)) rfl rfl rfl ?_
    -- R3.11 5 := machinem.go:65 assign
    refine QL.v (fun w st => by first | exact r_assign (v := .bool _) rfl | exact r_assign rfl) rfl rfl rfl ?_
    refine QL.wlC hKq fun w st => ?_
    refine WL.fin hK533 (fun _ _ h => h) ?_
    refine WC.ret1 Tryz.results144 (fun _ _ h => h) rfl ?_
    exact ⟨_, rfl, rfl, st⟩
  · have e : ltT (d i) (d j) = decide ((d i).2.1 < (d j).2.1) := if_neg he
    refine enter [.int .i64 (i : Nat), .int .i64 (j : Nat), .pointer (some ⟨bv, 0, none⟩)] Tryz.func144 rfl Tryz.ntmps144 rfl ?_
    show WC _ _ _ 39 [] [(0, .int .i64 (i : Nat)), (1, .int .i64 (j : Nat)), (2, .pointer (some ⟨bv, 0, none⟩))] _
    refine WC.seq fun K534 hK534 => ?_
    -- region 0
    refine WC.region ?_
    -- R0.0 5 := machinem.go:61 assign
    refine WL.v (by first | exact r_assign (v := .bool _) rfl | exact r_assign rfl) rfl rfl rfl ?_
    refine WL.fin hK534 (fun _ _ h => h) ?_
    refine WC.seq fun K535 hK535 => ?_
    refine WC.seq fun K536 hK536 => ?_
    -- region 1 (draws)
    refine WC.quiet (fun w' => ∃ q, w' = W.drewN q) ty_mixed (by kernel_rfl) (⟨1, rfl⟩) fun Kq hKq => ?_
    -- R1.0 6 := machinem.go:62 load
    refine QL.v (fun w st => by obtain ⟨q, rfl⟩ := st; exact r_load1 (v := .slice (some ⟨b, 0, none⟩) n c) ty_one145 rfl hs) rfl rfl rfl ?_
    -- R1.1 7 := machinem.go:62 move
    refine QL.v (fun w st => by first | exact r_move (v := .int _ _) rfl | exact r_move rfl) rfl rfl rfl ?_
    -- R1.2 8 := machinem.go:62 indexAddr
    refine QL.v (fun w st => by exact r_indexS (j := i) ty_sl145 rfl rfl rfl (by omega)) rfl rfl rfl ?_
    -- R1.3 9 := machinem.go:62 fieldAddr
    refine QL.v (fun w st => by exact r_field ty_fld164_1 rfl) rfl rfl rfl ?_
    -- R1.4 10 := machinem.go:62 load
    refine QL.v (fun w st => by obtain ⟨q, rfl⟩ := st; exact r_load1 (v := .int .u64 ((d i).2.1 : Nat)) ty_one26 rfl (hc i (by omega) 1 (by decide))) rfl rfl rfl ?_
    -- R1.5 11 := machinem.go:62 load
    refine QL.v (fun w st => by obtain ⟨q, rfl⟩ := st; exact r_load1 (v := .slice (some ⟨b, 0, none⟩) n c) ty_one145 rfl hs) rfl rfl rfl ?_
    -- R1.6 12 := machinem.go:62 move
    refine QL.v (fun w st => by first | exact r_move (v := .int _ _) rfl | exact r_move rfl) rfl rfl rfl ?_
    -- R1.7 13 := machinem.go:62 indexAddr
    refine QL.v (fun w st => by exact r_indexS (j := j) ty_sl145 rfl rfl rfl (by omega)) rfl rfl rfl ?_
    -- R1.8 14 := machinem.go:62 fieldAddr
    refine QL.v (fun w st => by exact r_field ty_fld164_1 rfl) rfl rfl rfl ?_
    -- R1.9 15 := machinem.go:62 load
    refine QL.v (fun w st => by obtain ⟨q, rfl⟩ := st; exact r_load1 (v := .int .u64 ((d j).2.1 : Nat)) ty_one26 rfl (hc j (by omega) 1 (by decide))) rfl rfl rfl ?_
    -- R1.10 16 := machinem.go:62 binOp
    refine QL.v (fun w st => by first | exact r_neq rfl rfl (decide_eq_true (by omega)) | exact r_neq rfl rfl (decide_eq_false (by omega)) | exact r_neq rfl rfl rfl) rfl rfl rfl ?_
    refine QL.wlC hKq fun w st => ?_
    refine WL.fin hK536 (fun _ _ h => h) ?_
    refine WC.condT rfl rfl ?_
    refine WC.seq fun K537 hK537 => ?_
    -- region 2 (draws)
    refine WC.quiet (fun w' => ∃ q, w' = W.drewN q) ty_mixed (by kernel_rfl) (by obtain ⟨q, rfl⟩ := st; exact ⟨q + 1, rfl⟩) fun Kq hKq => ?_
    -- R2.0 17 := machinem.go:63 load
    refine QL.v (fun w st => by obtain ⟨q, rfl⟩ := st; exact r_load1 (v := .slice (some ⟨b, 0, none⟩) n c) ty_one145 rfl hs) rfl rfl rfl ?_
    -- R2.1 18 := machinem.go:63 move
    refine QL.v (fun w st => by first | exact r_move (v := .int _ _) rfl | exact r_move rfl) rfl rfl rfl ?_
    -- R2.2 19 := machinem.go:63 indexAddr
    refine QL.v (fun w st => by exact r_indexS (j := i) ty_sl145 rfl rfl rfl (by omega)) rfl rfl rfl ?_
    -- R2.3 20 := machinem.go:63 fieldAddr
    refine QL.v (fun w st => by exact r_field ty_fld164_1 rfl) rfl rfl rfl ?_
    -- R2.4 21 := machinem.go:63 load
    refine QL.v (fun w st => by obtain ⟨q, rfl⟩ := st; exact r_load1 (v := .int .u64 ((d i).2.1 : Nat)) ty_one26 rfl (hc i (by omega) 1 (by decide))) rfl rfl rfl ?_
    -- R2.5 22 := machinem.go:63 load
    refine QL.v (fun w st => by obtain ⟨q, rfl⟩ := st; exact r_load1 (v := .slice (some ⟨b, 0, none⟩) n c) ty_one145 rfl hs) rfl rfl rfl ?_
    -- R2.6 23 := machinem.go:63 move
    refine QL.v (fun w st => by first | exact r_move (v := .int _ _) rfl | exact r_move rfl) rfl rfl rfl ?_
    -- R2.7 24 := machinem.go:63 indexAddr
    refine QL.v (fun w st => by exact r_indexS (j := j) ty_sl145 rfl rfl rfl (by omega)) rfl rfl rfl ?_
    -- R2.8 25 := machinem.go:63 fieldAddr
    refine QL.v (fun w st => by exact r_field ty_fld164_1 rfl) rfl rfl rfl ?_
    -- R2.9 26 := machinem.go:63 load
    refine QL.v (fun w st => by obtain ⟨q, rfl⟩ := st; exact r_load1 (v := .int .u64 ((d j).2.1 : Nat)) ty_one26 rfl (hc j (by omega) 1 (by decide))) rfl rfl rfl ?_
    -- R2.10 27 := machinem.go:63 binOp
    refine QL.v (fun w st => by exact r_lss (t := ltT (d i) (d j)) rfl rfl (by rw [e, decide_eq_decide]; omega)) rfl rfl rfl ?_
    -- R2.11 5 := machinem.go:63 assign
    refine QL.v (fun w st => by first | exact r_assign (v := .bool _) rfl | exact r_assign rfl) rfl rfl rfl ?_
    refine QL.wlC hKq fun w st => ?_
    refine WL.fin hK537 (fun _ _ h => h) ?_
    refine WC.ret1 Tryz.results144 (fun _ _ h => h) rfl ?_
    exact ⟨_, rfl, rfl, st⟩
end Go.Proofs.Qxb6500834aGreatDoor

