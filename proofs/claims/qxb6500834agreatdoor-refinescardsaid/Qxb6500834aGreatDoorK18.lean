import Derived.Test.Qxb6500834aGreatDoorK17
set_option linter.unusedVariables false
set_option linter.unusedSimpArgs false
set_option maxRecDepth 20000
namespace Go.Proofs.Qxb6500834aGreatDoor
open Go.RowKit Go.E1 Go.Kern
variable {w0 : World} {L L' l I J K K' X : List HI} {w : World}
variable {bk br bp bm mode now armed t r : Nat} {tv v : Value} {timers : List (Nat × Nat × Nat)}

theorem leN {a b : Nat} : decide ((a : Int) ≤ (b : Int)) = decide (a ≤ b) := by rw [decide_eq_decide]; omega
theorem tick1_ok {q : Nat × Nat × Nat} {b : Nat} (hm : (b, Row 105 1 (nth [.pointer (some ⟨bm, 0, none⟩)])) ∈ l) (hmm : mI bm now armed tv ∈ l) (st : S0 w0 l w) :
    Calls Tryz.prog 143 #[.agg #[.int .u64 (q.1 : Nat), .int .u64 (q.2.1 : Nat), .int .u64 (q.2.2 : Nat)], .pointer (some ⟨b, 0, none⟩)] w (Ret fun u w' => u = .bool (decide (q.2.1 ≤ now)) ∧ S0 w0 l w') := by
  refine enter [.agg #[.int .u64 (q.1 : Nat), .int .u64 (q.2.1 : Nat), .int .u64 (q.2.2 : Nat)], .pointer (some ⟨b, 0, none⟩)] Tryz.func143 rfl Tryz.ntmps143 rfl ?_
  show WC _ _ _ 11 [] [(0, .agg #[.int .u64 (q.1 : Nat), .int .u64 (q.2.1 : Nat), .int .u64 (q.2.2 : Nat)]), (1, .pointer (some ⟨b, 0, none⟩))] _
  refine WC.seq fun K538 hK538 => ?_
  -- region 0
  refine WC.region ?_
  -- R0.0 2 := machinem.go:60 box
  first | refine WL.box (m := 3) (vs := [.int _ _, .int _ _, .int _ _]) st rfl rfl rfl rfl rfl rfl ?_ | refine WL.box (m := 3) (vs := [_, _, _]) st rfl rfl rfl rfl rfl rfl ?_ | refine WL.box st rfl rfl rfl rfl rfl rfl ?_
  intro b2 w st
  -- R0.1 3 := machinem.go:60 assign
  refine WL.v (by first | exact r_assign (v := .bool _) rfl | exact r_assign rfl) rfl rfl rfl ?_
  refine WL.fin hK538 (fun _ _ h => h) ?_
  refine WC.seq fun K539 hK539 => ?_
  -- region 1 (draws)
  refine WC.quietS st ty_mixed (by kernel_rfl) fun Kq hKq => ?_
  -- R1.0 4 := machinem.go:60 fieldAddr
  refine QL.v (fun w st => by exact r_field ty_fld164_1 rfl) rfl rfl rfl ?_
  -- R1.1 5 := machinem.go:60 load
  refine QL.v (fun w st => by exact r_load1 ty_one26 rfl (by first | assumption | exact st.c0 (by first | decide | omega) | exact st.c1 (by first | decide | omega) | exact st.c2 (by first | decide | omega) | exact st.c3 (by first | decide | omega) | exact st.c4 (by first | decide | omega) | exact st.c5 (by first | decide | omega) | exact st.c6 (by first | decide | omega) | exact st.c7 (by first | decide | omega) | exact st.c8 (by first | decide | omega))) rfl rfl rfl ?_
  -- R1.2 6 := machinem.go:60 load
  refine QL.v (fun w st => by exact r_load1 (v := .pointer (some ⟨bm, 0, none⟩)) ty_one105 rfl (st.drop.cell hm (by decide))) rfl rfl rfl ?_
  -- R1.3 7 := machinem.go:60 nilCheck
  refine QL.v (fun w st => by exact r_nilCheck rfl) rfl rfl rfl ?_
  -- R1.4 8 := machinem.go:60 fieldAddr
  refine QL.v (fun w st => by exact r_field ty_fld147_0 rfl) rfl rfl rfl ?_
  -- R1.5 9 := machinem.go:60 load
  refine QL.v (fun w st => by exact r_load1 (v := .int .u64 (now : Nat)) ty_one26 rfl (st.drop.cell hmm (by decide))) rfl rfl rfl ?_
  -- R1.6 10 := machinem.go:60 binOp
  refine QL.v (fun w st => by exact r_leq (t := decide (q.2.1 ≤ now)) rfl rfl leN) rfl rfl rfl ?_
  -- R1.7 3 := machinem.go:60 assign
  refine QL.v (fun w st => by first | exact r_assign (v := .bool _) rfl | exact r_assign rfl) rfl rfl rfl ?_
  refine QL.wl hKq fun w st => ?_
  refine WL.fin hK539 (fun _ _ h => h) ?_
  refine WC.ret1 Tryz.results143 (fun _ _ h => h) rfl ?_
  exact ⟨_, rfl, rfl, st.drop⟩

def dueP (timers : List (Nat × Nat × Nat)) (now : Nat) : List (Nat × Nat × Nat) := timers.filter fun p => decide (p.2.1 ≤ now)
def restP (timers : List (Nat × Nat × Nat)) (now : Nat) : List (Nat × Nat × Nat) := timers.filter fun p => !decide (p.2.1 ≤ now)
theorem dueP_succ {i : Nat} {q : Nat × Nat × Nat} (h : timers[i]? = some q) : dueP (timers.take (i + 1)) now = dueP (timers.take i) now ++ (if q.2.1 ≤ now then [q] else []) := by
  unfold dueP
  rw [List.take_add_one, h, List.filter_append]
  by_cases hp : q.2.1 ≤ now <;> simp [hp]
theorem one_set {u v : Value} : ∀ k, k < 1 → upd (nth [u]) 0 v k = nth [v] k := fun k hk => by
  obtain rfl : k = 0 := by omega
  rfl
abbrev bI (b bm : Nat) : HI := (b, Row 105 1 (nth [.pointer (some ⟨bm, 0, none⟩)]))
abbrev fI (b : Nat) (v : Value) : HI := (b, Row 145 1 (nth [v]))
set_option maxHeartbeats 8000000 in
theorem mtick_ok (hn : now < 9223372036854775808) (hlen : timers.length ≤ 1000000) (hd : ∀ a b, a ∈ timers → b ∈ timers → a.1 = b.1 → a = b) (st : MH w0 bm now armed timers l w) :
    Calls Tryz.prog 113 #[.pointer (some ⟨bm, 0, none⟩)] w (Ret fun v w' => ∃ X, TL0 v (sortT (dueP timers (now + 1))) X ∧ MH w0 bm (now + 1) armed (restP timers (now + 1)) (X ++ l) w') := by
  obtain ⟨tv, XT, hoT, st⟩ := st
  obtain ⟨aT, cT, bT, hvT, hcT1, hcT2, haT, hcellT⟩ := hoT.form
  refine enter [.pointer (some ⟨bm, 0, none⟩)] Tryz.func113 rfl Tryz.ntmps113 rfl ?_
  show WC _ _ _ 53 [] [(0, .pointer (some ⟨bm, 0, none⟩))] _
  refine WC.seq fun K540 hK540 => ?_
  -- region 0
  refine WC.region ?_
  -- R0.0 1 := machinem.go:50 box
  first | refine WL.box (m := 1) (vs := [.pointer _]) st rfl rfl rfl rfl rfl rfl ?_ | refine WL.box (m := 1) (vs := [_]) st rfl rfl rfl rfl rfl rfl ?_ | refine WL.box st rfl rfl rfl rfl rfl rfl ?_
  intro b1 w st
  -- R0.1 2 := machinem.go:50 assign
  refine WL.v (by first | exact r_assign (v := .slice _ _ _) rfl | exact r_assign rfl) rfl rfl rfl ?_
  refine WL.fin hK540 (fun _ _ h => h) ?_
  refine WC.seq fun K541 hK541 => ?_
  refine WC.seq fun K542 hK542 => ?_
  -- region 1
  refine WC.region ?_
  -- R1.0 6 := machinem.go:51 load
  refine WL.v (by exact r_load1 (v := .pointer (some ⟨bm, 0, none⟩)) ty_one105 rfl (st.c0 (by decide))) rfl rfl rfl ?_
  -- R1.1 7 := machinem.go:51 nilCheck
  refine WL.v (by exact r_nilCheck rfl) rfl rfl rfl ?_
  -- R1.2 8 := machinem.go:51 fieldAddr
  refine WL.v (by exact r_field ty_fld147_0 rfl) rfl rfl rfl ?_
  -- R1.3 9 := machinem.go:51 load
  refine WL.v (by exact r_load1 (v := .int .u64 (now : Nat)) ty_one26 rfl (st.drop.c0 (by decide))) rfl rfl rfl ?_
  -- R1.4 10 := machinem.go:51 binOp
  refine WL.v (by first | exact r_neq rfl rfl (decide_eq_true (by omega)) | exact r_neq rfl rfl (decide_eq_false (by omega)) | exact r_neq rfl rfl rfl) rfl rfl rfl ?_
  refine WL.fin hK542 (fun _ _ h => h) ?_
  refine WC.condT rfl rfl ?_
  -- region 2
  refine WC.region ?_
  -- R2.0 11 := machinem.go:52 load
  refine WL.v (by exact r_load1 (v := .pointer (some ⟨bm, 0, none⟩)) ty_one105 rfl (st.c0 (by decide))) rfl rfl rfl ?_
  -- R2.1 12 := machinem.go:52 nilCheck
  refine WL.v (by exact r_nilCheck rfl) rfl rfl rfl ?_
  -- R2.2 13 := machinem.go:52 fieldAddr
  refine WL.v (by exact r_field ty_fld147_0 rfl) rfl rfl rfl ?_
  -- R2.3 14 := machinem.go:52 load
  refine WL.v (by exact r_load1 (v := .int .u64 (now : Nat)) ty_one26 rfl (st.drop.c0 (by decide))) rfl rfl rfl ?_
  -- R2.4 15 := machinem.go:52 binOp
  refine WL.v (by exact r_add (r := ((now + 1 : Nat) : Int)) rfl rfl (wu64 (by omega) (by omega))) rfl rfl rfl ?_
  -- R2.5 16 := machinem.go:52 nilCheck
  refine WL.v (by exact r_nilCheck rfl) rfl rfl rfl ?_
  -- R2.6 17 := machinem.go:52 fieldAddr
  refine WL.v (by exact r_field ty_fld147_0 rfl) rfl rfl rfl ?_
  -- R2.7 None := machinem.go:52 store
  refine WL.store (v := .int .u64 ((now + 1 : Nat) : Int)) st.front1 ty_one26 rfl rfl rfl (by decide) rfl rfl ?_
  intro w st
  have st := stE (mI_now (x := now + 1)) st
  refine WL.fin hK541 (fun _ _ h => h) ?_
  refine WC.seq fun K543 hK543 => ?_
  -- region 3
  refine WC.region ?_
  -- R3.0 3 := machinem.go:54 alloc
  refine WL.alloc (m := 1) st ty_zero145 rfl rfl rfl ?_
  intro b3 w st
  refine WL.fin hK543 (fun _ _ h => h) ?_
  refine WC.seq fun K544 hK544 => ?_
  refine WC.seq fun K545 hK545 => ?_
  -- region 4
  refine WC.region ?_
  -- R4.0 18 := machinem.go:55 load
  refine WL.v (by exact r_load1 (v := .pointer (some ⟨bm, 0, none⟩)) ty_one105 rfl (st.drop.drop.c0 (by decide))) rfl rfl rfl ?_
  -- R4.1 19 := machinem.go:55 nilCheck
  refine WL.v (by exact r_nilCheck rfl) rfl rfl rfl ?_
  -- R4.2 20 := machinem.go:55 fieldAddr
  refine WL.v (by exact r_field ty_fld147_2 rfl) rfl rfl rfl ?_
  -- R4.3 21 := machinem.go:55 load
  refine WL.v (by exact r_load1 (v := .slice aT timers.length cT) ty_one145 rfl (by rw [← hvT]; exact st.drop.c0 (by decide))) rfl rfl rfl ?_
  -- R4.4 22 := machinem.go:55 call
  refine WL.v (by exact r_len ty_usl145 rfl) rfl rfl rfl ?_
  -- R4.5 23 := machinem.go:55 move
  refine WL.v (by first | exact r_move (v := .int _ _) rfl | exact r_move rfl) rfl rfl rfl ?_
  refine WL.fin hK545 (fun _ _ h => h) ?_
  refine WC.block ?_
  refine WC.loop (ι := Nat × Value × List HI) (fun y => [(1, .pointer (some ⟨b1, 0, none⟩)), (3, .pointer (some ⟨b3, 0, none⟩)), (21, .slice aT timers.length cT), (22, .int .i64 (timers.length : Nat)), (23, .int .i64 (y.1 : Nat))])
    (fun y w' => y.1 ≤ timers.length ∧ TL0 y.2.1 (dueP (timers.take y.1) (now + 1)) y.2.2 ∧ S0 w0 (fI b3 y.2.1 :: mI bm (now + 1) armed tv :: bI b1 bm :: (y.2.2 ++ (XT ++ l))) w') (fun y => timers.length - y.1) (0, .slice none 0 0, []) ⟨Nat.zero_le _, LO.nil, st⟩ ?_ ?_
  · skip
    repeat (first | exact sub_nil _ | refine sub_cons rfl rfl ?_)
  clear st
  rintro ⟨i, fv, XF⟩ w ⟨hi, hoF, st⟩ K1 hK1
  dsimp only at hi hoF st ⊢
  by_cases hil : i = timers.length
  · subst hil
    rw [List.take_length] at hoF
    have hdl : (dueP timers (now + 1)).length ≤ timers.length := List.length_filter_le _ _
    have hdd : ∀ a b, a ∈ dueP timers (now + 1) → b ∈ dueP timers (now + 1) → a.1 = b.1 → a = b := fun a b ha hb => hd a b (List.mem_filter.1 ha).1 (List.mem_filter.1 hb).1
    obtain ⟨aF, cF, bF', rfl, -, -, -, -⟩ := hoF.form
    have st : S0 w0 (mI bm (now + 1) armed tv :: fI b3 (.slice aF (dueP timers (now + 1)).length cF) :: bI b1 bm :: (XT ++ (XF ++ l))) w := st.perm (by classical exact List.perm_iff_count.2 fun x => by simp only [List.count_append, List.count_cons, List.count_nil, List.append_eq, List.cons_append, List.nil_append, List.append_assoc, Nat.add_zero, Nat.zero_add] <;> ac_rfl)
    refine WC.seq fun K546 hK546 => ?_
    -- region 5
    refine WC.region ?_
    -- R5.0 24 := machinem.go:55 binOp
    refine WL.v (by first | exact r_lss rfl rfl (decide_eq_true (by omega)) | exact r_lss rfl rfl (decide_eq_false (by omega)) | exact r_lss rfl rfl rfl) rfl rfl rfl ?_
    refine WL.fin hK546 (fun _ _ h => h) ?_
    refine WC.seq fun K547 hK547 => ?_
    refine WC.condF rfl rfl ?_
    refine WC.exitF hK544 (fun _ _ h => h) ?_
    refine WC.seq fun K548 hK548 => ?_
    -- region 10 (draws)
    refine WC.heldS [7, 8, 9] [0, 1, 2, 3, 4, 5] [6, 7, 8, 9] st ((st.sublist (List.sublist_append_left [_, _, _] _) : S0 w0 [mI bm (now + 1) armed tv, fI b3 (.slice aF (dueP timers (now + 1)).length cF), bI b1 bm] w)) ty_mixed (by kernel_rfl) fun w st Kq hKq => ?_
    -- R10.0 39 := machinem.go:60 load
    refine HL.v (fun w st => by exact r_load1 (v := .pointer (some ⟨bm, 0, none⟩)) ty_one105 rfl (st.drop.drop.c0 (by decide))) rfl rfl rfl ?_
    -- R10.1 40 := machinem.go:60 load
    refine HL.v (fun w st => by exact r_load1 (v := .pointer (some ⟨bm, 0, none⟩)) ty_one105 rfl (st.drop.drop.c0 (by decide))) rfl rfl rfl ?_
    -- R10.2 41 := machinem.go:60 nilCheck
    refine HL.v (fun w st => by exact r_nilCheck rfl) rfl rfl rfl ?_
    -- R10.3 42 := machinem.go:60 fieldAddr
    refine HL.v (fun w st => by exact r_field ty_fld147_2 rfl) rfl rfl rfl ?_
    -- R10.4 43 := machinem.go:60 load
    refine HL.v (fun w st => by exact r_load1 (v := tv) ty_one145 rfl (st.c0 (by decide))) rfl rfl rfl ?_
    -- R10.5 44 := machinem.go:60 makeFunc
    refine HL.v (fun w st => by exact r_mkfn rfl rfl) rfl rfl rfl ?_
    refine HL.fin hKq ?_
    refine TL.at ?_
    -- R10.6 45 := machinem.go:60 call
    have st : S0 w0 (XT ++ (mI bm (now + 1) armed tv :: fI b3 (.slice aF (dueP timers (now + 1)).length cF) :: bI b1 bm :: (XF ++ l))) w := st.perm (by classical exact List.perm_iff_count.2 fun x => by simp only [List.count_append, List.count_cons, List.count_nil, List.append_eq, List.cons_append, List.nil_append, List.append_assoc, Nat.add_zero, Nat.zero_add] <;> ac_rfl)
    refine WL.call (r_call ty_call142 rfl) rfl rfl rfl (delFT_ok (p := fun q => decide (q.2.1 ≤ now + 1)) (F := 143) (cap := #[.pointer (some ⟨b1, 0, none⟩)]) ty_call143 hoT (fun I q w _ st => tick1_ok (bm := bm) (now := now + 1) (armed := armed) (tv := tv) (by simp) (by simp) st) st) ?_
    rintro _ w ⟨X', hoT', st⟩
    obtain ⟨a', c', b', rfl, -, -, -, -⟩ := hoT'.form
    have st : S0 w0 (mI bm (now + 1) armed tv :: fI b3 (.slice aF (dueP timers (now + 1)).length cF) :: bI b1 bm :: (X' ++ (XF ++ l))) w := st.perm (by classical exact List.perm_iff_count.2 fun x => by simp only [List.count_append, List.count_cons, List.count_nil, List.append_eq, List.cons_append, List.nil_append, List.append_assoc, Nat.add_zero, Nat.zero_add] <;> ac_rfl)
    refine TL.nxt (st.sublist (List.sublist_append_left [_, _, _] _)) ?_
    refine TL.at ?_
    -- R10.7 46 := machinem.go:60 nilCheck
    refine WL.v (by exact r_nilCheck rfl) rfl rfl rfl ?_
    refine TL.nxt' rfl ?_
    refine TL.at ?_
    -- R10.8 47 := machinem.go:60 fieldAddr
    refine WL.v (by exact r_field ty_fld147_2 rfl) rfl rfl rfl ?_
    refine TL.nxt' rfl ?_
    refine TL.at ?_
    -- R10.9 None := machinem.go:60 store
    refine WL.store (v := .slice a' _ c') st ty_one145 rfl rfl rfl (by decide) rfl rfl ?_
    intro w st
    have st := stE mI_tv st
    refine TL.nxt' rfl ?_
    refine TL.wl ?_
    refine WL.fin hK548 (fun _ _ h => h) ?_
    refine WC.seq fun K549 hK549 => ?_
    -- region 11
    refine WC.region ?_
    -- R11.0 48 := machinem.go:61 load
    refine WL.v (by exact r_load1 (v := .slice aF (dueP timers (now + 1)).length cF) ty_one145 rfl (st.drop.c0 (by decide))) rfl rfl rfl ?_
    -- R11.1 49 := machinem.go:61 makeInterface
    refine WL.v (by exact r_iface ty_conc145 rfl) rfl rfl rfl ?_
    -- R11.2 50 := machinem.go:61 makeFunc
    refine WL.v (by exact r_mkfn rfl rfl) rfl rfl rfl ?_
    -- R11.3 51 := machinem.go:61 call
    have st := (st.front1.perm (((List.perm_append_comm_assoc X' XF l).cons _ |>.cons _ |>.cons _))).perm (List.perm_append_comm_assoc [_, _, _] XF (X' ++ l))
    refine WL.call (r_call ty_call119 rfl) rfl rfl rfl (sort_ok hoF (by omega) hdd st) ?_
    rintro _ w ⟨rfl, XF', hoF', st⟩
    have st := st.perm (List.perm_append_comm_assoc XF' [_, _, _] _)
    refine WL.fin hK549 (fun _ _ h => h) ?_
    refine WC.seq fun K550 hK550 => ?_
    -- region 12
    refine WC.region ?_
    -- R12.0 52 := machinem.go:67 load
    refine WL.v (by exact r_load1 (v := .slice aF (dueP timers (now + 1)).length cF) ty_one145 rfl (st.c0 (by decide))) rfl rfl rfl ?_
    -- R12.1 2 := machinem.go:67 assign
    refine WL.v (by first | exact r_assign (v := .slice _ _ _) rfl | exact r_assign rfl) rfl rfl rfl ?_
    refine WL.fin hK550 (fun _ _ h => h) ?_
    refine WC.ret1 Tryz.results113 (fun _ _ h => h) rfl ?_
    exact ⟨_, rfl, XF', hoF', _, X', hoT', st.drop.drop1.perm (by classical exact List.perm_iff_count.2 fun x => by simp only [List.count_append, List.count_cons, List.count_nil, List.append_eq, List.cons_append, List.nil_append, List.append_assoc, Nat.add_zero, Nat.zero_add] <;> ac_rfl)⟩
  have hil' : i < timers.length := by omega
  obtain ⟨q, hqi⟩ : ∃ q, timers[i]? = some q := ⟨timers[i], List.getElem?_eq_getElem hil'⟩
  have hds := dueP_succ (now := now + 1) hqi
  have hdl : (dueP (timers.take i) (now + 1)).length ≤ timers.length := by have := List.length_filter_le (fun p => decide (p.2.1 ≤ now + 1)) (timers.take i); rw [List.length_take] at this; unfold dueP; omega
  obtain rfl := haT (by omega)
  have hce := fun k hk => hcellT st (fun x hx => List.mem_cons_of_mem _ (List.mem_cons_of_mem _ (List.mem_cons_of_mem _ (List.mem_append_right _ (List.mem_append_left _ hx))))) i q hqi k hk
  by_cases hdue : q.2.1 ≤ now + 1
  · rw [if_pos hdue] at hds
    refine WC.seq fun K551 hK551 => ?_
    -- region 5
    refine WC.region ?_
    -- R5.0 24 := machinem.go:55 binOp
    refine WL.v (by first | exact r_lss rfl rfl (decide_eq_true (by omega)) | exact r_lss rfl rfl (decide_eq_false (by omega)) | exact r_lss rfl rfl rfl) rfl rfl rfl ?_
    refine WL.fin hK551 (fun _ _ h => h) ?_
    refine WC.seq fun K552 hK552 => ?_
    refine WC.condT rfl rfl ?_
    refine WC.skipF hK552 (fun _ _ h => h) ?_
    refine WC.seq fun K553 hK553 => ?_
    refine WC.block ?_
    refine WC.seq fun K554 hK554 => ?_
    -- region 6
    refine WC.region ?_
    -- R6.0 25 := machinem.go:55 indexAddr
    refine WL.v (by exact r_indexS (j := i) ty_sl145 rfl rfl rfl (by omega)) rfl rfl rfl ?_
    -- R6.1 26 := machinem.go:55 load
    refine WL.v (by exact r_loadL (vs := [.int .u64 (q.1 : Nat), .int .u64 (q.2.1 : Nat), .int .u64 (q.2.2 : Nat)]) ty_agg164 rfl ⟨by rw [Nat.zero_add]; exact hce 0 (by decide), by rw [Nat.zero_add]; exact hce 1 (by decide), by rw [Nat.zero_add]; exact hce 2 (by decide), trivial⟩) rfl rfl rfl ?_
    -- R6.2 5 := machinem.go:55 alloc
    refine WL.alloc (m := 3) st ty_zero164 rfl rfl rfl ?_
    intro b5 w st
    -- R6.3 None := machinem.go:55 store
    first | refine WL.storeW (vs := [_, _, _]) st ty_agg164 rfl rfl rfl rfl rfl rfl ?_ | refine WL.storeL (vs := [_, _, _]) st ty_agg164 rfl rfl rfl rfl (by first | decide | omega) rfl rfl ?_ | refine WL.storeW (vs := [_, _, _]) st.front1 ty_agg164 rfl rfl rfl rfl rfl rfl ?_ | refine WL.storeL (vs := [_, _, _]) st.front1 ty_agg164 rfl rfl rfl rfl (by first | decide | omega) rfl rfl ?_ | refine WL.storeW (vs := [_, _, _]) st.front2 ty_agg164 rfl rfl rfl rfl rfl rfl ?_ | refine WL.storeL (vs := [_, _, _]) st.front2 ty_agg164 rfl rfl rfl rfl (by first | decide | omega) rfl rfl ?_ | refine WL.storeW (vs := [_, _, _]) st.front3 ty_agg164 rfl rfl rfl rfl rfl rfl ?_ | refine WL.storeL (vs := [_, _, _]) st.front3 ty_agg164 rfl rfl rfl rfl (by first | decide | omega) rfl rfl ?_ | refine WL.storeW (vs := [_, _, _]) st.front4 ty_agg164 rfl rfl rfl rfl rfl rfl ?_ | refine WL.storeL (vs := [_, _, _]) st.front4 ty_agg164 rfl rfl rfl rfl (by first | decide | omega) rfl rfl ?_ | refine WL.storeW (vs := [_, _, _]) st.front5 ty_agg164 rfl rfl rfl rfl rfl rfl ?_ | refine WL.storeL (vs := [_, _, _]) st.front5 ty_agg164 rfl rfl rfl rfl (by first | decide | omega) rfl rfl ?_ | refine WL.storeW (vs := [_, _, _]) st.front6 ty_agg164 rfl rfl rfl rfl rfl rfl ?_ | refine WL.storeL (vs := [_, _, _]) st.front6 ty_agg164 rfl rfl rfl rfl (by first | decide | omega) rfl rfl ?_ | refine WL.storeW (vs := [_, _, _]) st.front7 ty_agg164 rfl rfl rfl rfl rfl rfl ?_ | refine WL.storeL (vs := [_, _, _]) st.front7 ty_agg164 rfl rfl rfl rfl (by first | decide | omega) rfl rfl ?_ | refine WL.storeW (vs := [_, _, _]) st.front8 ty_agg164 rfl rfl rfl rfl rfl rfl ?_ | refine WL.storeL (vs := [_, _, _]) st.front8 ty_agg164 rfl rfl rfl rfl (by first | decide | omega) rfl rfl ?_
    intro w st
    refine WL.fin hK554 (fun _ _ h => h) ?_
    refine WC.seq fun K555 hK555 => ?_
    -- region 7 (draws)
    refine WC.quietS st ty_mixed (by kernel_rfl) fun Kq hKq => ?_
    -- R7.0 27 := machinem.go:56 fieldAddr
    refine QL.v (fun w st => by exact r_field ty_fld164_1 rfl) rfl rfl rfl ?_
    -- R7.1 28 := machinem.go:56 load
    refine QL.v (fun w st => by exact r_load1 ty_one26 rfl (by first | assumption | exact st.c0 (by first | decide | omega) | exact st.c1 (by first | decide | omega) | exact st.c2 (by first | decide | omega) | exact st.c3 (by first | decide | omega) | exact st.c4 (by first | decide | omega) | exact st.c5 (by first | decide | omega) | exact st.c6 (by first | decide | omega) | exact st.c7 (by first | decide | omega) | exact st.c8 (by first | decide | omega))) rfl rfl rfl ?_
    -- R7.2 29 := machinem.go:56 load
    refine QL.v (fun w st => by exact r_load1 (v := .pointer (some ⟨bm, 0, none⟩)) ty_one105 rfl (st.drop.drop.drop.c0 (by decide))) rfl rfl rfl ?_
    -- R7.3 30 := machinem.go:56 nilCheck
    refine QL.v (fun w st => by exact r_nilCheck rfl) rfl rfl rfl ?_
    -- R7.4 31 := machinem.go:56 fieldAddr
    refine QL.v (fun w st => by exact r_field ty_fld147_0 rfl) rfl rfl rfl ?_
    -- R7.5 32 := machinem.go:56 load
    refine QL.v (fun w st => by exact r_load1 (v := .int .u64 ((now + 1 : Nat) : Int)) ty_one26 rfl (st.drop.drop.c0 (by decide))) rfl rfl rfl ?_
    -- R7.6 33 := machinem.go:56 binOp
    refine QL.v (fun w st => by first | exact r_leq rfl rfl (decide_eq_true (by omega)) | exact r_leq rfl rfl (decide_eq_false (by omega)) | exact r_leq rfl rfl rfl) rfl rfl rfl ?_
    refine QL.wl hKq fun w st => ?_
    refine WL.fin hK555 (fun _ _ h => h) ?_
    refine WC.condT rfl rfl ?_
    -- region 8
    refine WC.region ?_
    -- R8.0 34 := machinem.go:57 load
    refine WL.v (by exact r_load1 (v := fv) ty_one145 rfl (st.drop.c0 (by decide))) rfl rfl rfl ?_
    -- R8.1 35 := machinem.go:57 load
    refine WL.v (by exact r_loadL (vs := [_, _, _]) ty_agg164 rfl ⟨(by first | assumption | exact st.c0 (by first | decide | omega) | exact st.c1 (by first | decide | omega) | exact st.c2 (by first | decide | omega) | exact st.c3 (by first | decide | omega) | exact st.c4 (by first | decide | omega) | exact st.c5 (by first | decide | omega) | exact st.c6 (by first | decide | omega) | exact st.c7 (by first | decide | omega) | exact st.c8 (by first | decide | omega)), (by first | assumption | exact st.c0 (by first | decide | omega) | exact st.c1 (by first | decide | omega) | exact st.c2 (by first | decide | omega) | exact st.c3 (by first | decide | omega) | exact st.c4 (by first | decide | omega) | exact st.c5 (by first | decide | omega) | exact st.c6 (by first | decide | omega) | exact st.c7 (by first | decide | omega) | exact st.c8 (by first | decide | omega)), (by first | assumption | exact st.c0 (by first | decide | omega) | exact st.c1 (by first | decide | omega) | exact st.c2 (by first | decide | omega) | exact st.c3 (by first | decide | omega) | exact st.c4 (by first | decide | omega) | exact st.c5 (by first | decide | omega) | exact st.c6 (by first | decide | omega) | exact st.c7 (by first | decide | omega) | exact st.c8 (by first | decide | omega)), trivial⟩) rfl rfl rfl ?_
    -- R8.2 36 := machinem.go:57 buildSlice
    first | refine WL.mkslice (m := 3) (vs := [.int _ _, .int _ _, .int _ _]) st ty_sl145 ty_zero164 rfl rfl rfl rfl rfl rfl ?_ | refine WL.mkslice (m := 3) (vs := [_, _, _]) st ty_sl145 ty_zero164 rfl rfl rfl rfl rfl rfl ?_ | refine WL.mkslice st ty_sl145 ty_zero164 rfl rfl rfl rfl rfl rfl ?_
    intro b36 w st
    -- R8.3 37 := machinem.go:57 call
    have c0 : ∀ k, k < 3 → w.cell? ⟨b36, 0 + k, none⟩ = some (tE q k) := fun k hk => by rw [st.c0 (by omega), Nat.zero_add]; rfl
    have st := st.perm (List.perm_append_comm_assoc [_, _, _, _, _] XF (XT ++ l))
    refine WL.appL (bx := b36) (ox := 0) (a := q) hoF st ty_mk145 ty_zero164 rfl (by decide) rfl rfl c0 tE_one (by omega) (by omega) rfl rfl rfl ?_
    intro v' X' w ho st
    obtain ⟨a', c', b', rfl, -, -, -, -⟩ := ho.form
    have st := (st.perm (List.perm_append_comm_assoc X' [_, _, _, _, _] _)).drop
    -- R8.4 None := machinem.go:57 store
    refine WL.store (v := .slice a' _ c') st.front1 ty_one145 rfl rfl rfl (by decide) rfl rfl ?_
    intro w st
    have st := (stE one_set st).drop1
    refine WL.fin hK553 (fun _ _ h => h) ?_
    -- region 9
    refine WC.region ?_
    -- R9.0 38 := machinem.go:55 binOp
    refine WL.v (by first | exact r_add rfl rfl (wi64 (by omega) (by omega)) | exact r_add rfl rfl rfl) rfl rfl rfl ?_
    -- R9.1 23 := machinem.go:55 move
    refine WL.v (by first | exact r_move (v := .int _ _) rfl | exact r_move rfl) rfl rfl rfl ?_
    refine WL.next hK1 (fun _ _ h => h) (i + 1, .slice a' _ c', X') ⟨hil', by rw [hds]; exact ho, st⟩ (by show timers.length - (i + 1) < timers.length - i; omega) (by repeat (first | exact sub_nil _ | refine sub_cons rfl rfl ?_))
  · rw [if_neg hdue, List.append_nil] at hds
    refine WC.seq fun K556 hK556 => ?_
    -- region 5
    refine WC.region ?_
    -- R5.0 24 := machinem.go:55 binOp
    refine WL.v (by first | exact r_lss rfl rfl (decide_eq_true (by omega)) | exact r_lss rfl rfl (decide_eq_false (by omega)) | exact r_lss rfl rfl rfl) rfl rfl rfl ?_
    refine WL.fin hK556 (fun _ _ h => h) ?_
    refine WC.seq fun K557 hK557 => ?_
    refine WC.condT rfl rfl ?_
    refine WC.skipF hK557 (fun _ _ h => h) ?_
    refine WC.seq fun K558 hK558 => ?_
    refine WC.block ?_
    refine WC.seq fun K559 hK559 => ?_
    -- region 6
    refine WC.region ?_
    -- R6.0 25 := machinem.go:55 indexAddr
    refine WL.v (by exact r_indexS (j := i) ty_sl145 rfl rfl rfl (by omega)) rfl rfl rfl ?_
    -- R6.1 26 := machinem.go:55 load
    refine WL.v (by exact r_loadL (vs := [.int .u64 (q.1 : Nat), .int .u64 (q.2.1 : Nat), .int .u64 (q.2.2 : Nat)]) ty_agg164 rfl ⟨by rw [Nat.zero_add]; exact hce 0 (by decide), by rw [Nat.zero_add]; exact hce 1 (by decide), by rw [Nat.zero_add]; exact hce 2 (by decide), trivial⟩) rfl rfl rfl ?_
    -- R6.2 5 := machinem.go:55 alloc
    refine WL.alloc (m := 3) st ty_zero164 rfl rfl rfl ?_
    intro b5 w st
    -- R6.3 None := machinem.go:55 store
    first | refine WL.storeW (vs := [_, _, _]) st ty_agg164 rfl rfl rfl rfl rfl rfl ?_ | refine WL.storeL (vs := [_, _, _]) st ty_agg164 rfl rfl rfl rfl (by first | decide | omega) rfl rfl ?_ | refine WL.storeW (vs := [_, _, _]) st.front1 ty_agg164 rfl rfl rfl rfl rfl rfl ?_ | refine WL.storeL (vs := [_, _, _]) st.front1 ty_agg164 rfl rfl rfl rfl (by first | decide | omega) rfl rfl ?_ | refine WL.storeW (vs := [_, _, _]) st.front2 ty_agg164 rfl rfl rfl rfl rfl rfl ?_ | refine WL.storeL (vs := [_, _, _]) st.front2 ty_agg164 rfl rfl rfl rfl (by first | decide | omega) rfl rfl ?_ | refine WL.storeW (vs := [_, _, _]) st.front3 ty_agg164 rfl rfl rfl rfl rfl rfl ?_ | refine WL.storeL (vs := [_, _, _]) st.front3 ty_agg164 rfl rfl rfl rfl (by first | decide | omega) rfl rfl ?_ | refine WL.storeW (vs := [_, _, _]) st.front4 ty_agg164 rfl rfl rfl rfl rfl rfl ?_ | refine WL.storeL (vs := [_, _, _]) st.front4 ty_agg164 rfl rfl rfl rfl (by first | decide | omega) rfl rfl ?_ | refine WL.storeW (vs := [_, _, _]) st.front5 ty_agg164 rfl rfl rfl rfl rfl rfl ?_ | refine WL.storeL (vs := [_, _, _]) st.front5 ty_agg164 rfl rfl rfl rfl (by first | decide | omega) rfl rfl ?_ | refine WL.storeW (vs := [_, _, _]) st.front6 ty_agg164 rfl rfl rfl rfl rfl rfl ?_ | refine WL.storeL (vs := [_, _, _]) st.front6 ty_agg164 rfl rfl rfl rfl (by first | decide | omega) rfl rfl ?_ | refine WL.storeW (vs := [_, _, _]) st.front7 ty_agg164 rfl rfl rfl rfl rfl rfl ?_ | refine WL.storeL (vs := [_, _, _]) st.front7 ty_agg164 rfl rfl rfl rfl (by first | decide | omega) rfl rfl ?_ | refine WL.storeW (vs := [_, _, _]) st.front8 ty_agg164 rfl rfl rfl rfl rfl rfl ?_ | refine WL.storeL (vs := [_, _, _]) st.front8 ty_agg164 rfl rfl rfl rfl (by first | decide | omega) rfl rfl ?_
    intro w st
    refine WL.fin hK559 (fun _ _ h => h) ?_
    refine WC.seq fun K560 hK560 => ?_
    -- region 7 (draws)
    refine WC.quietS st ty_mixed (by kernel_rfl) fun Kq hKq => ?_
    -- R7.0 27 := machinem.go:56 fieldAddr
    refine QL.v (fun w st => by exact r_field ty_fld164_1 rfl) rfl rfl rfl ?_
    -- R7.1 28 := machinem.go:56 load
    refine QL.v (fun w st => by exact r_load1 ty_one26 rfl (by first | assumption | exact st.c0 (by first | decide | omega) | exact st.c1 (by first | decide | omega) | exact st.c2 (by first | decide | omega) | exact st.c3 (by first | decide | omega) | exact st.c4 (by first | decide | omega) | exact st.c5 (by first | decide | omega) | exact st.c6 (by first | decide | omega) | exact st.c7 (by first | decide | omega) | exact st.c8 (by first | decide | omega))) rfl rfl rfl ?_
    -- R7.2 29 := machinem.go:56 load
    refine QL.v (fun w st => by exact r_load1 (v := .pointer (some ⟨bm, 0, none⟩)) ty_one105 rfl (st.drop.drop.drop.c0 (by decide))) rfl rfl rfl ?_
    -- R7.3 30 := machinem.go:56 nilCheck
    refine QL.v (fun w st => by exact r_nilCheck rfl) rfl rfl rfl ?_
    -- R7.4 31 := machinem.go:56 fieldAddr
    refine QL.v (fun w st => by exact r_field ty_fld147_0 rfl) rfl rfl rfl ?_
    -- R7.5 32 := machinem.go:56 load
    refine QL.v (fun w st => by exact r_load1 (v := .int .u64 ((now + 1 : Nat) : Int)) ty_one26 rfl (st.drop.drop.c0 (by decide))) rfl rfl rfl ?_
    -- R7.6 33 := machinem.go:56 binOp
    refine QL.v (fun w st => by first | exact r_leq rfl rfl (decide_eq_true (by omega)) | exact r_leq rfl rfl (decide_eq_false (by omega)) | exact r_leq rfl rfl rfl) rfl rfl rfl ?_
    refine QL.wl hKq fun w st => ?_
    refine WL.fin hK560 (fun _ _ h => h) ?_
    refine WC.condF rfl rfl ?_
    refine WC.skipF hK558 (fun _ _ h => h) ?_
    -- region 9
    refine WC.region ?_
    -- R9.0 38 := machinem.go:55 binOp
    refine WL.v (by first | exact r_add rfl rfl (wi64 (by omega) (by omega)) | exact r_add rfl rfl rfl) rfl rfl rfl ?_
    -- R9.1 23 := machinem.go:55 move
    refine WL.v (by first | exact r_move (v := .int _ _) rfl | exact r_move rfl) rfl rfl rfl ?_
    refine WL.next hK1 (fun _ _ h => h) (i + 1, fv, XF) ⟨hil', by rw [hds]; exact hoF, st.drop⟩ (by show timers.length - (i + 1) < timers.length - i; omega) (by repeat (first | exact sub_nil _ | refine sub_cons rfl rfl ?_))
end Go.Proofs.Qxb6500834aGreatDoor

