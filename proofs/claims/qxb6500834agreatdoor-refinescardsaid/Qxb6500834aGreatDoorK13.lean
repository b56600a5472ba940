import Derived.Test.Qxb6500834aGreatDoorK12
set_option linter.unusedVariables false
set_option linter.unusedSimpArgs false
set_option maxRecDepth 20000
namespace Go.Proofs.Qxb6500834aGreatDoor
open Go.RowKit Go.E1 Go.Kern
variable {w0 : World} {L L' l I J K K' X : List HI} {w : World} {M : KM} {s : KS} {XQ : Nat → List HI}
variable {bk br bp bm mode now armed t r : Nat} {held claim : Nat → Nat → Nat} {qv : Nat → Value} {tk : Nat → TK} {cells : Nat → Nat} {births : Nat} {ov v : Value} {Q : List (Nat × Nat)} {queue : Nat → List (Nat × Nat)}

/-! The rule by age. -/
def uF (F : Nat → Nat) (i : Nat) : Value := .int .u64 (F i : Nat)
theorem uF_set {F : Nat → Nat} {i n x : Nat} : ∀ k, k < n → upd (uF F) (0 + i * 1) (.int .u64 (x : Nat)) k = uF (updN F i x) k := fun k _ => by
  rw [upd_eq]
  unfold uF updN
  rw [show 0 + i * 1 = i by omega]
  split <;> rfl
theorem c_uF {F : Nat → Nat} {b T n i : Nat} (hm : (b, Row T n (uF F)) ∈ l) (hi : i < n) (st : S0 w0 l w) : w.cell? ⟨b, 0 + i * 1, none⟩ = some (.int .u64 (F i : Nat)) := by
  rw [st.cell hm (by omega), show 0 + i * 1 = i by omega]; rfl
def jStep (mode : Nat) (birth : Nat → Nat) (t : Nat) (p : Bool × Nat) (o : Nat) : Bool × Nat :=
  if mode = 1 ∧ birth o < birth t then (true, p.2) else if mode = 2 ∧ birth t < birth o then (p.1, p.2 ||| 2 ^ o) else p
def judgeF (mode : Nat) (birth : Nat → Nat) (t : Nat) (L : List Nat) : Bool × Nat := L.foldl (jStep mode birth t) (false, 0)
def judgeP (mode : Nat) (birth : Nat → Nat) (t rivals : Nat) : Bool × Nat := judgeF mode birth t (tasksP rivals)
theorem judgeF_snoc {birth : Nat → Nat} {L : List Nat} {o : Nat} : judgeF mode birth t (L ++ [o]) = jStep mode birth t (judgeF mode birth t L) o := by unfold judgeF; rw [List.foldl_append]; rfl
theorem judgeF_lt {birth : Nat → Nat} {L : List Nat} (h : ∀ o, o ∈ L → o < 16) : (judgeF mode birth t L).2 < 65536 := by
  unfold judgeF
  suffices H : ∀ (L : List Nat) (p : Bool × Nat), (∀ o, o ∈ L → o < 16) → p.2 < 65536 → (L.foldl (jStep mode birth t) p).2 < 65536 from H L _ h (by decide)
  intro L
  induction L with
  | nil => exact fun p _ hp => hp
  | cons o L ih =>
    intro p h hp
    refine ih _ (fun q hq => h q (List.mem_cons_of_mem _ hq)) ?_
    unfold jStep
    split
    · exact hp
    · split
      · exact orlt hp (pow16 (h o List.mem_cons_self))
      · exact hp
set_option maxHeartbeats 4000000 in
theorem judge_ok {bb rivals : Nat} {birth : Nat → Nat} (hD : gD w0) (ht : t < 16) (hrv : rivals < 65536) (hm : pI bp mode claim ∈ l) (hmb : (bb, Row 81 16 (uF birth)) ∈ l) (st : S0 w0 l w) :
    Calls Tryz.prog 136 #[.pointer (some ⟨bp, 0, none⟩), .pointer (some ⟨bb, 0, none⟩), .int .i64 (t : Nat), .int .u16 (rivals : Nat)] w (Ret fun v w' => v = .tuple #[.bool (judgeP mode birth t rivals).1, .int .u16 ((judgeP mode birth t rivals).2 : Nat)] ∧ S0 w0 l w') := by
  refine enter [.pointer (some ⟨bp, 0, none⟩), .pointer (some ⟨bb, 0, none⟩), .int .i64 (t : Nat), .int .u16 (rivals : Nat)] Tryz.func136 rfl Tryz.ntmps136 rfl ?_
  show WC _ _ _ 64 [] [(0, .pointer (some ⟨bp, 0, none⟩)), (1, .pointer (some ⟨bb, 0, none⟩)), (2, .int .i64 (t : Nat)), (3, .int .u16 (rivals : Nat))] _
  refine WC.seq fun K453 hK453 => ?_
  -- region 0
  refine WC.region ?_
  -- R0.0 8 := policym.go:83 assign
  refine WL.v (by first | exact r_assign (v := .bool _) rfl | exact r_assign rfl) rfl rfl rfl ?_
  -- R0.1 9 := policym.go:83 assign
  refine WL.v (by first | exact r_assign (v := .int _ _) rfl | exact r_assign rfl) rfl rfl rfl ?_
  refine WL.fin hK453 (fun _ _ h => h) ?_
  refine WC.seq fun K454 hK454 => ?_
  refine WC.seq fun K455 hK455 => ?_
  -- region 1
  refine WC.region ?_
  -- R1.0 12 := policym.go:84 move
  refine WL.v (by first | exact r_move (v := .int _ _) rfl | exact r_move rfl) rfl rfl rfl ?_
  -- R1.1 13 := policym.go:84 call
  refine WL.call (r_call ty_call31 rfl) rfl rfl rfl (tasks_ok hD hrv st) ?_
  rintro _ w ⟨X, ho, st⟩
  obtain ⟨Ts, hTs⟩ : ∃ Ts, Ts = tasksP rivals := ⟨_, rfl⟩
  have hT16 : ∀ o, o ∈ Ts → o < 16 := fun o h => by rw [hTs] at h; exact tasksP_lt h
  rw [← hTs] at ho
  obtain ⟨a, c, b, rfl, hc1, hc2, ha, hcell⟩ := ho.form
  -- R1.2 14 := policym.go:84 call
  refine WL.v (by exact r_len ty_usl54 rfl) rfl rfl rfl ?_
  -- R1.3 15 := policym.go:84 move
  refine WL.v (by first | exact r_move (v := .int _ _) rfl | exact r_move rfl) rfl rfl rfl ?_
  refine WL.fin hK455 (fun _ _ h => h) ?_
  refine WC.block ?_
  refine WC.loop (ι := Nat) (fun i => [(0, .pointer (some ⟨bp, 0, none⟩)), (1, .pointer (some ⟨bb, 0, none⟩)), (2, .int .i64 (t : Nat)), (8, .bool (judgeF mode birth t (Ts.take i)).1), (9, .int .u16 ((judgeF mode birth t (Ts.take i)).2 : Nat)), (13, .slice a Ts.length c), (14, .int .i64 (Ts.length : Nat)), (15, .int .i64 (i : Nat))])
    (fun i w' => i ≤ Ts.length ∧ S0 w0 (X ++ l) w') (fun i => Ts.length - i) 0 ⟨Nat.zero_le _, st⟩ ?_ ?_
  · skip
    repeat (first | exact sub_nil _ | refine sub_cons rfl rfl ?_)
  clear st
  rintro i w ⟨hi, st⟩ K1 hK1
  by_cases hil : i = Ts.length
  · subst hil
    refine WC.seq fun K456 hK456 => ?_
    -- region 2
    refine WC.region ?_
    -- R2.0 16 := policym.go:84 binOp
    refine WL.v (by first | exact r_lss rfl rfl (decide_eq_true (by omega)) | exact r_lss rfl rfl (decide_eq_false (by omega)) | exact r_lss rfl rfl rfl) rfl rfl rfl ?_
    refine WL.fin hK456 (fun _ _ h => h) ?_
    refine WC.seq fun K457 hK457 => ?_
    refine WC.condF rfl rfl ?_
    refine WC.exitF hK454 (fun _ _ h => h) ?_
    refine WC.seq fun K458 hK458 => ?_
    -- region 9
    refine WC.region ?_
    -- R9.0 62 := policym.go:92 move
    refine WL.v (by first | exact r_move (v := .bool _) rfl | exact r_move rfl) rfl rfl rfl ?_
    -- R9.1 63 := policym.go:92 move
    refine WL.v (by first | exact r_move (v := .int _ _) rfl | exact r_move rfl) rfl rfl rfl ?_
    -- R9.2 8 := policym.go:92 assign
    refine WL.v (by first | exact r_assign (v := .bool _) rfl | exact r_assign rfl) rfl rfl rfl ?_
    -- R9.3 9 := policym.go:92 assign
    refine WL.v (by first | exact r_assign (v := .int _ _) rfl | exact r_assign rfl) rfl rfl rfl ?_
    refine WL.fin hK458 (fun _ _ h => h) ?_
    refine WC.ret2 Tryz.results136 (fun _ _ h => h) rfl ?_
    exact ⟨_, rfl, by rw [List.take_length, hTs]; rfl, st_dropL st⟩
  have hil' : i < Ts.length := by omega
  obtain ⟨o, hoi⟩ : ∃ o, Ts[i]? = some o := ⟨Ts[i], List.getElem?_eq_getElem hil'⟩
  have ho16 := hT16 o (List.mem_of_getElem? hoi)
  have hsn : judgeF mode birth t (Ts.take (i + 1)) = jStep mode birth t (judgeF mode birth t (Ts.take i)) o := by rw [List.take_add_one, hoi]; exact judgeF_snoc
  have hlt := judgeF_lt (mode := mode) (birth := birth) (t := t) (L := Ts.take i) fun o h => hT16 o (List.mem_of_mem_take h)
  obtain rfl := ha (by omega)
  have hce := hcell st (List.subset_append_left _ _) i o hoi 0 (by decide)
  have hmm : pI bp mode claim ∈ X ++ l := List.mem_append_right _ hm
  have hmmb : (bb, Row 81 16 (uF birth)) ∈ X ++ l := List.mem_append_right _ hmb
  by_cases h1 : mode = 1
  · by_cases h2 : birth o < birth t
    · have e : jStep mode birth t (judgeF mode birth t (Ts.take i)) o = (true, (judgeF mode birth t (Ts.take i)).2) := if_pos ⟨h1, h2⟩
      refine WC.seq fun K459 hK459 => ?_
      -- region 2
      refine WC.region ?_
      -- R2.0 16 := policym.go:84 binOp
      refine WL.v (by first | exact r_lss rfl rfl (decide_eq_true (by omega)) | exact r_lss rfl rfl (decide_eq_false (by omega)) | exact r_lss rfl rfl rfl) rfl rfl rfl ?_
      refine WL.fin hK459 (fun _ _ h => h) ?_
      refine WC.seq fun K460 hK460 => ?_
      refine WC.condT rfl rfl ?_
      refine WC.skipF hK460 (fun _ _ h => h) ?_
      refine WC.seq fun K461 hK461 => ?_
      refine WC.block ?_
      refine WC.seq fun K462 hK462 => ?_
      -- region 3
      refine WC.region ?_
      -- R3.0 17 := policym.go:84 indexAddr
      refine WL.v (by exact r_indexS (j := i) ty_sl54 rfl rfl rfl (by omega)) rfl rfl rfl ?_
      -- R3.1 18 := policym.go:84 load
      refine WL.v (by exact r_load1 (v := .int .i64 (o : Nat)) ty_one31 rfl (by rw [Nat.zero_add]; exact hce)) rfl rfl rfl ?_
      -- R3.2 11 := policym.go:84 assign
      refine WL.v (by first | exact r_assign (v := .int _ _) rfl | exact r_assign rfl) rfl rfl rfl ?_
      refine WL.fin hK462 (fun _ _ h => h) ?_
      refine WC.block ?_
      refine WC.seq fun K463 hK463 => ?_
      -- region 4 (draws)
      refine WC.quietS st ty_mixed (by kernel_rfl) fun Kq hKq => ?_
      -- R4.0 20 := policym.go:86 move
      refine QL.v (fun w st => by first | exact r_move (v := .pointer _) rfl | exact r_move rfl) rfl rfl rfl ?_
      -- R4.1 21 := policym.go:86 nilCheck
      refine QL.v (fun w st => by exact r_nilCheck rfl) rfl rfl rfl ?_
      -- R4.2 22 := policym.go:86 fieldAddr
      refine QL.v (fun w st => by exact r_field ty_fld131_0 rfl) rfl rfl rfl ?_
      -- R4.3 23 := policym.go:86 load
      refine QL.v (fun w st => by exact r_load1 (v := .int .i64 (mode : Nat)) ty_one40 rfl (c_mode st hmm)) rfl rfl rfl ?_
      -- R4.4 24 := policym.go:86 binOp
      refine QL.v (fun w st => by first | exact r_eql rfl rfl (decide_eq_true (by omega)) | exact r_eql rfl rfl (decide_eq_false (by omega)) | exact r_eql rfl rfl rfl) rfl rfl rfl ?_
      -- R4.5 25 := policym.go:86 move
      refine QL.v (fun w st => by first | exact r_move (v := .bool _) rfl | exact r_move rfl) rfl rfl rfl ?_
      -- R4.6 26 := policym.go:86 move
      refine QL.v (fun w st => by first | exact r_move (v := .pointer _) rfl | exact r_move rfl) rfl rfl rfl ?_
      -- R4.7 27 := policym.go:86 move
      refine QL.v (fun w st => by first | exact r_move (v := .int _ _) rfl | exact r_move rfl) rfl rfl rfl ?_
      -- R4.8 28 := policym.go:86 nilCheck
      refine QL.v (fun w st => by exact r_nilCheck rfl) rfl rfl rfl ?_
      -- R4.9 29 := policym.go:86 indexAddr
      refine QL.v (fun w st => by exact r_indexA ty_ar81 rfl rfl rfl (by omega)) rfl rfl rfl ?_
      -- R4.10 30 := policym.go:86 load
      refine QL.v (fun w st => by exact r_load1 (v := .int .u64 (birth o : Nat)) ty_one26 rfl (c_uF hmmb ho16 st)) rfl rfl rfl ?_
      -- R4.11 31 := policym.go:86 move
      refine QL.v (fun w st => by first | exact r_move (v := .pointer _) rfl | exact r_move rfl) rfl rfl rfl ?_
      -- R4.12 32 := policym.go:86 move
      refine QL.v (fun w st => by first | exact r_move (v := .int _ _) rfl | exact r_move rfl) rfl rfl rfl ?_
      -- R4.13 33 := policym.go:86 nilCheck
      refine QL.v (fun w st => by exact r_nilCheck rfl) rfl rfl rfl ?_
      -- R4.14 34 := policym.go:86 indexAddr
      refine QL.v (fun w st => by exact r_indexA ty_ar81 rfl rfl rfl (by omega)) rfl rfl rfl ?_
      -- R4.15 35 := policym.go:86 load
      refine QL.v (fun w st => by exact r_load1 (v := .int .u64 (birth t : Nat)) ty_one26 rfl (c_uF hmmb ht st)) rfl rfl rfl ?_
      -- R4.16 36 := policym.go:86 binOp
      refine QL.v (fun w st => by first | exact r_lss rfl rfl (decide_eq_true (by omega)) | exact r_lss rfl rfl (decide_eq_false (by omega)) | exact r_lss rfl rfl rfl) rfl rfl rfl ?_
      -- R4.17 37 := policym.go:86 pick
      refine QL.v (fun w st => by first | exact r_pickT (v := .bool _) rfl rfl | exact r_pickF (v := .bool _) rfl rfl) rfl rfl rfl ?_
      -- R4.18 19 := policym.go:86 assign
      refine QL.v (fun w st => by first | exact r_assign (v := .bool _) rfl | exact r_assign rfl) rfl rfl rfl ?_
      refine QL.wl hKq fun w st => ?_
      refine WL.fin hK463 (fun _ _ h => h) ?_
      refine WC.condT rfl rfl ?_
      -- region 5
      refine WC.region ?_
      -- R5.0 8 := policym.go:87 assign
      refine WL.v (by first | exact r_assign (v := .bool _) rfl | exact r_assign rfl) rfl rfl rfl ?_
      refine WL.fin hK461 (fun _ _ h => h) ?_
      -- region 8
      refine WC.region ?_
      -- R8.0 61 := policym.go:84 binOp
      refine WL.v (by first | exact r_add rfl rfl (wi64 (by omega) (by omega)) | exact r_add rfl rfl rfl) rfl rfl rfl ?_
      -- R8.1 15 := policym.go:84 move
      refine WL.v (by first | exact r_move (v := .int _ _) rfl | exact r_move rfl) rfl rfl rfl ?_
      refine WL.next hK1 (fun _ _ h => h) (i + 1) ⟨hil', st⟩ (by omega) (by rw [hsn, e]; repeat (first | exact sub_nil _ | refine sub_cons rfl rfl ?_))
    · have e : jStep mode birth t (judgeF mode birth t (Ts.take i)) o = judgeF mode birth t (Ts.take i) := (if_neg (by omega)).trans (if_neg (by omega))
      refine WC.seq fun K464 hK464 => ?_
      -- region 2
      refine WC.region ?_
      -- R2.0 16 := policym.go:84 binOp
      refine WL.v (by first | exact r_lss rfl rfl (decide_eq_true (by omega)) | exact r_lss rfl rfl (decide_eq_false (by omega)) | exact r_lss rfl rfl rfl) rfl rfl rfl ?_
      refine WL.fin hK464 (fun _ _ h => h) ?_
      refine WC.seq fun K465 hK465 => ?_
      refine WC.condT rfl rfl ?_
      refine WC.skipF hK465 (fun _ _ h => h) ?_
      refine WC.seq fun K466 hK466 => ?_
      refine WC.block ?_
      refine WC.seq fun K467 hK467 => ?_
      -- region 3
      refine WC.region ?_
      -- R3.0 17 := policym.go:84 indexAddr
      refine WL.v (by exact r_indexS (j := i) ty_sl54 rfl rfl rfl (by omega)) rfl rfl rfl ?_
      -- R3.1 18 := policym.go:84 load
      refine WL.v (by exact r_load1 (v := .int .i64 (o : Nat)) ty_one31 rfl (by rw [Nat.zero_add]; exact hce)) rfl rfl rfl ?_
      -- R3.2 11 := policym.go:84 assign
      refine WL.v (by first | exact r_assign (v := .int _ _) rfl | exact r_assign rfl) rfl rfl rfl ?_
      refine WL.fin hK467 (fun _ _ h => h) ?_
      refine WC.block ?_
      refine WC.seq fun K468 hK468 => ?_
      -- region 4 (draws)
      refine WC.quietS st ty_mixed (by kernel_rfl) fun Kq hKq => ?_
      -- R4.0 20 := policym.go:86 move
      refine QL.v (fun w st => by first | exact r_move (v := .pointer _) rfl | exact r_move rfl) rfl rfl rfl ?_
      -- R4.1 21 := policym.go:86 nilCheck
      refine QL.v (fun w st => by exact r_nilCheck rfl) rfl rfl rfl ?_
      -- R4.2 22 := policym.go:86 fieldAddr
      refine QL.v (fun w st => by exact r_field ty_fld131_0 rfl) rfl rfl rfl ?_
      -- R4.3 23 := policym.go:86 load
      refine QL.v (fun w st => by exact r_load1 (v := .int .i64 (mode : Nat)) ty_one40 rfl (c_mode st hmm)) rfl rfl rfl ?_
      -- R4.4 24 := policym.go:86 binOp
      refine QL.v (fun w st => by first | exact r_eql rfl rfl (decide_eq_true (by omega)) | exact r_eql rfl rfl (decide_eq_false (by omega)) | exact r_eql rfl rfl rfl) rfl rfl rfl ?_
      -- R4.5 25 := policym.go:86 move
      refine QL.v (fun w st => by first | exact r_move (v := .bool _) rfl | exact r_move rfl) rfl rfl rfl ?_
      -- R4.6 26 := policym.go:86 move
      refine QL.v (fun w st => by first | exact r_move (v := .pointer _) rfl | exact r_move rfl) rfl rfl rfl ?_
      -- R4.7 27 := policym.go:86 move
      refine QL.v (fun w st => by first | exact r_move (v := .int _ _) rfl | exact r_move rfl) rfl rfl rfl ?_
      -- R4.8 28 := policym.go:86 nilCheck
      refine QL.v (fun w st => by exact r_nilCheck rfl) rfl rfl rfl ?_
      -- R4.9 29 := policym.go:86 indexAddr
      refine QL.v (fun w st => by exact r_indexA ty_ar81 rfl rfl rfl (by omega)) rfl rfl rfl ?_
      -- R4.10 30 := policym.go:86 load
      refine QL.v (fun w st => by exact r_load1 (v := .int .u64 (birth o : Nat)) ty_one26 rfl (c_uF hmmb ho16 st)) rfl rfl rfl ?_
      -- R4.11 31 := policym.go:86 move
      refine QL.v (fun w st => by first | exact r_move (v := .pointer _) rfl | exact r_move rfl) rfl rfl rfl ?_
      -- R4.12 32 := policym.go:86 move
      refine QL.v (fun w st => by first | exact r_move (v := .int _ _) rfl | exact r_move rfl) rfl rfl rfl ?_
      -- R4.13 33 := policym.go:86 nilCheck
      refine QL.v (fun w st => by exact r_nilCheck rfl) rfl rfl rfl ?_
      -- R4.14 34 := policym.go:86 indexAddr
      refine QL.v (fun w st => by exact r_indexA ty_ar81 rfl rfl rfl (by omega)) rfl rfl rfl ?_
      -- R4.15 35 := policym.go:86 load
      refine QL.v (fun w st => by exact r_load1 (v := .int .u64 (birth t : Nat)) ty_one26 rfl (c_uF hmmb ht st)) rfl rfl rfl ?_
      -- R4.16 36 := policym.go:86 binOp
      refine QL.v (fun w st => by first | exact r_lss rfl rfl (decide_eq_true (by omega)) | exact r_lss rfl rfl (decide_eq_false (by omega)) | exact r_lss rfl rfl rfl) rfl rfl rfl ?_
      -- R4.17 37 := policym.go:86 pick
      refine QL.v (fun w st => by first | exact r_pickT (v := .bool _) rfl rfl | exact r_pickF (v := .bool _) rfl rfl) rfl rfl rfl ?_
      -- R4.18 19 := policym.go:86 assign
      refine QL.v (fun w st => by first | exact r_assign (v := .bool _) rfl | exact r_assign rfl) rfl rfl rfl ?_
      refine QL.wl hKq fun w st => ?_
      refine WL.fin hK468 (fun _ _ h => h) ?_
      refine WC.condF rfl rfl ?_
      refine WC.seq fun K469 hK469 => ?_
      -- region 6 (draws)
      refine WC.quietS st ty_mixed (by kernel_rfl) fun Kq hKq => ?_
      -- R6.0 39 := policym.go:88 move
      refine QL.v (fun w st => by first | exact r_move (v := .pointer _) rfl | exact r_move rfl) rfl rfl rfl ?_
      -- R6.1 40 := policym.go:88 nilCheck
      refine QL.v (fun w st => by exact r_nilCheck rfl) rfl rfl rfl ?_
      -- R6.2 41 := policym.go:88 fieldAddr
      refine QL.v (fun w st => by exact r_field ty_fld131_0 rfl) rfl rfl rfl ?_
      -- R6.3 42 := policym.go:88 load
      refine QL.v (fun w st => by exact r_load1 (v := .int .i64 (mode : Nat)) ty_one40 rfl (c_mode st hmm)) rfl rfl rfl ?_
      -- R6.4 43 := policym.go:88 binOp
      refine QL.v (fun w st => by first | exact r_eql rfl rfl (decide_eq_true (by omega)) | exact r_eql rfl rfl (decide_eq_false (by omega)) | exact r_eql rfl rfl rfl) rfl rfl rfl ?_
      -- R6.5 44 := policym.go:88 move
      refine QL.v (fun w st => by first | exact r_move (v := .bool _) rfl | exact r_move rfl) rfl rfl rfl ?_
      -- R6.6 45 := policym.go:88 move
      refine QL.no rfl rfl ?_
      -- R6.7 46 := policym.go:88 move
      refine QL.no rfl rfl ?_
      -- R6.8 47 := policym.go:88 nilCheck
      refine QL.no rfl rfl ?_
      -- R6.9 48 := policym.go:88 indexAddr
      refine QL.no rfl rfl ?_
      -- R6.10 49 := policym.go:88 load
      refine QL.no rfl rfl ?_
      -- R6.11 50 := policym.go:88 move
      refine QL.no rfl rfl ?_
      -- R6.12 51 := policym.go:88 move
      refine QL.no rfl rfl ?_
      -- R6.13 52 := policym.go:88 nilCheck
      refine QL.no rfl rfl ?_
      -- R6.14 53 := policym.go:88 indexAddr
      refine QL.no rfl rfl ?_
      -- R6.15 54 := policym.go:88 load
      refine QL.no rfl rfl ?_
      -- R6.16 55 := policym.go:88 binOp
      refine QL.no rfl rfl ?_
      -- R6.17 56 := policym.go:88 pick
      refine QL.v (fun w st => by first | exact r_pickT (v := .bool _) rfl rfl | exact r_pickF (v := .bool _) rfl rfl) rfl rfl rfl ?_
      -- R6.18 38 := policym.go:88 assign
      refine QL.v (fun w st => by first | exact r_assign (v := .bool _) rfl | exact r_assign rfl) rfl rfl rfl ?_
      refine QL.wl hKq fun w st => ?_
      refine WL.fin hK469 (fun _ _ h => h) ?_
      refine WC.condF rfl rfl ?_
      refine WC.skipF hK466 (fun _ _ h => h) ?_
      -- region 8
      refine WC.region ?_
      -- R8.0 61 := policym.go:84 binOp
      refine WL.v (by first | exact r_add rfl rfl (wi64 (by omega) (by omega)) | exact r_add rfl rfl rfl) rfl rfl rfl ?_
      -- R8.1 15 := policym.go:84 move
      refine WL.v (by first | exact r_move (v := .int _ _) rfl | exact r_move rfl) rfl rfl rfl ?_
      refine WL.next hK1 (fun _ _ h => h) (i + 1) ⟨hil', st⟩ (by omega) (by rw [hsn, e]; repeat (first | exact sub_nil _ | refine sub_cons rfl rfl ?_))
  · skip
    by_cases h2 : mode = 2
    · skip
      by_cases h3 : birth t < birth o
      · have e : jStep mode birth t (judgeF mode birth t (Ts.take i)) o = ((judgeF mode birth t (Ts.take i)).1, (judgeF mode birth t (Ts.take i)).2 ||| 2 ^ o) := (if_neg (by omega)).trans (if_pos ⟨h2, h3⟩)
        refine WC.seq fun K470 hK470 => ?_
        -- region 2
        refine WC.region ?_
        -- R2.0 16 := policym.go:84 binOp
        refine WL.v (by first | exact r_lss rfl rfl (decide_eq_true (by omega)) | exact r_lss rfl rfl (decide_eq_false (by omega)) | exact r_lss rfl rfl rfl) rfl rfl rfl ?_
        refine WL.fin hK470 (fun _ _ h => h) ?_
        refine WC.seq fun K471 hK471 => ?_
        refine WC.condT rfl rfl ?_
        refine WC.skipF hK471 (fun _ _ h => h) ?_
        refine WC.seq fun K472 hK472 => ?_
        refine WC.block ?_
        refine WC.seq fun K473 hK473 => ?_
        -- region 3
        refine WC.region ?_
        -- R3.0 17 := policym.go:84 indexAddr
        refine WL.v (by exact r_indexS (j := i) ty_sl54 rfl rfl rfl (by omega)) rfl rfl rfl ?_
        -- R3.1 18 := policym.go:84 load
        refine WL.v (by exact r_load1 (v := .int .i64 (o : Nat)) ty_one31 rfl (by rw [Nat.zero_add]; exact hce)) rfl rfl rfl ?_
        -- R3.2 11 := policym.go:84 assign
        refine WL.v (by first | exact r_assign (v := .int _ _) rfl | exact r_assign rfl) rfl rfl rfl ?_
        refine WL.fin hK473 (fun _ _ h => h) ?_
        refine WC.block ?_
        refine WC.seq fun K474 hK474 => ?_
        -- region 4 (draws)
        refine WC.quietS st ty_mixed (by kernel_rfl) fun Kq hKq => ?_
        -- R4.0 20 := policym.go:86 move
        refine QL.v (fun w st => by first | exact r_move (v := .pointer _) rfl | exact r_move rfl) rfl rfl rfl ?_
        -- R4.1 21 := policym.go:86 nilCheck
        refine QL.v (fun w st => by exact r_nilCheck rfl) rfl rfl rfl ?_
        -- R4.2 22 := policym.go:86 fieldAddr
        refine QL.v (fun w st => by exact r_field ty_fld131_0 rfl) rfl rfl rfl ?_
        -- R4.3 23 := policym.go:86 load
        refine QL.v (fun w st => by exact r_load1 (v := .int .i64 (mode : Nat)) ty_one40 rfl (c_mode st hmm)) rfl rfl rfl ?_
        -- R4.4 24 := policym.go:86 binOp
        refine QL.v (fun w st => by first | exact r_eql rfl rfl (decide_eq_true (by omega)) | exact r_eql rfl rfl (decide_eq_false (by omega)) | exact r_eql rfl rfl rfl) rfl rfl rfl ?_
        -- R4.5 25 := policym.go:86 move
        refine QL.v (fun w st => by first | exact r_move (v := .bool _) rfl | exact r_move rfl) rfl rfl rfl ?_
        -- R4.6 26 := policym.go:86 move
        refine QL.no rfl rfl ?_
        -- R4.7 27 := policym.go:86 move
        refine QL.no rfl rfl ?_
        -- R4.8 28 := policym.go:86 nilCheck
        refine QL.no rfl rfl ?_
        -- R4.9 29 := policym.go:86 indexAddr
        refine QL.no rfl rfl ?_
        -- R4.10 30 := policym.go:86 load
        refine QL.no rfl rfl ?_
        -- R4.11 31 := policym.go:86 move
        refine QL.no rfl rfl ?_
        -- R4.12 32 := policym.go:86 move
        refine QL.no rfl rfl ?_
        -- R4.13 33 := policym.go:86 nilCheck
        refine QL.no rfl rfl ?_
        -- R4.14 34 := policym.go:86 indexAddr
        refine QL.no rfl rfl ?_
        -- R4.15 35 := policym.go:86 load
        refine QL.no rfl rfl ?_
        -- R4.16 36 := policym.go:86 binOp
        refine QL.no rfl rfl ?_
        -- R4.17 37 := policym.go:86 pick
        refine QL.v (fun w st => by first | exact r_pickT (v := .bool _) rfl rfl | exact r_pickF (v := .bool _) rfl rfl) rfl rfl rfl ?_
        -- R4.18 19 := policym.go:86 assign
        refine QL.v (fun w st => by first | exact r_assign (v := .bool _) rfl | exact r_assign rfl) rfl rfl rfl ?_
        refine QL.wl hKq fun w st => ?_
        refine WL.fin hK474 (fun _ _ h => h) ?_
        refine WC.condF rfl rfl ?_
        refine WC.seq fun K475 hK475 => ?_
        -- region 6 (draws)
        refine WC.quietS st ty_mixed (by kernel_rfl) fun Kq hKq => ?_
        -- R6.0 39 := policym.go:88 move
        refine QL.v (fun w st => by first | exact r_move (v := .pointer _) rfl | exact r_move rfl) rfl rfl rfl ?_
        -- R6.1 40 := policym.go:88 nilCheck
        refine QL.v (fun w st => by exact r_nilCheck rfl) rfl rfl rfl ?_
        -- R6.2 41 := policym.go:88 fieldAddr
        refine QL.v (fun w st => by exact r_field ty_fld131_0 rfl) rfl rfl rfl ?_
        -- R6.3 42 := policym.go:88 load
        refine QL.v (fun w st => by exact r_load1 (v := .int .i64 (mode : Nat)) ty_one40 rfl (c_mode st hmm)) rfl rfl rfl ?_
        -- R6.4 43 := policym.go:88 binOp
        refine QL.v (fun w st => by first | exact r_eql rfl rfl (decide_eq_true (by omega)) | exact r_eql rfl rfl (decide_eq_false (by omega)) | exact r_eql rfl rfl rfl) rfl rfl rfl ?_
        -- R6.5 44 := policym.go:88 move
        refine QL.v (fun w st => by first | exact r_move (v := .bool _) rfl | exact r_move rfl) rfl rfl rfl ?_
        -- R6.6 45 := policym.go:88 move
        refine QL.v (fun w st => by first | exact r_move (v := .pointer _) rfl | exact r_move rfl) rfl rfl rfl ?_
        -- R6.7 46 := policym.go:88 move
        refine QL.v (fun w st => by first | exact r_move (v := .int _ _) rfl | exact r_move rfl) rfl rfl rfl ?_
        -- R6.8 47 := policym.go:88 nilCheck
        refine QL.v (fun w st => by exact r_nilCheck rfl) rfl rfl rfl ?_
        -- R6.9 48 := policym.go:88 indexAddr
        refine QL.v (fun w st => by exact r_indexA ty_ar81 rfl rfl rfl (by omega)) rfl rfl rfl ?_
        -- R6.10 49 := policym.go:88 load
        refine QL.v (fun w st => by exact r_load1 (v := .int .u64 (birth o : Nat)) ty_one26 rfl (c_uF hmmb ho16 st)) rfl rfl rfl ?_
        -- R6.11 50 := policym.go:88 move
        refine QL.v (fun w st => by first | exact r_move (v := .pointer _) rfl | exact r_move rfl) rfl rfl rfl ?_
        -- R6.12 51 := policym.go:88 move
        refine QL.v (fun w st => by first | exact r_move (v := .int _ _) rfl | exact r_move rfl) rfl rfl rfl ?_
        -- R6.13 52 := policym.go:88 nilCheck
        refine QL.v (fun w st => by exact r_nilCheck rfl) rfl rfl rfl ?_
        -- R6.14 53 := policym.go:88 indexAddr
        refine QL.v (fun w st => by exact r_indexA ty_ar81 rfl rfl rfl (by omega)) rfl rfl rfl ?_
        -- R6.15 54 := policym.go:88 load
        refine QL.v (fun w st => by exact r_load1 (v := .int .u64 (birth t : Nat)) ty_one26 rfl (c_uF hmmb ht st)) rfl rfl rfl ?_
        -- R6.16 55 := policym.go:88 binOp
        refine QL.v (fun w st => by first | exact r_gtr rfl rfl (decide_eq_true (by omega)) | exact r_gtr rfl rfl (decide_eq_false (by omega)) | exact r_gtr rfl rfl rfl) rfl rfl rfl ?_
        -- R6.17 56 := policym.go:88 pick
        refine QL.v (fun w st => by first | exact r_pickT (v := .bool _) rfl rfl | exact r_pickF (v := .bool _) rfl rfl) rfl rfl rfl ?_
        -- R6.18 38 := policym.go:88 assign
        refine QL.v (fun w st => by first | exact r_assign (v := .bool _) rfl | exact r_assign rfl) rfl rfl rfl ?_
        refine QL.wl hKq fun w st => ?_
        refine WL.fin hK475 (fun _ _ h => h) ?_
        refine WC.condT rfl rfl ?_
        -- region 7
        refine WC.region ?_
        -- R7.0 57 := policym.go:89 move
        refine WL.v (by first | exact r_move (v := .int _ _) rfl | exact r_move rfl) rfl rfl rfl ?_
        -- R7.1 58 := policym.go:89 move
        refine WL.v (by first | exact r_move (v := .int _ _) rfl | exact r_move rfl) rfl rfl rfl ?_
        -- R7.2 59 := policym.go:89 call
        refine WL.call (r_call ty_call30 rfl) rfl rfl rfl (bit_ok ho16 st) ?_
        rintro _ w ⟨rfl, st⟩
        -- R7.3 60 := policym.go:89 binOp
        refine WL.v (by exact r_or (r := (((judgeF mode birth t (Ts.take i)).2 ||| 2 ^ o : Nat) : Int)) rfl rfl (or16 hlt (pow16 ho16))) rfl rfl rfl ?_
        -- R7.4 9 := policym.go:89 assign
        refine WL.v (by first | exact r_assign (v := .int _ _) rfl | exact r_assign rfl) rfl rfl rfl ?_
        refine WL.fin hK472 (fun _ _ h => h) ?_
        -- region 8
        refine WC.region ?_
        -- R8.0 61 := policym.go:84 binOp
        refine WL.v (by first | exact r_add rfl rfl (wi64 (by omega) (by omega)) | exact r_add rfl rfl rfl) rfl rfl rfl ?_
        -- R8.1 15 := policym.go:84 move
        refine WL.v (by first | exact r_move (v := .int _ _) rfl | exact r_move rfl) rfl rfl rfl ?_
        refine WL.next hK1 (fun _ _ h => h) (i + 1) ⟨hil', st⟩ (by omega) (by rw [hsn, e]; repeat (first | exact sub_nil _ | refine sub_cons rfl rfl ?_))
      · have e : jStep mode birth t (judgeF mode birth t (Ts.take i)) o = judgeF mode birth t (Ts.take i) := (if_neg (by omega)).trans (if_neg (by omega))
        refine WC.seq fun K476 hK476 => ?_
        -- region 2
        refine WC.region ?_
        -- R2.0 16 := policym.go:84 binOp
        refine WL.v (by first | exact r_lss rfl rfl (decide_eq_true (by omega)) | exact r_lss rfl rfl (decide_eq_false (by omega)) | exact r_lss rfl rfl rfl) rfl rfl rfl ?_
        refine WL.fin hK476 (fun _ _ h => h) ?_
        refine WC.seq fun K477 hK477 => ?_
        refine WC.condT rfl rfl ?_
        refine WC.skipF hK477 (fun _ _ h => h) ?_
        refine WC.seq fun K478 hK478 => ?_
        refine WC.block ?_
        refine WC.seq fun K479 hK479 => ?_
        -- region 3
        refine WC.region ?_
        -- R3.0 17 := policym.go:84 indexAddr
        refine WL.v (by exact r_indexS (j := i) ty_sl54 rfl rfl rfl (by omega)) rfl rfl rfl ?_
        -- R3.1 18 := policym.go:84 load
        refine WL.v (by exact r_load1 (v := .int .i64 (o : Nat)) ty_one31 rfl (by rw [Nat.zero_add]; exact hce)) rfl rfl rfl ?_
        -- R3.2 11 := policym.go:84 assign
        refine WL.v (by first | exact r_assign (v := .int _ _) rfl | exact r_assign rfl) rfl rfl rfl ?_
        refine WL.fin hK479 (fun _ _ h => h) ?_
        refine WC.block ?_
        refine WC.seq fun K480 hK480 => ?_
        -- region 4 (draws)
        refine WC.quietS st ty_mixed (by kernel_rfl) fun Kq hKq => ?_
        -- R4.0 20 := policym.go:86 move
        refine QL.v (fun w st => by first | exact r_move (v := .pointer _) rfl | exact r_move rfl) rfl rfl rfl ?_
        -- R4.1 21 := policym.go:86 nilCheck
        refine QL.v (fun w st => by exact r_nilCheck rfl) rfl rfl rfl ?_
        -- R4.2 22 := policym.go:86 fieldAddr
        refine QL.v (fun w st => by exact r_field ty_fld131_0 rfl) rfl rfl rfl ?_
        -- R4.3 23 := policym.go:86 load
        refine QL.v (fun w st => by exact r_load1 (v := .int .i64 (mode : Nat)) ty_one40 rfl (c_mode st hmm)) rfl rfl rfl ?_
        -- R4.4 24 := policym.go:86 binOp
        refine QL.v (fun w st => by first | exact r_eql rfl rfl (decide_eq_true (by omega)) | exact r_eql rfl rfl (decide_eq_false (by omega)) | exact r_eql rfl rfl rfl) rfl rfl rfl ?_
        -- R4.5 25 := policym.go:86 move
        refine QL.v (fun w st => by first | exact r_move (v := .bool _) rfl | exact r_move rfl) rfl rfl rfl ?_
        -- R4.6 26 := policym.go:86 move
        refine QL.no rfl rfl ?_
        -- R4.7 27 := policym.go:86 move
        refine QL.no rfl rfl ?_
        -- R4.8 28 := policym.go:86 nilCheck
        refine QL.no rfl rfl ?_
        -- R4.9 29 := policym.go:86 indexAddr
        refine QL.no rfl rfl ?_
        -- R4.10 30 := policym.go:86 load
        refine QL.no rfl rfl ?_
        -- R4.11 31 := policym.go:86 move
        refine QL.no rfl rfl ?_
        -- R4.12 32 := policym.go:86 move
        refine QL.no rfl rfl ?_
        -- R4.13 33 := policym.go:86 nilCheck
        refine QL.no rfl rfl ?_
        -- R4.14 34 := policym.go:86 indexAddr
        refine QL.no rfl rfl ?_
        -- R4.15 35 := policym.go:86 load
        refine QL.no rfl rfl ?_
        -- R4.16 36 := policym.go:86 binOp
        refine QL.no rfl rfl ?_
        -- R4.17 37 := policym.go:86 pick
        refine QL.v (fun w st => by first | exact r_pickT (v := .bool _) rfl rfl | exact r_pickF (v := .bool _) rfl rfl) rfl rfl rfl ?_
        -- R4.18 19 := policym.go:86 assign
        refine QL.v (fun w st => by first | exact r_assign (v := .bool _) rfl | exact r_assign rfl) rfl rfl rfl ?_
        refine QL.wl hKq fun w st => ?_
        refine WL.fin hK480 (fun _ _ h => h) ?_
        refine WC.condF rfl rfl ?_
        refine WC.seq fun K481 hK481 => ?_
        -- region 6 (draws)
        refine WC.quietS st ty_mixed (by kernel_rfl) fun Kq hKq => ?_
        -- R6.0 39 := policym.go:88 move
        refine QL.v (fun w st => by first | exact r_move (v := .pointer _) rfl | exact r_move rfl) rfl rfl rfl ?_
        -- R6.1 40 := policym.go:88 nilCheck
        refine QL.v (fun w st => by exact r_nilCheck rfl) rfl rfl rfl ?_
        -- R6.2 41 := policym.go:88 fieldAddr
        refine QL.v (fun w st => by exact r_field ty_fld131_0 rfl) rfl rfl rfl ?_
        -- R6.3 42 := policym.go:88 load
        refine QL.v (fun w st => by exact r_load1 (v := .int .i64 (mode : Nat)) ty_one40 rfl (c_mode st hmm)) rfl rfl rfl ?_
        -- R6.4 43 := policym.go:88 binOp
        refine QL.v (fun w st => by first | exact r_eql rfl rfl (decide_eq_true (by omega)) | exact r_eql rfl rfl (decide_eq_false (by omega)) | exact r_eql rfl rfl rfl) rfl rfl rfl ?_
        -- R6.5 44 := policym.go:88 move
        refine QL.v (fun w st => by first | exact r_move (v := .bool _) rfl | exact r_move rfl) rfl rfl rfl ?_
        -- R6.6 45 := policym.go:88 move
        refine QL.v (fun w st => by first | exact r_move (v := .pointer _) rfl | exact r_move rfl) rfl rfl rfl ?_
        -- R6.7 46 := policym.go:88 move
        refine QL.v (fun w st => by first | exact r_move (v := .int _ _) rfl | exact r_move rfl) rfl rfl rfl ?_
        -- R6.8 47 := policym.go:88 nilCheck
        refine QL.v (fun w st => by exact r_nilCheck rfl) rfl rfl rfl ?_
        -- R6.9 48 := policym.go:88 indexAddr
        refine QL.v (fun w st => by exact r_indexA ty_ar81 rfl rfl rfl (by omega)) rfl rfl rfl ?_
        -- R6.10 49 := policym.go:88 load
        refine QL.v (fun w st => by exact r_load1 (v := .int .u64 (birth o : Nat)) ty_one26 rfl (c_uF hmmb ho16 st)) rfl rfl rfl ?_
        -- R6.11 50 := policym.go:88 move
        refine QL.v (fun w st => by first | exact r_move (v := .pointer _) rfl | exact r_move rfl) rfl rfl rfl ?_
        -- R6.12 51 := policym.go:88 move
        refine QL.v (fun w st => by first | exact r_move (v := .int _ _) rfl | exact r_move rfl) rfl rfl rfl ?_
        -- R6.13 52 := policym.go:88 nilCheck
        refine QL.v (fun w st => by exact r_nilCheck rfl) rfl rfl rfl ?_
        -- R6.14 53 := policym.go:88 indexAddr
        refine QL.v (fun w st => by exact r_indexA ty_ar81 rfl rfl rfl (by omega)) rfl rfl rfl ?_
        -- R6.15 54 := policym.go:88 load
        refine QL.v (fun w st => by exact r_load1 (v := .int .u64 (birth t : Nat)) ty_one26 rfl (c_uF hmmb ht st)) rfl rfl rfl ?_
        -- R6.16 55 := policym.go:88 binOp
        refine QL.v (fun w st => by first | exact r_gtr rfl rfl (decide_eq_true (by omega)) | exact r_gtr rfl rfl (decide_eq_false (by omega)) | exact r_gtr rfl rfl rfl) rfl rfl rfl ?_
        -- R6.17 56 := policym.go:88 pick
        refine QL.v (fun w st => by first | exact r_pickT (v := .bool _) rfl rfl | exact r_pickF (v := .bool _) rfl rfl) rfl rfl rfl ?_
        -- R6.18 38 := policym.go:88 assign
        refine QL.v (fun w st => by first | exact r_assign (v := .bool _) rfl | exact r_assign rfl) rfl rfl rfl ?_
        refine QL.wl hKq fun w st => ?_
        refine WL.fin hK481 (fun _ _ h => h) ?_
        refine WC.condF rfl rfl ?_
        refine WC.skipF hK478 (fun _ _ h => h) ?_
        -- region 8
        refine WC.region ?_
        -- R8.0 61 := policym.go:84 binOp
        refine WL.v (by first | exact r_add rfl rfl (wi64 (by omega) (by omega)) | exact r_add rfl rfl rfl) rfl rfl rfl ?_
        -- R8.1 15 := policym.go:84 move
        refine WL.v (by first | exact r_move (v := .int _ _) rfl | exact r_move rfl) rfl rfl rfl ?_
        refine WL.next hK1 (fun _ _ h => h) (i + 1) ⟨hil', st⟩ (by omega) (by rw [hsn, e]; repeat (first | exact sub_nil _ | refine sub_cons rfl rfl ?_))
    · have e : jStep mode birth t (judgeF mode birth t (Ts.take i)) o = judgeF mode birth t (Ts.take i) := (if_neg (by omega)).trans (if_neg (by omega))
      refine WC.seq fun K482 hK482 => ?_
      -- region 2
      refine WC.region ?_
      -- R2.0 16 := policym.go:84 binOp
      refine WL.v (by first | exact r_lss rfl rfl (decide_eq_true (by omega)) | exact r_lss rfl rfl (decide_eq_false (by omega)) | exact r_lss rfl rfl rfl) rfl rfl rfl ?_
      refine WL.fin hK482 (fun _ _ h => h) ?_
      refine WC.seq fun K483 hK483 => ?_
      refine WC.condT rfl rfl ?_
      refine WC.skipF hK483 (fun _ _ h => h) ?_
      refine WC.seq fun K484 hK484 => ?_
      refine WC.block ?_
      refine WC.seq fun K485 hK485 => ?_
      -- region 3
      refine WC.region ?_
      -- R3.0 17 := policym.go:84 indexAddr
      refine WL.v (by exact r_indexS (j := i) ty_sl54 rfl rfl rfl (by omega)) rfl rfl rfl ?_
      -- R3.1 18 := policym.go:84 load
      refine WL.v (by exact r_load1 (v := .int .i64 (o : Nat)) ty_one31 rfl (by rw [Nat.zero_add]; exact hce)) rfl rfl rfl ?_
      -- R3.2 11 := policym.go:84 assign
      refine WL.v (by first | exact r_assign (v := .int _ _) rfl | exact r_assign rfl) rfl rfl rfl ?_
      refine WL.fin hK485 (fun _ _ h => h) ?_
      refine WC.block ?_
      refine WC.seq fun K486 hK486 => ?_
      -- region 4 (draws)
      refine WC.quietS st ty_mixed (by kernel_rfl) fun Kq hKq => ?_
      -- R4.0 20 := policym.go:86 move
      refine QL.v (fun w st => by first | exact r_move (v := .pointer _) rfl | exact r_move rfl) rfl rfl rfl ?_
      -- R4.1 21 := policym.go:86 nilCheck
      refine QL.v (fun w st => by exact r_nilCheck rfl) rfl rfl rfl ?_
      -- R4.2 22 := policym.go:86 fieldAddr
      refine QL.v (fun w st => by exact r_field ty_fld131_0 rfl) rfl rfl rfl ?_
      -- R4.3 23 := policym.go:86 load
      refine QL.v (fun w st => by exact r_load1 (v := .int .i64 (mode : Nat)) ty_one40 rfl (c_mode st hmm)) rfl rfl rfl ?_
      -- R4.4 24 := policym.go:86 binOp
      refine QL.v (fun w st => by first | exact r_eql rfl rfl (decide_eq_true (by omega)) | exact r_eql rfl rfl (decide_eq_false (by omega)) | exact r_eql rfl rfl rfl) rfl rfl rfl ?_
      -- R4.5 25 := policym.go:86 move
      refine QL.v (fun w st => by first | exact r_move (v := .bool _) rfl | exact r_move rfl) rfl rfl rfl ?_
      -- R4.6 26 := policym.go:86 move
      refine QL.no rfl rfl ?_
      -- R4.7 27 := policym.go:86 move
      refine QL.no rfl rfl ?_
      -- R4.8 28 := policym.go:86 nilCheck
      refine QL.no rfl rfl ?_
      -- R4.9 29 := policym.go:86 indexAddr
      refine QL.no rfl rfl ?_
      -- R4.10 30 := policym.go:86 load
      refine QL.no rfl rfl ?_
      -- R4.11 31 := policym.go:86 move
      refine QL.no rfl rfl ?_
      -- R4.12 32 := policym.go:86 move
      refine QL.no rfl rfl ?_
      -- R4.13 33 := policym.go:86 nilCheck
      refine QL.no rfl rfl ?_
      -- R4.14 34 := policym.go:86 indexAddr
      refine QL.no rfl rfl ?_
      -- R4.15 35 := policym.go:86 load
      refine QL.no rfl rfl ?_
      -- R4.16 36 := policym.go:86 binOp
      refine QL.no rfl rfl ?_
      -- R4.17 37 := policym.go:86 pick
      refine QL.v (fun w st => by first | exact r_pickT (v := .bool _) rfl rfl | exact r_pickF (v := .bool _) rfl rfl) rfl rfl rfl ?_
      -- R4.18 19 := policym.go:86 assign
      refine QL.v (fun w st => by first | exact r_assign (v := .bool _) rfl | exact r_assign rfl) rfl rfl rfl ?_
      refine QL.wl hKq fun w st => ?_
      refine WL.fin hK486 (fun _ _ h => h) ?_
      refine WC.condF rfl rfl ?_
      refine WC.seq fun K487 hK487 => ?_
      -- region 6 (draws)
      refine WC.quietS st ty_mixed (by kernel_rfl) fun Kq hKq => ?_
      -- R6.0 39 := policym.go:88 move
      refine QL.v (fun w st => by first | exact r_move (v := .pointer _) rfl | exact r_move rfl) rfl rfl rfl ?_
      -- R6.1 40 := policym.go:88 nilCheck
      refine QL.v (fun w st => by exact r_nilCheck rfl) rfl rfl rfl ?_
      -- R6.2 41 := policym.go:88 fieldAddr
      refine QL.v (fun w st => by exact r_field ty_fld131_0 rfl) rfl rfl rfl ?_
      -- R6.3 42 := policym.go:88 load
      refine QL.v (fun w st => by exact r_load1 (v := .int .i64 (mode : Nat)) ty_one40 rfl (c_mode st hmm)) rfl rfl rfl ?_
      -- R6.4 43 := policym.go:88 binOp
      refine QL.v (fun w st => by first | exact r_eql rfl rfl (decide_eq_true (by omega)) | exact r_eql rfl rfl (decide_eq_false (by omega)) | exact r_eql rfl rfl rfl) rfl rfl rfl ?_
      -- R6.5 44 := policym.go:88 move
      refine QL.v (fun w st => by first | exact r_move (v := .bool _) rfl | exact r_move rfl) rfl rfl rfl ?_
      -- R6.6 45 := policym.go:88 move
      refine QL.no rfl rfl ?_
      -- R6.7 46 := policym.go:88 move
      refine QL.no rfl rfl ?_
      -- R6.8 47 := policym.go:88 nilCheck
      refine QL.no rfl rfl ?_
      -- R6.9 48 := policym.go:88 indexAddr
      refine QL.no rfl rfl ?_
      -- R6.10 49 := policym.go:88 load
      refine QL.no rfl rfl ?_
      -- R6.11 50 := policym.go:88 move
      refine QL.no rfl rfl ?_
      -- R6.12 51 := policym.go:88 move
      refine QL.no rfl rfl ?_
      -- R6.13 52 := policym.go:88 nilCheck
      refine QL.no rfl rfl ?_
      -- R6.14 53 := policym.go:88 indexAddr
      refine QL.no rfl rfl ?_
      -- R6.15 54 := policym.go:88 load
      refine QL.no rfl rfl ?_
      -- R6.16 55 := policym.go:88 binOp
      refine QL.no rfl rfl ?_
      -- R6.17 56 := policym.go:88 pick
      refine QL.v (fun w st => by first | exact r_pickT (v := .bool _) rfl rfl | exact r_pickF (v := .bool _) rfl rfl) rfl rfl rfl ?_
      -- R6.18 38 := policym.go:88 assign
      refine QL.v (fun w st => by first | exact r_assign (v := .bool _) rfl | exact r_assign rfl) rfl rfl rfl ?_
      refine QL.wl hKq fun w st => ?_
      refine WL.fin hK487 (fun _ _ h => h) ?_
      refine WC.condF rfl rfl ?_
      refine WC.skipF hK484 (fun _ _ h => h) ?_
      -- region 8
      refine WC.region ?_
      -- R8.0 61 := policym.go:84 binOp
      refine WL.v (by first | exact r_add rfl rfl (wi64 (by omega) (by omega)) | exact r_add rfl rfl rfl) rfl rfl rfl ?_
      -- R8.1 15 := policym.go:84 move
      refine WL.v (by first | exact r_move (v := .int _ _) rfl | exact r_move rfl) rfl rfl rfl ?_
      refine WL.next hK1 (fun _ _ h => h) (i + 1) ⟨hil', st⟩ (by omega) (by rw [hsn, e]; repeat (first | exact sub_nil _ | refine sub_cons rfl rfl ?_))
end Go.Proofs.Qxb6500834aGreatDoor

