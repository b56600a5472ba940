import Derived.Test.Qxb6500834aGreatDoorK29
set_option linter.unusedVariables false
set_option linter.unusedSimpArgs false
set_option maxRecDepth 20000
namespace Go.Proofs.Qxb6500834aGreatDoor
open Go.RowKit Go.E1 Go.Kern
variable {w0 : World} {L L' l I J K K' X Y : List HI} {w : World} {s : KS} {B : KA} {t r N : Nat}


def vicF (work : Nat → Nat) (v : Int) (t : Nat) : Int := if v = -1 ∨ work t ≤ work v.toNat then t else v
def victimQ (held : Nat → Nat → Nat) (queue : Nat → List (Nat × Nat)) (work : Nat → Nat) : Int := (tasksP (cycleP (waitsP held queue) &&& stuckP held queue)).foldl (vicF work) (-1)
theorem vic_or {work : Nat → Nat} : ∀ (Ts : List Nat) (v : Int), (∀ o, o ∈ Ts → o < 16) → (v = -1 ∨ ∃ n : Nat, n < 16 ∧ v = n) → Ts.foldl (vicF work) v = -1 ∨ ∃ n : Nat, n < 16 ∧ Ts.foldl (vicF work) v = n
  | [], v, _, h => h
  | t :: Ts, v, hT, h => by
    refine vic_or Ts _ (fun o ho => hT o (List.mem_cons_of_mem _ ho)) ?_
    unfold vicF
    split
    · exact .inr ⟨t, hT t List.mem_cons_self, rfl⟩
    · exact h
theorem RB_fold {held : Nat → Nat → Nat} {queue : Nat → List (Nat × Nat)} : ∀ (Ts : List Nat) {S : RS}, S.m < 65536 → (Ts.foldl (stT held queue) S).m < 65536
  | [], S, h => h
  | t :: Ts, S, h => by
    refine RB_fold Ts ?_
    rcases stT_cases held queue S t with e | e <;> rw [e]
    · exact h
    · exact andlt h
theorem stO_lt {held : Nat → Nat → Nat} {queue : Nat → List (Nat × Nat)} : ∀ (k : Nat) {S : RS}, S.m < 65536 → stO held queue k S < 65536
  | 0, S, h => h
  | k + 1, S, h => by
    unfold stO
    have h2 : (stPass held queue S).m < 65536 := RB_fold _ (S := { S with again := false }) h
    split
    · exact stO_lt k h2
    · exact h2
theorem stuckP_lt {held : Nat → Nat → Nat} {queue : Nat → List (Nat × Nat)} : stuckP held queue < 65536 := stO_lt 17 (S := ⟨freeP held, 65535, true⟩) (by show 65535 < 65536; decide)
theorem cycleP_lt {R : Nat → Nat} : cycleP R < 65536 := maskP_lt _ 16 (Nat.le_refl _)
set_option maxHeartbeats 2000000 in
theorem victim_ok {br bw : Nat} {held : Nat → Nat → Nat} {queue : Nat → List (Nat × Nat)} {qv : Nat → Value} {XQ : Nat → List HI} {work : Nat → Nat} (hD : gD w0) (hh : ∀ t r, held t r ≤ 16) (hqt : ∀ r p, p ∈ queue r → p.1 < 16 ∧ p.2 ≤ 16) (hm : rI br held qv ∈ l) (hq : ∀ r, r < 20 → QL0 (qv r) (queue r) (XQ r)) (hX : ∀ r, r < 20 → XQ r ⊆ l) (hmw : (bw, Row 76 16 (iF fun i => (work i : Nat))) ∈ l) (st : S0 w0 l w) :
    Calls Tryz.prog 116 #[.pointer (some ⟨br, 0, none⟩), .pointer (some ⟨bw, 0, none⟩)] w (Ret fun v w' => v = .tuple #[.int .i64 (victimQ held queue work), .bool (decide (victimQ held queue work ≠ -1))] ∧ S0 w0 l w') := by
  have hstl : stuckP held queue < 65536 := stuckP_lt
  refine enter [.pointer (some ⟨br, 0, none⟩), .pointer (some ⟨bw, 0, none⟩)] Tryz.func116 rfl Tryz.ntmps116 rfl ?_
  show WC _ _ _ 41 [] [(0, .pointer (some ⟨br, 0, none⟩)), (1, .pointer (some ⟨bw, 0, none⟩))] _
  refine WC.seq fun K1088 hK1088 => ?_
  -- region 0
  refine WC.region ?_
  -- R0.0 4 := detectm.go:69 assign
  refine WL.v (by first | exact r_assign (v := .int _ _) rfl | exact r_assign rfl) rfl rfl rfl ?_
  -- R0.1 5 := detectm.go:69 assign
  refine WL.v (by first | exact r_assign (v := .bool _) rfl | exact r_assign rfl) rfl rfl rfl ?_
  refine WL.fin hK1088 (fun _ _ h => h) ?_
  refine WC.seq fun K1089 hK1089 => ?_
  -- region 1
  refine WC.region ?_
  -- R1.0 6 := detectm.go:70 assign
  refine WL.v (by first | exact r_assign (v := .int _ _) rfl | exact r_assign rfl) rfl rfl rfl ?_
  refine WL.fin hK1089 (fun _ _ h => h) ?_
  refine WC.seq fun K1090 hK1090 => ?_
  refine WC.seq fun K1091 hK1091 => ?_
  -- region 2
  refine WC.region ?_
  -- R2.0 9 := detectm.go:71 move
  refine WL.v (by first | exact r_move (v := .pointer _) rfl | exact r_move rfl) rfl rfl rfl ?_
  -- R2.1 10 := detectm.go:71 call
  refine WL.call (r_call ty_call149 rfl) rfl rfl rfl (waitsFor_ok hm hq hX st) ?_
  rintro _ w ⟨rfl, st⟩
  -- R2.2 11 := detectm.go:71 call
  refine WL.call (r_call ty_call148 rfl) rfl rfl rfl (onCycle_ok hD (fun i => waitsP_lt) st) ?_
  rintro _ w ⟨rfl, st⟩
  -- R2.3 12 := detectm.go:71 move
  refine WL.v (by first | exact r_move (v := .pointer _) rfl | exact r_move rfl) rfl rfl rfl ?_
  -- R2.4 13 := detectm.go:71 call
  refine WL.call (r_call ty_call150 rfl) rfl rfl rfl (stuck_ok hD hh hqt hm hq hX st) ?_
  rintro _ w ⟨rfl, st⟩
  -- R2.5 14 := detectm.go:71 binOp
  refine WL.v (by exact r_and (r := ((cycleP (waitsP held queue) &&& stuckP held queue : Nat) : Int)) rfl rfl (by rw [and16 cycleP_lt hstl])) rfl rfl rfl ?_
  -- R2.6 15 := detectm.go:71 call
  refine WL.call (r_call ty_call31 rfl) rfl rfl rfl (tasks_ok hD (andlt cycleP_lt) st) ?_
  rintro _ w ⟨X, ho, st⟩
  obtain ⟨Ts, hTs⟩ : ∃ Ts, Ts = tasksP (cycleP (waitsP held queue) &&& stuckP held queue) := ⟨_, rfl⟩
  have hT16 : ∀ o, o ∈ Ts → o < 16 := fun o h => by rw [hTs] at h; exact tasksP_lt h
  have hvq : victimQ held queue work = Ts.foldl (vicF work) (-1) := by rw [hTs]; rfl
  rw [← hTs] at ho
  obtain ⟨a, c, b, rfl, hc1, hc2, ha, hcell⟩ := ho.form
  -- R2.7 16 := detectm.go:71 call
  refine WL.v (by exact r_len ty_usl54 rfl) rfl rfl rfl ?_
  -- R2.8 17 := detectm.go:71 move
  refine WL.v (by first | exact r_move (v := .int _ _) rfl | exact r_move rfl) rfl rfl rfl ?_
  refine WL.fin hK1091 (fun _ _ h => h) ?_
  refine WC.block ?_
  refine WC.loop (ι := Nat) (fun i => [(1, .pointer (some ⟨bw, 0, none⟩)), (6, .int .i64 ((Ts.take i).foldl (vicF work) (-1))), (15, .slice a Ts.length c), (16, .int .i64 (Ts.length : Nat)), (17, .int .i64 (i : Nat))])
    (fun i w' => i ≤ Ts.length ∧ S0 w0 (X ++ l) w') (fun i => Ts.length - i) 0 ⟨Nat.zero_le _, st⟩ ?_ ?_
  · skip
    repeat (first | exact sub_nil _ | refine sub_cons rfl rfl ?_)
  clear st
  rintro i w ⟨hi, st⟩ K1 hK1
  have hvi := vic_or (work := work) (Ts.take i) (-1) (fun o h => hT16 o (List.mem_of_mem_take h)) (.inl rfl)
  by_cases hil : i = Ts.length
  · subst hil
    rw [List.take_length, ← hvq] at hvi ⊢
    refine WC.seq fun K1092 hK1092 => ?_
    -- region 3
    refine WC.region ?_
    -- R3.0 18 := detectm.go:71 binOp
    refine WL.v (by first | exact r_lss rfl rfl (decide_eq_true (by omega)) | exact r_lss rfl rfl (decide_eq_false (by omega)) | exact r_lss rfl rfl rfl) rfl rfl rfl ?_
    refine WL.fin hK1092 (fun _ _ h => h) ?_
    refine WC.seq fun K1093 hK1093 => ?_
    refine WC.condF rfl rfl ?_
    refine WC.exitF hK1090 (fun _ _ h => h) ?_
    refine WC.seq fun K1094 hK1094 => ?_
    -- region 8
    refine WC.region ?_
    -- R8.0 38 := detectm.go:76 move
    refine WL.v (by first | exact r_move (v := .int _ _) rfl | exact r_move rfl) rfl rfl rfl ?_
    -- R8.1 39 := detectm.go:76 move
    refine WL.v (by first | exact r_move (v := .int _ _) rfl | exact r_move rfl) rfl rfl rfl ?_
    -- R8.2 40 := detectm.go:76 binOp
    refine WL.v (by exact r_neq rfl rfl rfl) rfl rfl rfl ?_
    -- R8.3 4 := detectm.go:76 assign
    refine WL.v (by first | exact r_assign (v := .int _ _) rfl | exact r_assign rfl) rfl rfl rfl ?_
    -- R8.4 5 := detectm.go:76 assign
    refine WL.v (by first | exact r_assign (v := .bool _) rfl | exact r_assign rfl) rfl rfl rfl ?_
    refine WL.fin hK1094 (fun _ _ h => h) ?_
    refine WC.ret2 Tryz.results116 (fun _ _ h => h) rfl ?_
    exact ⟨_, rfl, rfl, st_dropL st⟩
  have hil' : i < Ts.length := by omega
  obtain ⟨o, hoi⟩ : ∃ o, Ts[i]? = some o := ⟨Ts[i], List.getElem?_eq_getElem hil'⟩
  have ho16 := hT16 o (List.mem_of_getElem? hoi)
  have hfs := foldl_snoc (f := vicF work) (b := -1) hoi
  obtain ⟨v, hv⟩ : ∃ v, v = (Ts.take i).foldl (vicF work) (-1) := ⟨_, rfl⟩
  rw [← hv] at hfs hvi ⊢
  obtain rfl := ha (by omega)
  have hce := hcell st (List.subset_append_left _ _) i o hoi 0 (by decide)
  have hmw' : (bw, Row 76 16 (iF fun i => (work i : Nat))) ∈ X ++ l := List.mem_append_right _ hmw
  rcases hvi with rfl | ⟨n, hn, rfl⟩
  · have e : (Ts.take (i + 1)).foldl (vicF work) (-1) = o := hfs.trans (if_pos (.inl rfl))
    refine WC.seq fun K1095 hK1095 => ?_
    -- region 3
    refine WC.region ?_
    -- R3.0 18 := detectm.go:71 binOp
    refine WL.v (by first | exact r_lss rfl rfl (decide_eq_true (by omega)) | exact r_lss rfl rfl (decide_eq_false (by omega)) | exact r_lss rfl rfl rfl) rfl rfl rfl ?_
    refine WL.fin hK1095 (fun _ _ h => h) ?_
    refine WC.seq fun K1096 hK1096 => ?_
    refine WC.condT rfl rfl ?_
    refine WC.skipF hK1096 (fun _ _ h => h) ?_
    refine WC.seq fun K1097 hK1097 => ?_
    refine WC.block ?_
    refine WC.seq fun K1098 hK1098 => ?_
    -- region 4
    refine WC.region ?_
    -- R4.0 19 := detectm.go:71 indexAddr
    refine WL.v (by exact r_indexS (j := i) ty_sl54 rfl rfl rfl (by omega)) rfl rfl rfl ?_
    -- R4.1 20 := detectm.go:71 load
    refine WL.v (by exact r_load1 (v := .int .i64 (o : Nat)) ty_one31 rfl (by rw [Nat.zero_add]; exact hce)) rfl rfl rfl ?_
    -- R4.2 8 := detectm.go:71 assign
    refine WL.v (by first | exact r_assign (v := .int _ _) rfl | exact r_assign rfl) rfl rfl rfl ?_
    refine WL.fin hK1098 (fun _ _ h => h) ?_
    refine WC.seq fun K1099 hK1099 => ?_
    -- region 5 (draws)
    refine WC.quietS st ty_mixed (by kernel_rfl) fun Kq hKq => ?_
    -- R5.0 21 := detectm.go:72 move
    refine QL.v (fun w st => by first | exact r_move (v := .int _ _) rfl | exact r_move rfl) rfl rfl rfl ?_
    -- R5.1 22 := detectm.go:72 binOp
    refine QL.v (fun w st => by first | exact r_eql rfl rfl (decide_eq_true (by omega)) | exact r_eql rfl rfl (decide_eq_false (by omega)) | exact r_eql rfl rfl rfl) rfl rfl rfl ?_
    -- R5.2 23 := detectm.go:72 move
    refine QL.v (fun w st => by first | exact r_move (v := .bool _) rfl | exact r_move rfl) rfl rfl rfl ?_
    -- R5.3 24 := detectm.go:72 move
    refine QL.no rfl rfl ?_
    -- R5.4 25 := detectm.go:72 move
    refine QL.no rfl rfl ?_
    -- R5.5 26 := detectm.go:72 nilCheck
    refine QL.no rfl rfl ?_
    -- R5.6 27 := detectm.go:72 indexAddr
    refine QL.no rfl rfl ?_
    -- R5.7 28 := detectm.go:72 load
    refine QL.no rfl rfl ?_
    -- R5.8 29 := detectm.go:72 move
    refine QL.no rfl rfl ?_
    -- R5.9 30 := detectm.go:72 move
    refine QL.no rfl rfl ?_
    -- R5.10 31 := detectm.go:72 nilCheck
    refine QL.no rfl rfl ?_
    -- R5.11 32 := detectm.go:72 indexAddr
    refine QL.no rfl rfl ?_
    -- R5.12 33 := detectm.go:72 load
    refine QL.no rfl rfl ?_
    -- R5.13 34 := detectm.go:72 binOp
    refine QL.no rfl rfl ?_
    -- R5.14 35 := detectm.go:72 pick
    refine QL.v (fun w st => by first | exact r_pickT (v := .bool _) rfl rfl | exact r_pickF (v := .bool _) rfl rfl) rfl rfl rfl ?_
    refine QL.wl hKq fun w st => ?_
    refine WL.fin hK1099 (fun _ _ h => h) ?_
    refine WC.condT rfl rfl ?_
    -- region 6
    refine WC.region ?_
    -- R6.0 36 := detectm.go:73 move
    refine WL.v (by first | exact r_move (v := .int _ _) rfl | exact r_move rfl) rfl rfl rfl ?_
    -- R6.1 6 := detectm.go:73 assign
    refine WL.v (by first | exact r_assign (v := .int _ _) rfl | exact r_assign rfl) rfl rfl rfl ?_
    refine WL.fin hK1097 (fun _ _ h => h) ?_
    -- region 7
    refine WC.region ?_
    -- R7.0 37 := detectm.go:71 binOp
    refine WL.v (by first | exact r_add rfl rfl (wi64 (by omega) (by omega)) | exact r_add rfl rfl rfl) rfl rfl rfl ?_
    -- R7.1 17 := detectm.go:71 move
    refine WL.v (by first | exact r_move (v := .int _ _) rfl | exact r_move rfl) rfl rfl rfl ?_
    refine WL.next hK1 (fun _ _ h => h) (i + 1) ⟨hil', st⟩ (by omega) (by rw [e]; repeat (first | exact sub_nil _ | refine sub_cons rfl rfl ?_))
  · skip
    by_cases hle : work o ≤ work n
    · have e : (Ts.take (i + 1)).foldl (vicF work) (-1) = o := hfs.trans (if_pos (.inr (by rw [Int.toNat_natCast]; exact hle)))
      refine WC.seq fun K1100 hK1100 => ?_
      -- region 3
      refine WC.region ?_
      -- R3.0 18 := detectm.go:71 binOp
      refine WL.v (by first | exact r_lss rfl rfl (decide_eq_true (by omega)) | exact r_lss rfl rfl (decide_eq_false (by omega)) | exact r_lss rfl rfl rfl) rfl rfl rfl ?_
      refine WL.fin hK1100 (fun _ _ h => h) ?_
      refine WC.seq fun K1101 hK1101 => ?_
      refine WC.condT rfl rfl ?_
      refine WC.skipF hK1101 (fun _ _ h => h) ?_
      refine WC.seq fun K1102 hK1102 => ?_
      refine WC.block ?_
      refine WC.seq fun K1103 hK1103 => ?_
      -- region 4
      refine WC.region ?_
      -- R4.0 19 := detectm.go:71 indexAddr
      refine WL.v (by exact r_indexS (j := i) ty_sl54 rfl rfl rfl (by omega)) rfl rfl rfl ?_
      -- R4.1 20 := detectm.go:71 load
      refine WL.v (by exact r_load1 (v := .int .i64 (o : Nat)) ty_one31 rfl (by rw [Nat.zero_add]; exact hce)) rfl rfl rfl ?_
      -- R4.2 8 := detectm.go:71 assign
      refine WL.v (by first | exact r_assign (v := .int _ _) rfl | exact r_assign rfl) rfl rfl rfl ?_
      refine WL.fin hK1103 (fun _ _ h => h) ?_
      refine WC.seq fun K1104 hK1104 => ?_
      -- region 5 (draws)
      refine WC.quietS st ty_mixed (by kernel_rfl) fun Kq hKq => ?_
      -- R5.0 21 := detectm.go:72 move
      refine QL.v (fun w st => by first | exact r_move (v := .int _ _) rfl | exact r_move rfl) rfl rfl rfl ?_
      -- R5.1 22 := detectm.go:72 binOp
      refine QL.v (fun w st => by exact r_eql rfl rfl (decide_eq_false (by omega))) rfl rfl rfl ?_
      -- R5.2 23 := detectm.go:72 move
      refine QL.v (fun w st => by first | exact r_move (v := .bool _) rfl | exact r_move rfl) rfl rfl rfl ?_
      -- R5.3 24 := detectm.go:72 move
      refine QL.v (fun w st => by first | exact r_move (v := .pointer _) rfl | exact r_move rfl) rfl rfl rfl ?_
      -- R5.4 25 := detectm.go:72 move
      refine QL.v (fun w st => by first | exact r_move (v := .int _ _) rfl | exact r_move rfl) rfl rfl rfl ?_
      -- R5.5 26 := detectm.go:72 nilCheck
      refine QL.v (fun w st => by exact r_nilCheck rfl) rfl rfl rfl ?_
      -- R5.6 27 := detectm.go:72 indexAddr
      refine QL.v (fun w st => by exact r_indexA (j := o) ty_ar76 rfl rfl rfl ho16) rfl rfl rfl ?_
      -- R5.7 28 := detectm.go:72 load
      refine QL.v (fun w st => by exact r_load1 (v := .int .i64 (work o : Nat)) ty_one3 rfl (c_iF (F := fun i => (work i : Nat)) hmw' ho16 st)) rfl rfl rfl ?_
      -- R5.8 29 := detectm.go:72 move
      refine QL.v (fun w st => by first | exact r_move (v := .pointer _) rfl | exact r_move rfl) rfl rfl rfl ?_
      -- R5.9 30 := detectm.go:72 move
      refine QL.v (fun w st => by first | exact r_move (v := .int _ _) rfl | exact r_move rfl) rfl rfl rfl ?_
      -- R5.10 31 := detectm.go:72 nilCheck
      refine QL.v (fun w st => by exact r_nilCheck rfl) rfl rfl rfl ?_
      -- R5.11 32 := detectm.go:72 indexAddr
      refine QL.v (fun w st => by exact r_indexA (j := n) ty_ar76 rfl rfl rfl hn) rfl rfl rfl ?_
      -- R5.12 33 := detectm.go:72 load
      refine QL.v (fun w st => by exact r_load1 (v := .int .i64 (work n : Nat)) ty_one3 rfl (c_iF (F := fun i => (work i : Nat)) hmw' hn st)) rfl rfl rfl ?_
      -- R5.13 34 := detectm.go:72 binOp
      refine QL.v (fun w st => by first | exact r_leq rfl rfl (decide_eq_true (by omega)) | exact r_leq rfl rfl (decide_eq_false (by omega)) | exact r_leq rfl rfl rfl) rfl rfl rfl ?_
      -- R5.14 35 := detectm.go:72 pick
      refine QL.v (fun w st => by first | exact r_pickT (v := .bool _) rfl rfl | exact r_pickF (v := .bool _) rfl rfl) rfl rfl rfl ?_
      refine QL.wl hKq fun w st => ?_
      refine WL.fin hK1104 (fun _ _ h => h) ?_
      refine WC.condT rfl rfl ?_
      -- region 6
      refine WC.region ?_
      -- R6.0 36 := detectm.go:73 move
      refine WL.v (by first | exact r_move (v := .int _ _) rfl | exact r_move rfl) rfl rfl rfl ?_
      -- R6.1 6 := detectm.go:73 assign
      refine WL.v (by first | exact r_assign (v := .int _ _) rfl | exact r_assign rfl) rfl rfl rfl ?_
      refine WL.fin hK1102 (fun _ _ h => h) ?_
      -- region 7
      refine WC.region ?_
      -- R7.0 37 := detectm.go:71 binOp
      refine WL.v (by first | exact r_add rfl rfl (wi64 (by omega) (by omega)) | exact r_add rfl rfl rfl) rfl rfl rfl ?_
      -- R7.1 17 := detectm.go:71 move
      refine WL.v (by first | exact r_move (v := .int _ _) rfl | exact r_move rfl) rfl rfl rfl ?_
      refine WL.next hK1 (fun _ _ h => h) (i + 1) ⟨hil', st⟩ (by omega) (by rw [e]; repeat (first | exact sub_nil _ | refine sub_cons rfl rfl ?_))
    · have e : (Ts.take (i + 1)).foldl (vicF work) (-1) = n := hfs.trans (if_neg (by rw [Int.toNat_natCast]; omega))
      refine WC.seq fun K1105 hK1105 => ?_
      -- region 3
      refine WC.region ?_
      -- R3.0 18 := detectm.go:71 binOp
      refine WL.v (by first | exact r_lss rfl rfl (decide_eq_true (by omega)) | exact r_lss rfl rfl (decide_eq_false (by omega)) | exact r_lss rfl rfl rfl) rfl rfl rfl ?_
      refine WL.fin hK1105 (fun _ _ h => h) ?_
      refine WC.seq fun K1106 hK1106 => ?_
      refine WC.condT rfl rfl ?_
      refine WC.skipF hK1106 (fun _ _ h => h) ?_
      refine WC.seq fun K1107 hK1107 => ?_
      refine WC.block ?_
      refine WC.seq fun K1108 hK1108 => ?_
      -- region 4
      refine WC.region ?_
      -- R4.0 19 := detectm.go:71 indexAddr
      refine WL.v (by exact r_indexS (j := i) ty_sl54 rfl rfl rfl (by omega)) rfl rfl rfl ?_
      -- R4.1 20 := detectm.go:71 load
      refine WL.v (by exact r_load1 (v := .int .i64 (o : Nat)) ty_one31 rfl (by rw [Nat.zero_add]; exact hce)) rfl rfl rfl ?_
      -- R4.2 8 := detectm.go:71 assign
      refine WL.v (by first | exact r_assign (v := .int _ _) rfl | exact r_assign rfl) rfl rfl rfl ?_
      refine WL.fin hK1108 (fun _ _ h => h) ?_
      refine WC.seq fun K1109 hK1109 => ?_
      -- region 5 (draws)
      refine WC.quietS st ty_mixed (by kernel_rfl) fun Kq hKq => ?_
      -- R5.0 21 := detectm.go:72 move
      refine QL.v (fun w st => by first | exact r_move (v := .int _ _) rfl | exact r_move rfl) rfl rfl rfl ?_
      -- R5.1 22 := detectm.go:72 binOp
      refine QL.v (fun w st => by exact r_eql rfl rfl (decide_eq_false (by omega))) rfl rfl rfl ?_
      -- R5.2 23 := detectm.go:72 move
      refine QL.v (fun w st => by first | exact r_move (v := .bool _) rfl | exact r_move rfl) rfl rfl rfl ?_
      -- R5.3 24 := detectm.go:72 move
      refine QL.v (fun w st => by first | exact r_move (v := .pointer _) rfl | exact r_move rfl) rfl rfl rfl ?_
      -- R5.4 25 := detectm.go:72 move
      refine QL.v (fun w st => by first | exact r_move (v := .int _ _) rfl | exact r_move rfl) rfl rfl rfl ?_
      -- R5.5 26 := detectm.go:72 nilCheck
      refine QL.v (fun w st => by exact r_nilCheck rfl) rfl rfl rfl ?_
      -- R5.6 27 := detectm.go:72 indexAddr
      refine QL.v (fun w st => by exact r_indexA (j := o) ty_ar76 rfl rfl rfl ho16) rfl rfl rfl ?_
      -- R5.7 28 := detectm.go:72 load
      refine QL.v (fun w st => by exact r_load1 (v := .int .i64 (work o : Nat)) ty_one3 rfl (c_iF (F := fun i => (work i : Nat)) hmw' ho16 st)) rfl rfl rfl ?_
      -- R5.8 29 := detectm.go:72 move
      refine QL.v (fun w st => by first | exact r_move (v := .pointer _) rfl | exact r_move rfl) rfl rfl rfl ?_
      -- R5.9 30 := detectm.go:72 move
      refine QL.v (fun w st => by first | exact r_move (v := .int _ _) rfl | exact r_move rfl) rfl rfl rfl ?_
      -- R5.10 31 := detectm.go:72 nilCheck
      refine QL.v (fun w st => by exact r_nilCheck rfl) rfl rfl rfl ?_
      -- R5.11 32 := detectm.go:72 indexAddr
      refine QL.v (fun w st => by exact r_indexA (j := n) ty_ar76 rfl rfl rfl hn) rfl rfl rfl ?_
      -- R5.12 33 := detectm.go:72 load
      refine QL.v (fun w st => by exact r_load1 (v := .int .i64 (work n : Nat)) ty_one3 rfl (c_iF (F := fun i => (work i : Nat)) hmw' hn st)) rfl rfl rfl ?_
      -- R5.13 34 := detectm.go:72 binOp
      refine QL.v (fun w st => by first | exact r_leq rfl rfl (decide_eq_true (by omega)) | exact r_leq rfl rfl (decide_eq_false (by omega)) | exact r_leq rfl rfl rfl) rfl rfl rfl ?_
      -- R5.14 35 := detectm.go:72 pick
      refine QL.v (fun w st => by first | exact r_pickT (v := .bool _) rfl rfl | exact r_pickF (v := .bool _) rfl rfl) rfl rfl rfl ?_
      refine QL.wl hKq fun w st => ?_
      refine WL.fin hK1109 (fun _ _ h => h) ?_
      refine WC.condF rfl rfl ?_
      refine WC.skipF hK1107 (fun _ _ h => h) ?_
      -- region 7
      refine WC.region ?_
      -- R7.0 37 := detectm.go:71 binOp
      refine WL.v (by first | exact r_add rfl rfl (wi64 (by omega) (by omega)) | exact r_add rfl rfl rfl) rfl rfl rfl ?_
      -- R7.1 17 := detectm.go:71 move
      refine WL.v (by first | exact r_move (v := .int _ _) rfl | exact r_move rfl) rfl rfl rfl ?_
      refine WL.next hK1 (fun _ _ h => h) (i + 1) ⟨hil', st⟩ (by omega) (by rw [e]; repeat (first | exact sub_nil _ | refine sub_cons rfl rfl ?_))

def victimP (s : KS) : Int := victimQ s.held s.queue fun i => (s.tk i).n
theorem victimP_or : victimP s = -1 ∨ ∃ n : Nat, n < 16 ∧ victimP s = n := vic_or _ _ (fun o h => tasksP_lt h) (.inl rfl)
def detectP (s : KS) : KS × Int × Int := if victimP s = -1 then (s, 2, -1) else (wakeP (abortP s (victimP s).toNat), 0, victimP s)
set_option maxHeartbeats 2000000 in
theorem detect_ok (hD : gD w0) (hB : KB N s) (hN : N + 1 ≤ 1000000) (st : KH w0 B s l w) :
    Calls Tryz.prog 87 #[.pointer (some ⟨B.bk, 0, none⟩)] w (Ret fun v w' => RK w0 B (detectP s).1 (detectP s).2.1 (detectP s).2.2 l v w') := by
  obtain ⟨Y, qv, XQ, tv, ov, V, st⟩ := st.view
  have hnn := hB.nn
  refine enter [.pointer (some ⟨B.bk, 0, none⟩)] Tryz.func87 rfl Tryz.ntmps87 rfl ?_
  show WC _ _ _ 44 [] [(0, .pointer (some ⟨B.bk, 0, none⟩))] _
  refine WC.seq fun K1110 hK1110 => ?_
  -- region 0
  refine WC.region ?_
  -- R0.0 2 := kernel.go:198 alloc
  refine WL.alloc (m := 3) st ty_zero34 rfl rfl rfl ?_
  intro b2 w st
  refine WL.fin hK1110 (fun _ _ h => h) ?_
  refine WC.seq fun K1111 hK1111 => ?_
  -- region 1
  refine WC.region ?_
  -- R1.0 3 := kernel.go:199 alloc
  refine WL.allocN (m := 16) st ty_zeroN76 rfl rfl ?_
  intro b3 w st
  refine WL.fin hK1111 (fun _ _ h => h) ?_
  refine WC.seq fun K1112 hK1112 => ?_
  refine WC.seq fun K1113 hK1113 => ?_
  -- region 2
  refine WC.region ?_
  -- R2.0 8 := kernel.go:200 move
  refine WL.v (by first | exact r_move (v := .int _ _) rfl | exact r_move rfl) rfl rfl rfl ?_
  refine WL.fin hK1113 (fun _ _ h => h) ?_
  refine WC.block ?_
  refine WC.loop (ι := Nat × (Nat → Int)) (fun y => [(0, .pointer (some ⟨B.bk, 0, none⟩)), (2, .pointer (some ⟨b2, 0, none⟩)), (3, .pointer (some ⟨b3, 0, none⟩)), (8, .int .i64 (y.1 : Nat))])
    (fun y w' => y.1 ≤ 16 ∧ (∀ i, i < y.1 → y.2 i = ((s.tk i).n : Nat)) ∧ S0 w0 ((b3, Row 76 16 (iF y.2)) :: zR b2 :: Y) w') (fun y => 16 - y.1) (0, fun _ => 0) ⟨Nat.zero_le _, fun i hi => absurd hi (Nat.not_lt_zero _), st⟩ ?_ ?_
  · skip
    repeat (first | exact sub_nil _ | refine sub_cons rfl rfl ?_)
  clear st
  rintro ⟨i, F⟩ w ⟨hi, hF, st⟩ K1 hK1
  dsimp only at hi hF st ⊢
  by_cases h16 : i = 16
  rotate_left
  · have hi' : i < 16 := by omega
    refine WC.seq fun K1114 hK1114 => ?_
    -- region 3
    refine WC.region ?_
    -- R3.0 9 := kernel.go:200 binOp
    refine WL.v (by first | exact r_lss rfl rfl (decide_eq_true (by omega)) | exact r_lss rfl rfl (decide_eq_false (by omega)) | exact r_lss rfl rfl rfl) rfl rfl rfl ?_
    refine WL.fin hK1114 (fun _ _ h => h) ?_
    refine WC.seq fun K1115 hK1115 => ?_
    refine WC.condT rfl rfl ?_
    refine WC.skipF hK1115 (fun _ _ h => h) ?_
    refine WC.seq fun K1116 hK1116 => ?_
    refine WC.block ?_
    refine WC.seq fun K1117 hK1117 => ?_
    -- region 4
    refine WC.region ?_
    -- R4.0 10 := kernel.go:200 move
    refine WL.v (by first | exact r_move (v := .int _ _) rfl | exact r_move rfl) rfl rfl rfl ?_
    -- R4.1 4 := kernel.go:200 assign
    refine WL.v (by first | exact r_assign (v := .int _ _) rfl | exact r_assign rfl) rfl rfl rfl ?_
    refine WL.fin hK1117 (fun _ _ h => h) ?_
    -- region 5
    refine WC.region ?_
    -- R5.0 11 := kernel.go:201 move
    refine WL.v (by first | exact r_move (v := .int _ _) rfl | exact r_move rfl) rfl rfl rfl ?_
    -- R5.1 12 := kernel.go:201 move
    refine WL.v (by first | exact r_move (v := .pointer _) rfl | exact r_move rfl) rfl rfl rfl ?_
    -- R5.2 13 := kernel.go:201 move
    refine WL.v (by first | exact r_move (v := .int _ _) rfl | exact r_move rfl) rfl rfl rfl ?_
    -- R5.3 14 := kernel.go:201 nilCheck
    refine WL.v (by exact r_nilCheck rfl) rfl rfl rfl ?_
    -- R5.4 15 := kernel.go:201 fieldAddr
    refine WL.v (by exact r_field ty_fld120_3 rfl) rfl rfl rfl ?_
    -- R5.5 16 := kernel.go:201 indexAddr
    refine WL.v (by exact r_indexA (j := i) ty_ar118 rfl rfl rfl hi') rfl rfl rfl ?_
    -- R5.6 17 := kernel.go:201 fieldAddr
    refine WL.v (by exact r_field ty_fld117_6 rfl) rfl rfl rfl ?_
    -- R5.7 18 := kernel.go:201 fieldAddr
    refine WL.v (by exact r_field ty_fld115_0 rfl) rfl rfl rfl ?_
    -- R5.8 19 := kernel.go:201 load
    refine WL.v (by exact r_load1 (v := .int .i64 ((s.tk i).n : Nat)) ty_one3 rfl (by rw [c_tk (List.mem_cons_of_mem _ (List.mem_cons_of_mem _ V.k)) hi' (j := 6) (by decide) (by omega) st]; rfl)) rfl rfl rfl ?_
    -- R5.9 20 := kernel.go:201 indexAddr
    refine WL.v (by exact r_indexA (j := i) ty_ar76 rfl rfl rfl hi') rfl rfl rfl ?_
    -- R5.10 None := kernel.go:201 store
    first | refine WL.store (v := .int _ _) st ty_one3 rfl rfl rfl (by first | decide | omega) rfl rfl ?_ | refine WL.store (v := _) st ty_one3 rfl rfl rfl (by first | decide | omega) rfl rfl ?_ | refine WL.store (v := .int _ _) st.front1 ty_one3 rfl rfl rfl (by first | decide | omega) rfl rfl ?_ | refine WL.store (v := _) st.front1 ty_one3 rfl rfl rfl (by first | decide | omega) rfl rfl ?_ | refine WL.store (v := .int _ _) st.front2 ty_one3 rfl rfl rfl (by first | decide | omega) rfl rfl ?_ | refine WL.store (v := _) st.front2 ty_one3 rfl rfl rfl (by first | decide | omega) rfl rfl ?_ | refine WL.store (v := .int _ _) st.front3 ty_one3 rfl rfl rfl (by first | decide | omega) rfl rfl ?_ | refine WL.store (v := _) st.front3 ty_one3 rfl rfl rfl (by first | decide | omega) rfl rfl ?_ | refine WL.store (v := .int _ _) st.front4 ty_one3 rfl rfl rfl (by first | decide | omega) rfl rfl ?_ | refine WL.store (v := _) st.front4 ty_one3 rfl rfl rfl (by first | decide | omega) rfl rfl ?_ | refine WL.store (v := .int _ _) st.front5 ty_one3 rfl rfl rfl (by first | decide | omega) rfl rfl ?_ | refine WL.store (v := _) st.front5 ty_one3 rfl rfl rfl (by first | decide | omega) rfl rfl ?_ | refine WL.store (v := .int _ _) st.front6 ty_one3 rfl rfl rfl (by first | decide | omega) rfl rfl ?_ | refine WL.store (v := _) st.front6 ty_one3 rfl rfl rfl (by first | decide | omega) rfl rfl ?_ | refine WL.store (v := .int _ _) st.front7 ty_one3 rfl rfl rfl (by first | decide | omega) rfl rfl ?_ | refine WL.store (v := _) st.front7 ty_one3 rfl rfl rfl (by first | decide | omega) rfl rfl ?_ | refine WL.store (v := .int _ _) st.front8 ty_one3 rfl rfl rfl (by first | decide | omega) rfl rfl ?_ | refine WL.store (v := _) st.front8 ty_one3 rfl rfl rfl (by first | decide | omega) rfl rfl ?_
    intro w st
    refine WL.fin hK1116 (fun _ _ h => h) ?_
    -- region 6
    refine WC.region ?_
    -- R6.0 21 := kernel.go:200 binOp
    refine WL.v (by first | exact r_add rfl rfl (wi64 (by omega) (by omega)) | exact r_add rfl rfl rfl) rfl rfl rfl ?_
    -- R6.1 8 := kernel.go:200 move
    refine WL.v (by first | exact r_move (v := .int _ _) rfl | exact r_move rfl) rfl rfl rfl ?_
    refine WL.next hK1 (fun _ _ h => h) (i + 1, updN F i ((s.tk i).n : Nat)) ⟨hi', fun j hj => by { have hj : j < i + 1 := hj; by_cases hji : j = i; · { subst hji; exact updN_same }; · { show updN F i _ j = _; rw [updN_ne hji]; exact hF j (by omega) } }, stE (iF_set (n := 16)) st⟩ (by show 16 - (i + 1) < 16 - i; omega) (by repeat (first | exact sub_nil _ | refine sub_cons rfl rfl ?_))
  subst h16
  have st : S0 w0 ((b3, Row 76 16 (iF fun i => ((s.tk i).n : Nat))) :: zR b2 :: Y) w := stE (fun k hk => by unfold iF; rw [hF k hk]) st
  rcases victimP_or (s := s) with hv | ⟨n, hn, hv⟩
  · have e : detectP s = (s, 2, -1) := if_pos hv
    refine WC.seq fun K1118 hK1118 => ?_
    -- region 3
    refine WC.region ?_
    -- R3.0 9 := kernel.go:200 binOp
    refine WL.v (by first | exact r_lss rfl rfl (decide_eq_true (by omega)) | exact r_lss rfl rfl (decide_eq_false (by omega)) | exact r_lss rfl rfl rfl) rfl rfl rfl ?_
    refine WL.fin hK1118 (fun _ _ h => h) ?_
    refine WC.seq fun K1119 hK1119 => ?_
    refine WC.condF rfl rfl ?_
    refine WC.exitF hK1112 (fun _ _ h => h) ?_
    refine WC.seq fun K1120 hK1120 => ?_
    -- region 7
    refine WC.region ?_
    -- R7.0 23 := kernel.go:203 move
    refine WL.v (by first | exact r_move (v := .pointer _) rfl | exact r_move rfl) rfl rfl rfl ?_
    -- R7.1 24 := kernel.go:203 nilCheck
    refine WL.v (by exact r_nilCheck rfl) rfl rfl rfl ?_
    -- R7.2 25 := kernel.go:203 fieldAddr
    refine WL.v (by exact r_field ty_fld120_1 rfl) rfl rfl rfl ?_
    -- R7.3 26 := kernel.go:203 load
    refine WL.v (by exact r_load1 (v := .pointer (some ⟨B.br, 0, none⟩)) ty_one107 rfl (V.cr st.drop.drop)) rfl rfl rfl ?_
    -- R7.4 27 := kernel.go:203 call
    refine WL.call (r_call ty_call116 rfl) rfl rfl rfl (victim_ok (work := fun i => (s.tk i).n) hD hB.held hB.qt (List.mem_cons_of_mem _ (List.mem_cons_of_mem _ V.r)) V.q (fun r hr x hx => List.mem_cons_of_mem _ (List.mem_cons_of_mem _ (V.qs r hr hx))) List.mem_cons_self st) ?_
    rintro _ w ⟨he, st⟩
    rw [show (victimQ s.held s.queue fun i => (s.tk i).n) = _ from hv] at he
    subst he
    have st : KH w0 B s (zR b2 :: l) w := V.back (I := [_]) st.drop
    -- R7.5 22 := kernel.go:203 move
    refine WL.v (by first | exact r_move (v := .tuple _) rfl | exact r_move rfl) rfl rfl rfl ?_
    -- R7.6 28 := kernel.go:203 extract
    refine WL.v (by first | exact r_extract (v := .int _ _) rfl rfl | exact r_extract rfl rfl) rfl rfl rfl ?_
    -- R7.7 29 := kernel.go:203 extract
    refine WL.v (by exact r_extract (v := .bool false) rfl rfl) rfl rfl rfl ?_
    -- R7.8 5 := kernel.go:203 assign
    refine WL.v (by first | exact r_assign (v := .int _ _) rfl | exact r_assign rfl) rfl rfl rfl ?_
    -- R7.9 6 := kernel.go:203 assign
    refine WL.v (by first | exact r_assign (v := .bool _) rfl | exact r_assign rfl) rfl rfl rfl ?_
    refine WL.fin hK1120 (fun _ _ h => h) ?_
    refine WC.seq fun K1121 hK1121 => ?_
    refine WC.seq fun K1122 hK1122 => ?_
    -- region 8
    refine WC.region ?_
    -- R8.0 30 := kernel.go:204 move
    refine WL.v (by first | exact r_move (v := .bool _) rfl | exact r_move rfl) rfl rfl rfl ?_
    -- R8.1 31 := kernel.go:204 unOp
    refine WL.v (by first | exact r_notT rfl | exact r_notF rfl | exact r_not rfl) rfl rfl rfl ?_
    refine WL.fin hK1122 (fun _ _ h => h) ?_
    refine WC.condT rfl rfl ?_
    refine WC.seq fun K1123 hK1123 => ?_
    -- region 9
    refine WC.region ?_
    -- R9.0 32 := kernel.go:205 move
    refine WL.v (by first | exact r_move (v := .pointer _) rfl | exact r_move rfl) rfl rfl rfl ?_
    -- R9.1 33 := kernel.go:205 call
    refine WL.call (r_call ty_call88 rfl) rfl rfl rfl (done_ok st) ?_
    rintro _ w ⟨ovr, XO, hor, rfl, st⟩
    obtain ⟨ar, cr, br, rfl, -, -, -, -⟩ := hor.form
    obtain ⟨Yr, st, backr⟩ := KH.out (st.perm (List.perm_append_comm_assoc XO [_] l))
    -- R9.2 None := kernel.go:205 store
    first | refine WL.storeW (vs := [_, _, _]) st ty_agg34 rfl rfl rfl rfl rfl rfl ?_ | refine WL.storeL (vs := [_, _, _]) st ty_agg34 rfl rfl rfl rfl (by first | decide | omega) rfl rfl ?_ | refine WL.storeW (vs := [_, _, _]) st.front1 ty_agg34 rfl rfl rfl rfl rfl rfl ?_ | refine WL.storeL (vs := [_, _, _]) st.front1 ty_agg34 rfl rfl rfl rfl (by first | decide | omega) rfl rfl ?_ | refine WL.storeW (vs := [_, _, _]) st.front2 ty_agg34 rfl rfl rfl rfl rfl rfl ?_ | refine WL.storeL (vs := [_, _, _]) st.front2 ty_agg34 rfl rfl rfl rfl (by first | decide | omega) rfl rfl ?_ | refine WL.storeW (vs := [_, _, _]) st.front3 ty_agg34 rfl rfl rfl rfl rfl rfl ?_ | refine WL.storeL (vs := [_, _, _]) st.front3 ty_agg34 rfl rfl rfl rfl (by first | decide | omega) rfl rfl ?_ | refine WL.storeW (vs := [_, _, _]) st.front4 ty_agg34 rfl rfl rfl rfl rfl rfl ?_ | refine WL.storeL (vs := [_, _, _]) st.front4 ty_agg34 rfl rfl rfl rfl (by first | decide | omega) rfl rfl ?_ | refine WL.storeW (vs := [_, _, _]) st.front5 ty_agg34 rfl rfl rfl rfl rfl rfl ?_ | refine WL.storeL (vs := [_, _, _]) st.front5 ty_agg34 rfl rfl rfl rfl (by first | decide | omega) rfl rfl ?_ | refine WL.storeW (vs := [_, _, _]) st.front6 ty_agg34 rfl rfl rfl rfl rfl rfl ?_ | refine WL.storeL (vs := [_, _, _]) st.front6 ty_agg34 rfl rfl rfl rfl (by first | decide | omega) rfl rfl ?_ | refine WL.storeW (vs := [_, _, _]) st.front7 ty_agg34 rfl rfl rfl rfl rfl rfl ?_ | refine WL.storeL (vs := [_, _, _]) st.front7 ty_agg34 rfl rfl rfl rfl (by first | decide | omega) rfl rfl ?_ | refine WL.storeW (vs := [_, _, _]) st.front8 ty_agg34 rfl rfl rfl rfl rfl rfl ?_ | refine WL.storeL (vs := [_, _, _]) st.front8 ty_agg34 rfl rfl rfl rfl (by first | decide | omega) rfl rfl ?_
    intro w st
    refine WL.fin hK1123 (fun _ _ h => h) ?_
    refine WC.retC (vs := [_, _, _]) Tryz.results87 (fun _ _ h => h) rfl ty_agg34 rfl ⟨(by first | assumption | exact st.c0 (by first | decide | omega) | exact st.c1 (by first | decide | omega) | exact st.c2 (by first | decide | omega) | exact st.c3 (by first | decide | omega) | exact st.c4 (by first | decide | omega) | exact st.c5 (by first | decide | omega) | exact st.c6 (by first | decide | omega) | exact st.c7 (by first | decide | omega) | exact st.c8 (by first | decide | omega)), (by first | assumption | exact st.c0 (by first | decide | omega) | exact st.c1 (by first | decide | omega) | exact st.c2 (by first | decide | omega) | exact st.c3 (by first | decide | omega) | exact st.c4 (by first | decide | omega) | exact st.c5 (by first | decide | omega) | exact st.c6 (by first | decide | omega) | exact st.c7 (by first | decide | omega) | exact st.c8 (by first | decide | omega)), (by first | assumption | exact st.c0 (by first | decide | omega) | exact st.c1 (by first | decide | omega) | exact st.c2 (by first | decide | omega) | exact st.c3 (by first | decide | omega) | exact st.c4 (by first | decide | omega) | exact st.c5 (by first | decide | omega) | exact st.c6 (by first | decide | omega) | exact st.c7 (by first | decide | omega) | exact st.c8 (by first | decide | omega)), trivial⟩ ?_
    rw [e]
    exact ⟨_, rfl, _, XO, hor, rfl, (backr st).drop⟩
  · have e : detectP s = (wakeP (abortP s n), (0 : Int), (n : Int)) := by unfold detectP; rw [hv, if_neg (by omega), Int.toNat_natCast]
    refine WC.seq fun K1124 hK1124 => ?_
    -- region 3
    refine WC.region ?_
    -- R3.0 9 := kernel.go:200 binOp
    refine WL.v (by first | exact r_lss rfl rfl (decide_eq_true (by omega)) | exact r_lss rfl rfl (decide_eq_false (by omega)) | exact r_lss rfl rfl rfl) rfl rfl rfl ?_
    refine WL.fin hK1124 (fun _ _ h => h) ?_
    refine WC.seq fun K1125 hK1125 => ?_
    refine WC.condF rfl rfl ?_
    refine WC.exitF hK1112 (fun _ _ h => h) ?_
    refine WC.seq fun K1126 hK1126 => ?_
    -- region 7
    refine WC.region ?_
    -- R7.0 23 := kernel.go:203 move
    refine WL.v (by first | exact r_move (v := .pointer _) rfl | exact r_move rfl) rfl rfl rfl ?_
    -- R7.1 24 := kernel.go:203 nilCheck
    refine WL.v (by exact r_nilCheck rfl) rfl rfl rfl ?_
    -- R7.2 25 := kernel.go:203 fieldAddr
    refine WL.v (by exact r_field ty_fld120_1 rfl) rfl rfl rfl ?_
    -- R7.3 26 := kernel.go:203 load
    refine WL.v (by exact r_load1 (v := .pointer (some ⟨B.br, 0, none⟩)) ty_one107 rfl (V.cr st.drop.drop)) rfl rfl rfl ?_
    -- R7.4 27 := kernel.go:203 call
    refine WL.call (r_call ty_call116 rfl) rfl rfl rfl (victim_ok (work := fun i => (s.tk i).n) hD hB.held hB.qt (List.mem_cons_of_mem _ (List.mem_cons_of_mem _ V.r)) V.q (fun r hr x hx => List.mem_cons_of_mem _ (List.mem_cons_of_mem _ (V.qs r hr hx))) List.mem_cons_self st) ?_
    rintro _ w ⟨he, st⟩
    rw [show (victimQ s.held s.queue fun i => (s.tk i).n) = _ from hv] at he
    subst he
    have st : KH w0 B s (zR b2 :: l) w := V.back (I := [_]) st.drop
    -- R7.5 22 := kernel.go:203 move
    refine WL.v (by first | exact r_move (v := .tuple _) rfl | exact r_move rfl) rfl rfl rfl ?_
    -- R7.6 28 := kernel.go:203 extract
    refine WL.v (by first | exact r_extract (v := .int _ _) rfl rfl | exact r_extract rfl rfl) rfl rfl rfl ?_
    -- R7.7 29 := kernel.go:203 extract
    refine WL.v (by exact r_extract (v := .bool true) rfl (congrArg (fun b => some (Value.bool b)) (decide_eq_true (show (n : Int) ≠ -1 by omega)))) rfl rfl rfl ?_
    -- R7.8 5 := kernel.go:203 assign
    refine WL.v (by first | exact r_assign (v := .int _ _) rfl | exact r_assign rfl) rfl rfl rfl ?_
    -- R7.9 6 := kernel.go:203 assign
    refine WL.v (by first | exact r_assign (v := .bool _) rfl | exact r_assign rfl) rfl rfl rfl ?_
    refine WL.fin hK1126 (fun _ _ h => h) ?_
    refine WC.seq fun K1127 hK1127 => ?_
    refine WC.seq fun K1128 hK1128 => ?_
    -- region 8
    refine WC.region ?_
    -- R8.0 30 := kernel.go:204 move
    refine WL.v (by first | exact r_move (v := .bool _) rfl | exact r_move rfl) rfl rfl rfl ?_
    -- R8.1 31 := kernel.go:204 unOp
    refine WL.v (by first | exact r_notT rfl | exact r_notF rfl | exact r_not rfl) rfl rfl rfl ?_
    refine WL.fin hK1128 (fun _ _ h => h) ?_
    refine WC.condF rfl rfl ?_
    refine WC.skipF hK1127 (fun _ _ h => h) ?_
    refine WC.seq fun K1129 hK1129 => ?_
    -- region 10
    refine WC.region ?_
    -- R10.0 34 := kernel.go:207 move
    refine WL.v (by first | exact r_move (v := .pointer _) rfl | exact r_move rfl) rfl rfl rfl ?_
    -- R10.1 35 := kernel.go:207 move
    refine WL.v (by first | exact r_move (v := .int _ _) rfl | exact r_move rfl) rfl rfl rfl ?_
    -- R10.2 36 := kernel.go:207 call
    refine WL.call (r_call ty_call117 rfl) rfl rfl rfl (abort_ok hn (hB.n n) (hB.ec n) (by omega) st) ?_
    rintro _ w ⟨rfl, st⟩
    refine WL.fin hK1129 (fun _ _ h => h) ?_
    refine WC.seq fun K1130 hK1130 => ?_
    -- region 11
    refine WC.region ?_
    -- R11.0 37 := kernel.go:208 move
    refine WL.v (by first | exact r_move (v := .pointer _) rfl | exact r_move rfl) rfl rfl rfl ?_
    -- R11.1 38 := kernel.go:208 call
    refine WL.call (r_call ty_call107 rfl) rfl rfl rfl (wake_ok hB.abort hN st) ?_
    rintro _ w ⟨rfl, st⟩
    refine WL.fin hK1130 (fun _ _ h => h) ?_
    refine WC.seq fun K1131 hK1131 => ?_
    -- region 12
    refine WC.region ?_
    -- R12.0 39 := kernel.go:209 move
    refine WL.v (by first | exact r_move (v := .pointer _) rfl | exact r_move rfl) rfl rfl rfl ?_
    -- R12.1 40 := kernel.go:209 call
    refine WL.call (r_call ty_call88 rfl) rfl rfl rfl (done_ok st) ?_
    rintro _ w ⟨ovr, XO, hor, rfl, st⟩
    obtain ⟨ar, cr, br, rfl, -, -, -, -⟩ := hor.form
    obtain ⟨Yr, st, backr⟩ := KH.out (st.perm (List.perm_append_comm_assoc XO [_] l))
    -- R12.2 7 := kernel.go:209 alloc
    refine WL.alloc (m := 3) st ty_zero34 rfl rfl rfl ?_
    intro b7 w st
    -- R12.3 None := kernel.go:209 store
    first | refine WL.storeW (vs := [_, _, _]) st ty_agg34 rfl rfl rfl rfl rfl rfl ?_ | refine WL.storeL (vs := [_, _, _]) st ty_agg34 rfl rfl rfl rfl (by first | decide | omega) rfl rfl ?_ | refine WL.storeW (vs := [_, _, _]) st.front1 ty_agg34 rfl rfl rfl rfl rfl rfl ?_ | refine WL.storeL (vs := [_, _, _]) st.front1 ty_agg34 rfl rfl rfl rfl (by first | decide | omega) rfl rfl ?_ | refine WL.storeW (vs := [_, _, _]) st.front2 ty_agg34 rfl rfl rfl rfl rfl rfl ?_ | refine WL.storeL (vs := [_, _, _]) st.front2 ty_agg34 rfl rfl rfl rfl (by first | decide | omega) rfl rfl ?_ | refine WL.storeW (vs := [_, _, _]) st.front3 ty_agg34 rfl rfl rfl rfl rfl rfl ?_ | refine WL.storeL (vs := [_, _, _]) st.front3 ty_agg34 rfl rfl rfl rfl (by first | decide | omega) rfl rfl ?_ | refine WL.storeW (vs := [_, _, _]) st.front4 ty_agg34 rfl rfl rfl rfl rfl rfl ?_ | refine WL.storeL (vs := [_, _, _]) st.front4 ty_agg34 rfl rfl rfl rfl (by first | decide | omega) rfl rfl ?_ | refine WL.storeW (vs := [_, _, _]) st.front5 ty_agg34 rfl rfl rfl rfl rfl rfl ?_ | refine WL.storeL (vs := [_, _, _]) st.front5 ty_agg34 rfl rfl rfl rfl (by first | decide | omega) rfl rfl ?_ | refine WL.storeW (vs := [_, _, _]) st.front6 ty_agg34 rfl rfl rfl rfl rfl rfl ?_ | refine WL.storeL (vs := [_, _, _]) st.front6 ty_agg34 rfl rfl rfl rfl (by first | decide | omega) rfl rfl ?_ | refine WL.storeW (vs := [_, _, _]) st.front7 ty_agg34 rfl rfl rfl rfl rfl rfl ?_ | refine WL.storeL (vs := [_, _, _]) st.front7 ty_agg34 rfl rfl rfl rfl (by first | decide | omega) rfl rfl ?_ | refine WL.storeW (vs := [_, _, _]) st.front8 ty_agg34 rfl rfl rfl rfl rfl rfl ?_ | refine WL.storeL (vs := [_, _, _]) st.front8 ty_agg34 rfl rfl rfl rfl (by first | decide | omega) rfl rfl ?_
    intro w st
    refine WL.fin hK1131 (fun _ _ h => h) ?_
    refine WC.seq fun K1132 hK1132 => ?_
    -- region 13
    refine WC.region ?_
    -- R13.0 41 := kernel.go:210 move
    refine WL.v (by first | exact r_move (v := .int _ _) rfl | exact r_move rfl) rfl rfl rfl ?_
    -- R13.1 42 := kernel.go:210 fieldAddr
    refine WL.v (by exact r_field ty_fld34_1 rfl) rfl rfl rfl ?_
    -- R13.2 None := kernel.go:210 store
    first | refine WL.store (v := .int _ _) st ty_one31 rfl rfl rfl (by first | decide | omega) rfl rfl ?_ | refine WL.store (v := _) st ty_one31 rfl rfl rfl (by first | decide | omega) rfl rfl ?_ | refine WL.store (v := .int _ _) st.front1 ty_one31 rfl rfl rfl (by first | decide | omega) rfl rfl ?_ | refine WL.store (v := _) st.front1 ty_one31 rfl rfl rfl (by first | decide | omega) rfl rfl ?_ | refine WL.store (v := .int _ _) st.front2 ty_one31 rfl rfl rfl (by first | decide | omega) rfl rfl ?_ | refine WL.store (v := _) st.front2 ty_one31 rfl rfl rfl (by first | decide | omega) rfl rfl ?_ | refine WL.store (v := .int _ _) st.front3 ty_one31 rfl rfl rfl (by first | decide | omega) rfl rfl ?_ | refine WL.store (v := _) st.front3 ty_one31 rfl rfl rfl (by first | decide | omega) rfl rfl ?_ | refine WL.store (v := .int _ _) st.front4 ty_one31 rfl rfl rfl (by first | decide | omega) rfl rfl ?_ | refine WL.store (v := _) st.front4 ty_one31 rfl rfl rfl (by first | decide | omega) rfl rfl ?_ | refine WL.store (v := .int _ _) st.front5 ty_one31 rfl rfl rfl (by first | decide | omega) rfl rfl ?_ | refine WL.store (v := _) st.front5 ty_one31 rfl rfl rfl (by first | decide | omega) rfl rfl ?_ | refine WL.store (v := .int _ _) st.front6 ty_one31 rfl rfl rfl (by first | decide | omega) rfl rfl ?_ | refine WL.store (v := _) st.front6 ty_one31 rfl rfl rfl (by first | decide | omega) rfl rfl ?_ | refine WL.store (v := .int _ _) st.front7 ty_one31 rfl rfl rfl (by first | decide | omega) rfl rfl ?_ | refine WL.store (v := _) st.front7 ty_one31 rfl rfl rfl (by first | decide | omega) rfl rfl ?_ | refine WL.store (v := .int _ _) st.front8 ty_one31 rfl rfl rfl (by first | decide | omega) rfl rfl ?_ | refine WL.store (v := _) st.front8 ty_one31 rfl rfl rfl (by first | decide | omega) rfl rfl ?_
    intro w st
    refine WL.fin hK1132 (fun _ _ h => h) ?_
    refine WC.seq fun K1133 hK1133 => ?_
    -- region 14
    refine WC.region ?_
    -- R14.0 43 := kernel.go:211 load
    refine WL.v (by exact r_loadL (vs := [_, _, _]) ty_agg34 rfl ⟨(by first | assumption | exact st.c0 (by first | decide | omega) | exact st.c1 (by first | decide | omega) | exact st.c2 (by first | decide | omega) | exact st.c3 (by first | decide | omega) | exact st.c4 (by first | decide | omega) | exact st.c5 (by first | decide | omega) | exact st.c6 (by first | decide | omega) | exact st.c7 (by first | decide | omega) | exact st.c8 (by first | decide | omega)), (by first | assumption | exact st.c0 (by first | decide | omega) | exact st.c1 (by first | decide | omega) | exact st.c2 (by first | decide | omega) | exact st.c3 (by first | decide | omega) | exact st.c4 (by first | decide | omega) | exact st.c5 (by first | decide | omega) | exact st.c6 (by first | decide | omega) | exact st.c7 (by first | decide | omega) | exact st.c8 (by first | decide | omega)), (by first | assumption | exact st.c0 (by first | decide | omega) | exact st.c1 (by first | decide | omega) | exact st.c2 (by first | decide | omega) | exact st.c3 (by first | decide | omega) | exact st.c4 (by first | decide | omega) | exact st.c5 (by first | decide | omega) | exact st.c6 (by first | decide | omega) | exact st.c7 (by first | decide | omega) | exact st.c8 (by first | decide | omega)), trivial⟩) rfl rfl rfl ?_
    -- R14.1 None := kernel.go:211 store
    first | refine WL.storeW (vs := [_, _, _]) st ty_agg34 rfl rfl rfl rfl rfl rfl ?_ | refine WL.storeL (vs := [_, _, _]) st ty_agg34 rfl rfl rfl rfl (by first | decide | omega) rfl rfl ?_ | refine WL.storeW (vs := [_, _, _]) st.front1 ty_agg34 rfl rfl rfl rfl rfl rfl ?_ | refine WL.storeL (vs := [_, _, _]) st.front1 ty_agg34 rfl rfl rfl rfl (by first | decide | omega) rfl rfl ?_ | refine WL.storeW (vs := [_, _, _]) st.front2 ty_agg34 rfl rfl rfl rfl rfl rfl ?_ | refine WL.storeL (vs := [_, _, _]) st.front2 ty_agg34 rfl rfl rfl rfl (by first | decide | omega) rfl rfl ?_ | refine WL.storeW (vs := [_, _, _]) st.front3 ty_agg34 rfl rfl rfl rfl rfl rfl ?_ | refine WL.storeL (vs := [_, _, _]) st.front3 ty_agg34 rfl rfl rfl rfl (by first | decide | omega) rfl rfl ?_ | refine WL.storeW (vs := [_, _, _]) st.front4 ty_agg34 rfl rfl rfl rfl rfl rfl ?_ | refine WL.storeL (vs := [_, _, _]) st.front4 ty_agg34 rfl rfl rfl rfl (by first | decide | omega) rfl rfl ?_ | refine WL.storeW (vs := [_, _, _]) st.front5 ty_agg34 rfl rfl rfl rfl rfl rfl ?_ | refine WL.storeL (vs := [_, _, _]) st.front5 ty_agg34 rfl rfl rfl rfl (by first | decide | omega) rfl rfl ?_ | refine WL.storeW (vs := [_, _, _]) st.front6 ty_agg34 rfl rfl rfl rfl rfl rfl ?_ | refine WL.storeL (vs := [_, _, _]) st.front6 ty_agg34 rfl rfl rfl rfl (by first | decide | omega) rfl rfl ?_ | refine WL.storeW (vs := [_, _, _]) st.front7 ty_agg34 rfl rfl rfl rfl rfl rfl ?_ | refine WL.storeL (vs := [_, _, _]) st.front7 ty_agg34 rfl rfl rfl rfl (by first | decide | omega) rfl rfl ?_ | refine WL.storeW (vs := [_, _, _]) st.front8 ty_agg34 rfl rfl rfl rfl rfl rfl ?_ | refine WL.storeL (vs := [_, _, _]) st.front8 ty_agg34 rfl rfl rfl rfl (by first | decide | omega) rfl rfl ?_
    intro w st
    refine WL.fin hK1133 (fun _ _ h => h) ?_
    refine WC.retC (vs := [_, _, _]) Tryz.results87 (fun _ _ h => h) rfl ty_agg34 rfl ⟨(by first | assumption | exact st.c0 (by first | decide | omega) | exact st.c1 (by first | decide | omega) | exact st.c2 (by first | decide | omega) | exact st.c3 (by first | decide | omega) | exact st.c4 (by first | decide | omega) | exact st.c5 (by first | decide | omega) | exact st.c6 (by first | decide | omega) | exact st.c7 (by first | decide | omega) | exact st.c8 (by first | decide | omega)), (by first | assumption | exact st.c0 (by first | decide | omega) | exact st.c1 (by first | decide | omega) | exact st.c2 (by first | decide | omega) | exact st.c3 (by first | decide | omega) | exact st.c4 (by first | decide | omega) | exact st.c5 (by first | decide | omega) | exact st.c6 (by first | decide | omega) | exact st.c7 (by first | decide | omega) | exact st.c8 (by first | decide | omega)), (by first | assumption | exact st.c0 (by first | decide | omega) | exact st.c1 (by first | decide | omega) | exact st.c2 (by first | decide | omega) | exact st.c3 (by first | decide | omega) | exact st.c4 (by first | decide | omega) | exact st.c5 (by first | decide | omega) | exact st.c6 (by first | decide | omega) | exact st.c7 (by first | decide | omega) | exact st.c8 (by first | decide | omega)), trivial⟩ ?_
    rw [e]
    exact ⟨_, rfl, _, XO, hor, rfl, (backr (st.drop1)).drop⟩

def tick1 (s : KS) (f : Nat × Nat × Nat) : KS := if (s.tk f.2.2).waiting = true ∧ (s.tk f.2.2).timer = f.1 then wakeP (answerP { s with queue := withdrawP s.queue f.2.2 } f.2.2 4) else s
def tick0 (s : KS) : KS := { s with now := s.now + 1, timers := restP s.timers (s.now + 1) }
def firedP (s : KS) : List (Nat × Nat × Nat) := sortT (dueP s.timers (s.now + 1))
def tickP (s : KS) : KS := (firedP s).foldl tick1 (tick0 s)
theorem KB.withdraw (h : KB N s) : KB N { s with queue := withdrawP s.queue t } where
  held := h.held
  claim := h.claim
  qt r p hp := h.qt r p (List.mem_filter.1 hp).1
  n := h.n
  ec := h.ec
  tt := h.tt
  td := h.td
  ta := h.ta
  tn := h.tn
  nn := by have := h.nn; have := qsum_withdraw (queue := s.queue) (t := t); show qsum (withdrawP s.queue t) + s.told.length ≤ N; omega
theorem KB.tick1 {f : Nat × Nat × Nat} (h : KB N s) : KB (N + 1) (tick1 s f) := by
  unfold Go.Proofs.Qxb6500834aGreatDoor.tick1
  split
  · exact h.withdraw.answer.wake
  · exact h.mono (by omega)
theorem KB.tick0 (h : KB N s) : KB N (tick0 s) where
  held := h.held
  claim := h.claim
  qt := h.qt
  n := h.n
  ec := h.ec
  tt p hp := h.tt p (List.mem_filter.1 hp).1
  td := h.td.filter _
  ta p hp := h.ta p (List.mem_filter.1 hp).1
  tn := by have := h.tn; have := List.length_filter_le (fun p : Nat × Nat × Nat => !decide (p.2.1 ≤ s.now + 1)) s.timers; show (s.timers.filter _).length ≤ s.armed; omega
  nn := h.nn
theorem td_inj {L : List (Nat × Nat × Nat)} (h : L.Pairwise fun a b => a.1 < b.1) : ∀ a b, a ∈ L → b ∈ L → a.1 = b.1 → a = b := by
  induction L with
  | nil => intro a b ha; cases ha
  | cons x L ih =>
    intro a b ha hb e
    rw [List.pairwise_cons] at h
    rcases List.mem_cons.1 ha with h1 | h1 <;> rcases List.mem_cons.1 hb with h2 | h2
    · rw [h1, h2]
    · have := h.1 b h2; rw [h1] at e; omega
    · have := h.1 a h1; rw [h2] at e; omega
    · exact ih h.2 a b h1 h2 e
theorem firedP_mem {f : Nat × Nat × Nat} (h : f ∈ firedP s) : f ∈ s.timers := (List.mem_filter.1 ((sortT_perm _).mem_iff.1 h)).1
theorem firedP_len : (firedP s).length ≤ s.timers.length := by
  unfold firedP
  rw [(sortT_perm _).length_eq]
  exact List.length_filter_le _ _
set_option maxHeartbeats 2000000 in
theorem tick_ok (hB : KB N s) (harm : s.armed ≤ 400000) (hN : N ≤ 400000) (hnow : s.now < 9223372036854775808) (st : KH w0 B s l w) :
    Calls Tryz.prog 86 #[.pointer (some ⟨B.bk, 0, none⟩)] w (Ret fun v w' => RK w0 B (tickP s) 0 (-1) l v w') := by
  obtain ⟨Y, qv, XQ, tv, ov, V, st⟩ := st.view
  have htn := hB.tn
  refine enter [.pointer (some ⟨B.bk, 0, none⟩)] Tryz.func86 rfl Tryz.ntmps86 rfl ?_
  show WC _ _ _ 53 [] [(0, .pointer (some ⟨B.bk, 0, none⟩))] _
  refine WC.seq fun K1134 hK1134 => ?_
  -- region 0
  refine WC.region ?_
  -- R0.0 2 := kernel.go:182 alloc
  refine WL.alloc (m := 3) st ty_zero34 rfl rfl rfl ?_
  intro b2 w st
  refine WL.fin hK1134 (fun _ _ h => h) ?_
  refine WC.seq fun K1135 hK1135 => ?_
  refine WC.seq fun K1136 hK1136 => ?_
  -- region 1
  obtain ⟨Y1, qv1, XQ1, tv1, ov1, V1, st⟩ := (V.back (I := [_]) st).view
  refine WC.region ?_
  -- R1.0 6 := kernel.go:183 move
  refine WL.v (by first | exact r_move (v := .pointer _) rfl | exact r_move rfl) rfl rfl rfl ?_
  -- R1.1 7 := kernel.go:183 nilCheck
  refine WL.v (by exact r_nilCheck rfl) rfl rfl rfl ?_
  -- R1.2 8 := kernel.go:183 fieldAddr
  refine WL.v (by exact r_field ty_fld120_0 rfl) rfl rfl rfl ?_
  -- R1.3 9 := kernel.go:183 load
  refine WL.v (by exact r_load1 (v := .pointer (some ⟨B.bm, 0, none⟩)) ty_one105 rfl (V1.cm st)) rfl rfl rfl ?_
  -- R1.4 10 := kernel.go:183 call
  obtain ⟨Y2, mh, back2⟩ := (V1.same st).mach
  refine WL.call (r_call ty_call113 rfl) rfl rfl rfl (mtick_ok hnow (by omega) (td_inj hB.td) mh) ?_
  rintro _ w ⟨X, ho, mh⟩
  have st : KH w0 B (tick0 s) (X ++ (zR b2 :: l)) w := back2 mh
  have ho : TL0 _ (firedP s) X := ho
  obtain ⟨Fs, hFs⟩ : ∃ Fs, Fs = firedP s := ⟨_, rfl⟩
  have hFl : Fs.length ≤ s.timers.length := by rw [hFs]; exact firedP_len
  have hF16 : ∀ f, f ∈ Fs → f.2.2 < 16 := fun f h => by rw [hFs] at h; exact hB.tt f (firedP_mem h)
  rw [← hFs] at ho
  have etp : tickP s = Fs.foldl tick1 (tick0 s) := by rw [hFs]; rfl
  obtain ⟨a, c, b, rfl, hc1, hc2, ha, hcell⟩ := ho.form
  -- R1.5 11 := kernel.go:183 call
  refine WL.v (by exact r_len ty_usl145 rfl) rfl rfl rfl ?_
  -- R1.6 12 := kernel.go:183 move
  refine WL.v (by first | exact r_move (v := .int _ _) rfl | exact r_move rfl) rfl rfl rfl ?_
  refine WL.fin hK1136 (fun _ _ h => h) ?_
  refine WC.block ?_
  refine WC.loop (ι := Nat) (fun i => [(0, .pointer (some ⟨B.bk, 0, none⟩)), (2, .pointer (some ⟨b2, 0, none⟩)), (10, .slice a Fs.length c), (11, .int .i64 (Fs.length : Nat)), (12, .int .i64 (i : Nat))])
    (fun i w' => i ≤ Fs.length ∧ KB (N + i) ((Fs.take i).foldl tick1 (tick0 s)) ∧ KH w0 B ((Fs.take i).foldl tick1 (tick0 s)) (X ++ (zR b2 :: l)) w') (fun i => Fs.length - i) 0 ⟨Nat.zero_le _, hB.tick0, st⟩ ?_ ?_
  · skip
    repeat (first | exact sub_nil _ | refine sub_cons rfl rfl ?_)
  clear st
  rintro i w ⟨hi, hBi, st⟩ K1 hK1
  by_cases hil : i = Fs.length
  · subst hil
    rw [List.take_length] at st
    refine WC.seq fun K1137 hK1137 => ?_
    -- region 2
    refine WC.region ?_
    -- R2.0 13 := kernel.go:183 binOp
    refine WL.v (by first | exact r_lss rfl rfl (decide_eq_true (by omega)) | exact r_lss rfl rfl (decide_eq_false (by omega)) | exact r_lss rfl rfl rfl) rfl rfl rfl ?_
    refine WL.fin hK1137 (fun _ _ h => h) ?_
    refine WC.seq fun K1138 hK1138 => ?_
    refine WC.condF rfl rfl ?_
    refine WC.exitF hK1135 (fun _ _ h => h) ?_
    refine WC.seq fun K1139 hK1139 => ?_
    -- region 10
    refine WC.region ?_
    -- R10.0 51 := kernel.go:192 move
    refine WL.v (by first | exact r_move (v := .pointer _) rfl | exact r_move rfl) rfl rfl rfl ?_
    -- R10.1 52 := kernel.go:192 call
    refine WL.call (r_call ty_call88 rfl) rfl rfl rfl (done_ok st.dropL) ?_
    rintro _ w ⟨ovr, XO, hor, rfl, st⟩
    obtain ⟨ar, cr, br, rfl, -, -, -, -⟩ := hor.form
    obtain ⟨Yr, st, backr⟩ := KH.out (st.perm (List.perm_append_comm_assoc XO [_] l))
    -- R10.2 None := kernel.go:192 store
    first | refine WL.storeW (vs := [_, _, _]) st ty_agg34 rfl rfl rfl rfl rfl rfl ?_ | refine WL.storeL (vs := [_, _, _]) st ty_agg34 rfl rfl rfl rfl (by first | decide | omega) rfl rfl ?_ | refine WL.storeW (vs := [_, _, _]) st.front1 ty_agg34 rfl rfl rfl rfl rfl rfl ?_ | refine WL.storeL (vs := [_, _, _]) st.front1 ty_agg34 rfl rfl rfl rfl (by first | decide | omega) rfl rfl ?_ | refine WL.storeW (vs := [_, _, _]) st.front2 ty_agg34 rfl rfl rfl rfl rfl rfl ?_ | refine WL.storeL (vs := [_, _, _]) st.front2 ty_agg34 rfl rfl rfl rfl (by first | decide | omega) rfl rfl ?_ | refine WL.storeW (vs := [_, _, _]) st.front3 ty_agg34 rfl rfl rfl rfl rfl rfl ?_ | refine WL.storeL (vs := [_, _, _]) st.front3 ty_agg34 rfl rfl rfl rfl (by first | decide | omega) rfl rfl ?_ | refine WL.storeW (vs := [_, _, _]) st.front4 ty_agg34 rfl rfl rfl rfl rfl rfl ?_ | refine WL.storeL (vs := [_, _, _]) st.front4 ty_agg34 rfl rfl rfl rfl (by first | decide | omega) rfl rfl ?_ | refine WL.storeW (vs := [_, _, _]) st.front5 ty_agg34 rfl rfl rfl rfl rfl rfl ?_ | refine WL.storeL (vs := [_, _, _]) st.front5 ty_agg34 rfl rfl rfl rfl (by first | decide | omega) rfl rfl ?_ | refine WL.storeW (vs := [_, _, _]) st.front6 ty_agg34 rfl rfl rfl rfl rfl rfl ?_ | refine WL.storeL (vs := [_, _, _]) st.front6 ty_agg34 rfl rfl rfl rfl (by first | decide | omega) rfl rfl ?_ | refine WL.storeW (vs := [_, _, _]) st.front7 ty_agg34 rfl rfl rfl rfl rfl rfl ?_ | refine WL.storeL (vs := [_, _, _]) st.front7 ty_agg34 rfl rfl rfl rfl (by first | decide | omega) rfl rfl ?_ | refine WL.storeW (vs := [_, _, _]) st.front8 ty_agg34 rfl rfl rfl rfl rfl rfl ?_ | refine WL.storeL (vs := [_, _, _]) st.front8 ty_agg34 rfl rfl rfl rfl (by first | decide | omega) rfl rfl ?_
    intro w st
    refine WL.fin hK1139 (fun _ _ h => h) ?_
    refine WC.retC (vs := [_, _, _]) Tryz.results86 (fun _ _ h => h) rfl ty_agg34 rfl ⟨(by first | assumption | exact st.c0 (by first | decide | omega) | exact st.c1 (by first | decide | omega) | exact st.c2 (by first | decide | omega) | exact st.c3 (by first | decide | omega) | exact st.c4 (by first | decide | omega) | exact st.c5 (by first | decide | omega) | exact st.c6 (by first | decide | omega) | exact st.c7 (by first | decide | omega) | exact st.c8 (by first | decide | omega)), (by first | assumption | exact st.c0 (by first | decide | omega) | exact st.c1 (by first | decide | omega) | exact st.c2 (by first | decide | omega) | exact st.c3 (by first | decide | omega) | exact st.c4 (by first | decide | omega) | exact st.c5 (by first | decide | omega) | exact st.c6 (by first | decide | omega) | exact st.c7 (by first | decide | omega) | exact st.c8 (by first | decide | omega)), (by first | assumption | exact st.c0 (by first | decide | omega) | exact st.c1 (by first | decide | omega) | exact st.c2 (by first | decide | omega) | exact st.c3 (by first | decide | omega) | exact st.c4 (by first | decide | omega) | exact st.c5 (by first | decide | omega) | exact st.c6 (by first | decide | omega) | exact st.c7 (by first | decide | omega) | exact st.c8 (by first | decide | omega)), trivial⟩ ?_
    rw [etp]
    exact ⟨_, rfl, _, XO, hor, rfl, (backr st).drop⟩
  have hil' : i < Fs.length := by omega
  obtain ⟨f, hfi⟩ : ∃ f, Fs[i]? = some f := ⟨Fs[i], List.getElem?_eq_getElem hil'⟩
  have hf16 := hF16 f (List.mem_of_getElem? hfi)
  have hfs := foldl_snoc (f := tick1) (b := tick0 s) hfi
  obtain ⟨s1, hs1⟩ : ∃ s1, s1 = (Fs.take i).foldl tick1 (tick0 s) := ⟨_, rfl⟩
  rw [← hs1] at hfs hBi st
  obtain rfl := ha (by omega)
  have hnn := hBi.nn
  obtain ⟨Y3, qv3, XQ3, tv3, ov3, V3, st⟩ := st.view
  have hce := fun k hk => hcell st (fun x hx => V3.ls (List.mem_append_left _ hx)) i f hfi k hk
  rcases Bool.eq_false_or_eq_true (s1.tk f.2.2).waiting with hw | hw
  rotate_left
  · have e : tick1 s1 f = s1 := if_neg (by rw [hw]; rintro ⟨h, _⟩; cases h)
    refine WC.seq fun K1140 hK1140 => ?_
    -- region 2
    refine WC.region ?_
    -- R2.0 13 := kernel.go:183 binOp
    refine WL.v (by first | exact r_lss rfl rfl (decide_eq_true (by omega)) | exact r_lss rfl rfl (decide_eq_false (by omega)) | exact r_lss rfl rfl rfl) rfl rfl rfl ?_
    refine WL.fin hK1140 (fun _ _ h => h) ?_
    refine WC.seq fun K1141 hK1141 => ?_
    refine WC.condT rfl rfl ?_
    refine WC.skipF hK1141 (fun _ _ h => h) ?_
    refine WC.seq fun K1142 hK1142 => ?_
    refine WC.block ?_
    refine WC.seq fun K1143 hK1143 => ?_
    -- region 3
    refine WC.region ?_
    -- R3.0 14 := kernel.go:183 indexAddr
    refine WL.v (by exact r_indexS (j := i) ty_sl145 rfl rfl rfl (by omega)) rfl rfl rfl ?_
    -- R3.1 15 := kernel.go:183 load
    refine WL.v (by exact r_loadL (vs := [.int .u64 (f.1 : Nat), .int .u64 (f.2.1 : Nat), .int .u64 (f.2.2 : Nat)]) ty_agg164 rfl ⟨by rw [Nat.zero_add]; exact hce 0 (by decide), by rw [Nat.zero_add]; exact hce 1 (by decide), by rw [Nat.zero_add]; exact hce 2 (by decide), trivial⟩) rfl rfl rfl ?_
    -- R3.2 4 := kernel.go:183 alloc
    refine WL.alloc (m := 3) st ty_zero164 rfl rfl rfl ?_
    intro b4 w st
    -- R3.3 None := kernel.go:183 store
    first | refine WL.storeW (vs := [_, _, _]) st ty_agg164 rfl rfl rfl rfl rfl rfl ?_ | refine WL.storeL (vs := [_, _, _]) st ty_agg164 rfl rfl rfl rfl (by first | decide | omega) rfl rfl ?_ | refine WL.storeW (vs := [_, _, _]) st.front1 ty_agg164 rfl rfl rfl rfl rfl rfl ?_ | refine WL.storeL (vs := [_, _, _]) st.front1 ty_agg164 rfl rfl rfl rfl (by first | decide | omega) rfl rfl ?_ | refine WL.storeW (vs := [_, _, _]) st.front2 ty_agg164 rfl rfl rfl rfl rfl rfl ?_ | refine WL.storeL (vs := [_, _, _]) st.front2 ty_agg164 rfl rfl rfl rfl (by first | decide | omega) rfl rfl ?_ | refine WL.storeW (vs := [_, _, _]) st.front3 ty_agg164 rfl rfl rfl rfl rfl rfl ?_ | refine WL.storeL (vs := [_, _, _]) st.front3 ty_agg164 rfl rfl rfl rfl (by first | decide | omega) rfl rfl ?_ | refine WL.storeW (vs := [_, _, _]) st.front4 ty_agg164 rfl rfl rfl rfl rfl rfl ?_ | refine WL.storeL (vs := [_, _, _]) st.front4 ty_agg164 rfl rfl rfl rfl (by first | decide | omega) rfl rfl ?_ | refine WL.storeW (vs := [_, _, _]) st.front5 ty_agg164 rfl rfl rfl rfl rfl rfl ?_ | refine WL.storeL (vs := [_, _, _]) st.front5 ty_agg164 rfl rfl rfl rfl (by first | decide | omega) rfl rfl ?_ | refine WL.storeW (vs := [_, _, _]) st.front6 ty_agg164 rfl rfl rfl rfl rfl rfl ?_ | refine WL.storeL (vs := [_, _, _]) st.front6 ty_agg164 rfl rfl rfl rfl (by first | decide | omega) rfl rfl ?_ | refine WL.storeW (vs := [_, _, _]) st.front7 ty_agg164 rfl rfl rfl rfl rfl rfl ?_ | refine WL.storeL (vs := [_, _, _]) st.front7 ty_agg164 rfl rfl rfl rfl (by first | decide | omega) rfl rfl ?_ | refine WL.storeW (vs := [_, _, _]) st.front8 ty_agg164 rfl rfl rfl rfl rfl rfl ?_ | refine WL.storeL (vs := [_, _, _]) st.front8 ty_agg164 rfl rfl rfl rfl (by first | decide | omega) rfl rfl ?_
    intro w st
    refine WL.fin hK1143 (fun _ _ h => h) ?_
    refine WC.seq fun K1144 hK1144 => ?_
    -- region 4
    refine WC.region ?_
    -- R4.0 16 := kernel.go:184 fieldAddr
    refine WL.v (by exact r_field ty_fld164_2 rfl) rfl rfl rfl ?_
    -- R4.1 17 := kernel.go:184 load
    refine WL.v (by exact r_load1 ty_one26 rfl (by first | assumption | exact st.c0 (by first | decide | omega) | exact st.c1 (by first | decide | omega) | exact st.c2 (by first | decide | omega) | exact st.c3 (by first | decide | omega) | exact st.c4 (by first | decide | omega) | exact st.c5 (by first | decide | omega) | exact st.c6 (by first | decide | omega) | exact st.c7 (by first | decide | omega) | exact st.c8 (by first | decide | omega))) rfl rfl rfl ?_
    -- R4.2 18 := kernel.go:184 convert
    refine WL.v (by exact r_conv (r := ((f.2.2 : Nat) : Int)) ty_cv26_31 rfl (wi64 (by omega) (by omega))) rfl rfl rfl ?_
    -- R4.3 5 := kernel.go:184 assign
    refine WL.v (by first | exact r_assign (v := .int _ _) rfl | exact r_assign rfl) rfl rfl rfl ?_
    refine WL.fin hK1144 (fun _ _ h => h) ?_
    refine WC.seq fun K1145 hK1145 => ?_
    refine WC.seq fun K1146 hK1146 => ?_
    -- region 5 (draws)
    refine WC.quietS st ty_mixed (by kernel_rfl) fun Kq hKq => ?_
    -- R5.0 19 := kernel.go:185 move
    refine QL.v (fun w st => by first | exact r_move (v := .pointer _) rfl | exact r_move rfl) rfl rfl rfl ?_
    -- R5.1 20 := kernel.go:185 move
    refine QL.v (fun w st => by first | exact r_move (v := .int _ _) rfl | exact r_move rfl) rfl rfl rfl ?_
    -- R5.2 21 := kernel.go:185 nilCheck
    refine QL.v (fun w st => by exact r_nilCheck rfl) rfl rfl rfl ?_
    -- R5.3 22 := kernel.go:185 fieldAddr
    refine QL.v (fun w st => by exact r_field ty_fld120_3 rfl) rfl rfl rfl ?_
    -- R5.4 23 := kernel.go:185 indexAddr
    refine QL.v (fun w st => by exact r_indexA (j := f.2.2) ty_ar118 rfl rfl rfl hf16) rfl rfl rfl ?_
    -- R5.5 24 := kernel.go:185 fieldAddr
    refine QL.v (fun w st => by exact r_field ty_fld117_3 rfl) rfl rfl rfl ?_
    -- R5.6 25 := kernel.go:185 load
    refine QL.v (fun w st => by exact r_load1 (v := .bool false) ty_one4 rfl (by rw [c_tk (List.mem_cons_of_mem _ V3.k) hf16 (j := 3) (by decide) (by omega) st, ← hw]; rfl)) rfl rfl rfl ?_
    -- R5.7 26 := kernel.go:185 unOp
    refine QL.v (fun w st => by first | exact r_notT rfl | exact r_notF rfl | exact r_not rfl) rfl rfl rfl ?_
    -- R5.8 27 := kernel.go:185 move
    refine QL.v (fun w st => by first | exact r_move (v := .bool _) rfl | exact r_move rfl) rfl rfl rfl ?_
    -- R5.9 28 := kernel.go:185 move
    refine QL.no rfl rfl ?_
    -- R5.10 29 := kernel.go:185 move
    refine QL.no rfl rfl ?_
    -- R5.11 30 := kernel.go:185 nilCheck
    refine QL.no rfl rfl ?_
    -- R5.12 31 := kernel.go:185 fieldAddr
    refine QL.no rfl rfl ?_
    -- R5.13 32 := kernel.go:185 indexAddr
    refine QL.no rfl rfl ?_
    -- R5.14 33 := kernel.go:185 fieldAddr
    refine QL.no rfl rfl ?_
    -- R5.15 34 := kernel.go:185 load
    refine QL.no rfl rfl ?_
    -- R5.16 35 := kernel.go:185 fieldAddr
    refine QL.no rfl rfl ?_
    -- R5.17 36 := kernel.go:185 load
    refine QL.no rfl rfl ?_
    -- R5.18 37 := kernel.go:185 binOp
    refine QL.no rfl rfl ?_
    -- R5.19 38 := kernel.go:185 pick
    refine QL.v (fun w st => by first | exact r_pickT (v := .bool _) rfl rfl | exact r_pickF (v := .bool _) rfl rfl) rfl rfl rfl ?_
    refine QL.wl hKq fun w st => ?_
    refine WL.fin hK1146 (fun _ _ h => h) ?_
    refine WC.condT rfl rfl ?_
    refine WC.exitF hK1142 (fun _ _ h => h) ?_
    -- region 9
    refine WC.region ?_
    -- R9.0 50 := kernel.go:183 binOp
    refine WL.v (by first | exact r_add rfl rfl (wi64 (by omega) (by omega)) | exact r_add rfl rfl rfl) rfl rfl rfl ?_
    -- R9.1 12 := kernel.go:183 move
    refine WL.v (by first | exact r_move (v := .int _ _) rfl | exact r_move rfl) rfl rfl rfl ?_
    refine WL.next hK1 (fun _ _ h => h) (i + 1) ⟨hil', by rw [hfs, e]; exact hBi.mono (by omega), by rw [hfs, e]; exact V3.same st.drop⟩ (by omega) (by repeat (first | exact sub_nil _ | refine sub_cons rfl rfl ?_))
  by_cases hti : (s1.tk f.2.2).timer = f.1
  rotate_left
  · have e : tick1 s1 f = s1 := if_neg (fun h => hti h.2)
    refine WC.seq fun K1147 hK1147 => ?_
    -- region 2
    refine WC.region ?_
    -- R2.0 13 := kernel.go:183 binOp
    refine WL.v (by first | exact r_lss rfl rfl (decide_eq_true (by omega)) | exact r_lss rfl rfl (decide_eq_false (by omega)) | exact r_lss rfl rfl rfl) rfl rfl rfl ?_
    refine WL.fin hK1147 (fun _ _ h => h) ?_
    refine WC.seq fun K1148 hK1148 => ?_
    refine WC.condT rfl rfl ?_
    refine WC.skipF hK1148 (fun _ _ h => h) ?_
    refine WC.seq fun K1149 hK1149 => ?_
    refine WC.block ?_
    refine WC.seq fun K1150 hK1150 => ?_
    -- region 3
    refine WC.region ?_
    -- R3.0 14 := kernel.go:183 indexAddr
    refine WL.v (by exact r_indexS (j := i) ty_sl145 rfl rfl rfl (by omega)) rfl rfl rfl ?_
    -- R3.1 15 := kernel.go:183 load
    refine WL.v (by exact r_loadL (vs := [.int .u64 (f.1 : Nat), .int .u64 (f.2.1 : Nat), .int .u64 (f.2.2 : Nat)]) ty_agg164 rfl ⟨by rw [Nat.zero_add]; exact hce 0 (by decide), by rw [Nat.zero_add]; exact hce 1 (by decide), by rw [Nat.zero_add]; exact hce 2 (by decide), trivial⟩) rfl rfl rfl ?_
    -- R3.2 4 := kernel.go:183 alloc
    refine WL.alloc (m := 3) st ty_zero164 rfl rfl rfl ?_
    intro b4 w st
    -- R3.3 None := kernel.go:183 store
    first | refine WL.storeW (vs := [_, _, _]) st ty_agg164 rfl rfl rfl rfl rfl rfl ?_ | refine WL.storeL (vs := [_, _, _]) st ty_agg164 rfl rfl rfl rfl (by first | decide | omega) rfl rfl ?_ | refine WL.storeW (vs := [_, _, _]) st.front1 ty_agg164 rfl rfl rfl rfl rfl rfl ?_ | refine WL.storeL (vs := [_, _, _]) st.front1 ty_agg164 rfl rfl rfl rfl (by first | decide | omega) rfl rfl ?_ | refine WL.storeW (vs := [_, _, _]) st.front2 ty_agg164 rfl rfl rfl rfl rfl rfl ?_ | refine WL.storeL (vs := [_, _, _]) st.front2 ty_agg164 rfl rfl rfl rfl (by first | decide | omega) rfl rfl ?_ | refine WL.storeW (vs := [_, _, _]) st.front3 ty_agg164 rfl rfl rfl rfl rfl rfl ?_ | refine WL.storeL (vs := [_, _, _]) st.front3 ty_agg164 rfl rfl rfl rfl (by first | decide | omega) rfl rfl ?_ | refine WL.storeW (vs := [_, _, _]) st.front4 ty_agg164 rfl rfl rfl rfl rfl rfl ?_ | refine WL.storeL (vs := [_, _, _]) st.front4 ty_agg164 rfl rfl rfl rfl (by first | decide | omega) rfl rfl ?_ | refine WL.storeW (vs := [_, _, _]) st.front5 ty_agg164 rfl rfl rfl rfl rfl rfl ?_ | refine WL.storeL (vs := [_, _, _]) st.front5 ty_agg164 rfl rfl rfl rfl (by first | decide | omega) rfl rfl ?_ | refine WL.storeW (vs := [_, _, _]) st.front6 ty_agg164 rfl rfl rfl rfl rfl rfl ?_ | refine WL.storeL (vs := [_, _, _]) st.front6 ty_agg164 rfl rfl rfl rfl (by first | decide | omega) rfl rfl ?_ | refine WL.storeW (vs := [_, _, _]) st.front7 ty_agg164 rfl rfl rfl rfl rfl rfl ?_ | refine WL.storeL (vs := [_, _, _]) st.front7 ty_agg164 rfl rfl rfl rfl (by first | decide | omega) rfl rfl ?_ | refine WL.storeW (vs := [_, _, _]) st.front8 ty_agg164 rfl rfl rfl rfl rfl rfl ?_ | refine WL.storeL (vs := [_, _, _]) st.front8 ty_agg164 rfl rfl rfl rfl (by first | decide | omega) rfl rfl ?_
    intro w st
    refine WL.fin hK1150 (fun _ _ h => h) ?_
    refine WC.seq fun K1151 hK1151 => ?_
    -- region 4
    refine WC.region ?_
    -- R4.0 16 := kernel.go:184 fieldAddr
    refine WL.v (by exact r_field ty_fld164_2 rfl) rfl rfl rfl ?_
    -- R4.1 17 := kernel.go:184 load
    refine WL.v (by exact r_load1 ty_one26 rfl (by first | assumption | exact st.c0 (by first | decide | omega) | exact st.c1 (by first | decide | omega) | exact st.c2 (by first | decide | omega) | exact st.c3 (by first | decide | omega) | exact st.c4 (by first | decide | omega) | exact st.c5 (by first | decide | omega) | exact st.c6 (by first | decide | omega) | exact st.c7 (by first | decide | omega) | exact st.c8 (by first | decide | omega))) rfl rfl rfl ?_
    -- R4.2 18 := kernel.go:184 convert
    refine WL.v (by exact r_conv (r := ((f.2.2 : Nat) : Int)) ty_cv26_31 rfl (wi64 (by omega) (by omega))) rfl rfl rfl ?_
    -- R4.3 5 := kernel.go:184 assign
    refine WL.v (by first | exact r_assign (v := .int _ _) rfl | exact r_assign rfl) rfl rfl rfl ?_
    refine WL.fin hK1151 (fun _ _ h => h) ?_
    refine WC.seq fun K1152 hK1152 => ?_
    refine WC.seq fun K1153 hK1153 => ?_
    -- region 5 (draws)
    refine WC.quietS st ty_mixed (by kernel_rfl) fun Kq hKq => ?_
    -- R5.0 19 := kernel.go:185 move
    refine QL.v (fun w st => by first | exact r_move (v := .pointer _) rfl | exact r_move rfl) rfl rfl rfl ?_
    -- R5.1 20 := kernel.go:185 move
    refine QL.v (fun w st => by first | exact r_move (v := .int _ _) rfl | exact r_move rfl) rfl rfl rfl ?_
    -- R5.2 21 := kernel.go:185 nilCheck
    refine QL.v (fun w st => by exact r_nilCheck rfl) rfl rfl rfl ?_
    -- R5.3 22 := kernel.go:185 fieldAddr
    refine QL.v (fun w st => by exact r_field ty_fld120_3 rfl) rfl rfl rfl ?_
    -- R5.4 23 := kernel.go:185 indexAddr
    refine QL.v (fun w st => by exact r_indexA (j := f.2.2) ty_ar118 rfl rfl rfl hf16) rfl rfl rfl ?_
    -- R5.5 24 := kernel.go:185 fieldAddr
    refine QL.v (fun w st => by exact r_field ty_fld117_3 rfl) rfl rfl rfl ?_
    -- R5.6 25 := kernel.go:185 load
    refine QL.v (fun w st => by exact r_load1 (v := .bool true) ty_one4 rfl (by rw [c_tk (List.mem_cons_of_mem _ V3.k) hf16 (j := 3) (by decide) (by omega) st, ← hw]; rfl)) rfl rfl rfl ?_
    -- R5.7 26 := kernel.go:185 unOp
    refine QL.v (fun w st => by first | exact r_notT rfl | exact r_notF rfl | exact r_not rfl) rfl rfl rfl ?_
    -- R5.8 27 := kernel.go:185 move
    refine QL.v (fun w st => by first | exact r_move (v := .bool _) rfl | exact r_move rfl) rfl rfl rfl ?_
    -- R5.9 28 := kernel.go:185 move
    refine QL.v (fun w st => by first | exact r_move (v := .pointer _) rfl | exact r_move rfl) rfl rfl rfl ?_
    -- R5.10 29 := kernel.go:185 move
    refine QL.v (fun w st => by first | exact r_move (v := .int _ _) rfl | exact r_move rfl) rfl rfl rfl ?_
    -- R5.11 30 := kernel.go:185 nilCheck
    refine QL.v (fun w st => by exact r_nilCheck rfl) rfl rfl rfl ?_
    -- R5.12 31 := kernel.go:185 fieldAddr
    refine QL.v (fun w st => by exact r_field ty_fld120_3 rfl) rfl rfl rfl ?_
    -- R5.13 32 := kernel.go:185 indexAddr
    refine QL.v (fun w st => by exact r_indexA (j := f.2.2) ty_ar118 rfl rfl rfl hf16) rfl rfl rfl ?_
    -- R5.14 33 := kernel.go:185 fieldAddr
    refine QL.v (fun w st => by exact r_field ty_fld117_4 rfl) rfl rfl rfl ?_
    -- R5.15 34 := kernel.go:185 load
    refine QL.v (fun w st => by exact r_load1 (v := .int .u64 ((s1.tk f.2.2).timer : Nat)) ty_one26 rfl (by rw [c_tk (List.mem_cons_of_mem _ V3.k) hf16 (j := 4) (by decide) (by omega) st]; rfl)) rfl rfl rfl ?_
    -- R5.16 35 := kernel.go:185 fieldAddr
    refine QL.v (fun w st => by exact r_field ty_fld164_0 rfl) rfl rfl rfl ?_
    -- R5.17 36 := kernel.go:185 load
    refine QL.v (fun w st => by exact r_load1 ty_one26 rfl (by first | assumption | exact st.c0 (by first | decide | omega) | exact st.c1 (by first | decide | omega) | exact st.c2 (by first | decide | omega) | exact st.c3 (by first | decide | omega) | exact st.c4 (by first | decide | omega) | exact st.c5 (by first | decide | omega) | exact st.c6 (by first | decide | omega) | exact st.c7 (by first | decide | omega) | exact st.c8 (by first | decide | omega))) rfl rfl rfl ?_
    -- R5.18 37 := kernel.go:185 binOp
    refine QL.v (fun w st => by first | exact r_neq rfl rfl (decide_eq_true (by omega)) | exact r_neq rfl rfl (decide_eq_false (by omega)) | exact r_neq rfl rfl rfl) rfl rfl rfl ?_
    -- R5.19 38 := kernel.go:185 pick
    refine QL.v (fun w st => by first | exact r_pickT (v := .bool _) rfl rfl | exact r_pickF (v := .bool _) rfl rfl) rfl rfl rfl ?_
    refine QL.wl hKq fun w st => ?_
    refine WL.fin hK1153 (fun _ _ h => h) ?_
    refine WC.condT rfl rfl ?_
    refine WC.exitF hK1149 (fun _ _ h => h) ?_
    -- region 9
    refine WC.region ?_
    -- R9.0 50 := kernel.go:183 binOp
    refine WL.v (by first | exact r_add rfl rfl (wi64 (by omega) (by omega)) | exact r_add rfl rfl rfl) rfl rfl rfl ?_
    -- R9.1 12 := kernel.go:183 move
    refine WL.v (by first | exact r_move (v := .int _ _) rfl | exact r_move rfl) rfl rfl rfl ?_
    refine WL.next hK1 (fun _ _ h => h) (i + 1) ⟨hil', by rw [hfs, e]; exact hBi.mono (by omega), by rw [hfs, e]; exact V3.same st.drop⟩ (by omega) (by repeat (first | exact sub_nil _ | refine sub_cons rfl rfl ?_))
  have e : tick1 s1 f = wakeP (answerP { s1 with queue := withdrawP s1.queue f.2.2 } f.2.2 4) := if_pos ⟨hw, hti⟩
  refine WC.seq fun K1154 hK1154 => ?_
  -- region 2
  refine WC.region ?_
  -- R2.0 13 := kernel.go:183 binOp
  refine WL.v (by first | exact r_lss rfl rfl (decide_eq_true (by omega)) | exact r_lss rfl rfl (decide_eq_false (by omega)) | exact r_lss rfl rfl rfl) rfl rfl rfl ?_
  refine WL.fin hK1154 (fun _ _ h => h) ?_
  refine WC.seq fun K1155 hK1155 => ?_
  refine WC.condT rfl rfl ?_
  refine WC.skipF hK1155 (fun _ _ h => h) ?_
  refine WC.seq fun K1156 hK1156 => ?_
  refine WC.block ?_
  refine WC.seq fun K1157 hK1157 => ?_
  -- region 3
  refine WC.region ?_
  -- R3.0 14 := kernel.go:183 indexAddr
  refine WL.v (by exact r_indexS (j := i) ty_sl145 rfl rfl rfl (by omega)) rfl rfl rfl ?_
  -- R3.1 15 := kernel.go:183 load
  refine WL.v (by exact r_loadL (vs := [.int .u64 (f.1 : Nat), .int .u64 (f.2.1 : Nat), .int .u64 (f.2.2 : Nat)]) ty_agg164 rfl ⟨by rw [Nat.zero_add]; exact hce 0 (by decide), by rw [Nat.zero_add]; exact hce 1 (by decide), by rw [Nat.zero_add]; exact hce 2 (by decide), trivial⟩) rfl rfl rfl ?_
  -- R3.2 4 := kernel.go:183 alloc
  refine WL.alloc (m := 3) st ty_zero164 rfl rfl rfl ?_
  intro b4 w st
  -- R3.3 None := kernel.go:183 store
  first | refine WL.storeW (vs := [_, _, _]) st ty_agg164 rfl rfl rfl rfl rfl rfl ?_ | refine WL.storeL (vs := [_, _, _]) st ty_agg164 rfl rfl rfl rfl (by first | decide | omega) rfl rfl ?_ | refine WL.storeW (vs := [_, _, _]) st.front1 ty_agg164 rfl rfl rfl rfl rfl rfl ?_ | refine WL.storeL (vs := [_, _, _]) st.front1 ty_agg164 rfl rfl rfl rfl (by first | decide | omega) rfl rfl ?_ | refine WL.storeW (vs := [_, _, _]) st.front2 ty_agg164 rfl rfl rfl rfl rfl rfl ?_ | refine WL.storeL (vs := [_, _, _]) st.front2 ty_agg164 rfl rfl rfl rfl (by first | decide | omega) rfl rfl ?_ | refine WL.storeW (vs := [_, _, _]) st.front3 ty_agg164 rfl rfl rfl rfl rfl rfl ?_ | refine WL.storeL (vs := [_, _, _]) st.front3 ty_agg164 rfl rfl rfl rfl (by first | decide | omega) rfl rfl ?_ | refine WL.storeW (vs := [_, _, _]) st.front4 ty_agg164 rfl rfl rfl rfl rfl rfl ?_ | refine WL.storeL (vs := [_, _, _]) st.front4 ty_agg164 rfl rfl rfl rfl (by first | decide | omega) rfl rfl ?_ | refine WL.storeW (vs := [_, _, _]) st.front5 ty_agg164 rfl rfl rfl rfl rfl rfl ?_ | refine WL.storeL (vs := [_, _, _]) st.front5 ty_agg164 rfl rfl rfl rfl (by first | decide | omega) rfl rfl ?_ | refine WL.storeW (vs := [_, _, _]) st.front6 ty_agg164 rfl rfl rfl rfl rfl rfl ?_ | refine WL.storeL (vs := [_, _, _]) st.front6 ty_agg164 rfl rfl rfl rfl (by first | decide | omega) rfl rfl ?_ | refine WL.storeW (vs := [_, _, _]) st.front7 ty_agg164 rfl rfl rfl rfl rfl rfl ?_ | refine WL.storeL (vs := [_, _, _]) st.front7 ty_agg164 rfl rfl rfl rfl (by first | decide | omega) rfl rfl ?_ | refine WL.storeW (vs := [_, _, _]) st.front8 ty_agg164 rfl rfl rfl rfl rfl rfl ?_ | refine WL.storeL (vs := [_, _, _]) st.front8 ty_agg164 rfl rfl rfl rfl (by first | decide | omega) rfl rfl ?_
  intro w st
  refine WL.fin hK1157 (fun _ _ h => h) ?_
  refine WC.seq fun K1158 hK1158 => ?_
  -- region 4
  refine WC.region ?_
  -- R4.0 16 := kernel.go:184 fieldAddr
  refine WL.v (by exact r_field ty_fld164_2 rfl) rfl rfl rfl ?_
  -- R4.1 17 := kernel.go:184 load
  refine WL.v (by exact r_load1 ty_one26 rfl (by first | assumption | exact st.c0 (by first | decide | omega) | exact st.c1 (by first | decide | omega) | exact st.c2 (by first | decide | omega) | exact st.c3 (by first | decide | omega) | exact st.c4 (by first | decide | omega) | exact st.c5 (by first | decide | omega) | exact st.c6 (by first | decide | omega) | exact st.c7 (by first | decide | omega) | exact st.c8 (by first | decide | omega))) rfl rfl rfl ?_
  -- R4.2 18 := kernel.go:184 convert
  refine WL.v (by exact r_conv (r := ((f.2.2 : Nat) : Int)) ty_cv26_31 rfl (wi64 (by omega) (by omega))) rfl rfl rfl ?_
  -- R4.3 5 := kernel.go:184 assign
  refine WL.v (by first | exact r_assign (v := .int _ _) rfl | exact r_assign rfl) rfl rfl rfl ?_
  refine WL.fin hK1158 (fun _ _ h => h) ?_
  refine WC.seq fun K1159 hK1159 => ?_
  refine WC.seq fun K1160 hK1160 => ?_
  -- region 5 (draws)
  refine WC.quietS st ty_mixed (by kernel_rfl) fun Kq hKq => ?_
  -- R5.0 19 := kernel.go:185 move
  refine QL.v (fun w st => by first | exact r_move (v := .pointer _) rfl | exact r_move rfl) rfl rfl rfl ?_
  -- R5.1 20 := kernel.go:185 move
  refine QL.v (fun w st => by first | exact r_move (v := .int _ _) rfl | exact r_move rfl) rfl rfl rfl ?_
  -- R5.2 21 := kernel.go:185 nilCheck
  refine QL.v (fun w st => by exact r_nilCheck rfl) rfl rfl rfl ?_
  -- R5.3 22 := kernel.go:185 fieldAddr
  refine QL.v (fun w st => by exact r_field ty_fld120_3 rfl) rfl rfl rfl ?_
  -- R5.4 23 := kernel.go:185 indexAddr
  refine QL.v (fun w st => by exact r_indexA (j := f.2.2) ty_ar118 rfl rfl rfl hf16) rfl rfl rfl ?_
  -- R5.5 24 := kernel.go:185 fieldAddr
  refine QL.v (fun w st => by exact r_field ty_fld117_3 rfl) rfl rfl rfl ?_
  -- R5.6 25 := kernel.go:185 load
  refine QL.v (fun w st => by exact r_load1 (v := .bool true) ty_one4 rfl (by rw [c_tk (List.mem_cons_of_mem _ V3.k) hf16 (j := 3) (by decide) (by omega) st, ← hw]; rfl)) rfl rfl rfl ?_
  -- R5.7 26 := kernel.go:185 unOp
  refine QL.v (fun w st => by first | exact r_notT rfl | exact r_notF rfl | exact r_not rfl) rfl rfl rfl ?_
  -- R5.8 27 := kernel.go:185 move
  refine QL.v (fun w st => by first | exact r_move (v := .bool _) rfl | exact r_move rfl) rfl rfl rfl ?_
  -- R5.9 28 := kernel.go:185 move
  refine QL.v (fun w st => by first | exact r_move (v := .pointer _) rfl | exact r_move rfl) rfl rfl rfl ?_
  -- R5.10 29 := kernel.go:185 move
  refine QL.v (fun w st => by first | exact r_move (v := .int _ _) rfl | exact r_move rfl) rfl rfl rfl ?_
  -- R5.11 30 := kernel.go:185 nilCheck
  refine QL.v (fun w st => by exact r_nilCheck rfl) rfl rfl rfl ?_
  -- R5.12 31 := kernel.go:185 fieldAddr
  refine QL.v (fun w st => by exact r_field ty_fld120_3 rfl) rfl rfl rfl ?_
  -- R5.13 32 := kernel.go:185 indexAddr
  refine QL.v (fun w st => by exact r_indexA (j := f.2.2) ty_ar118 rfl rfl rfl hf16) rfl rfl rfl ?_
  -- R5.14 33 := kernel.go:185 fieldAddr
  refine QL.v (fun w st => by exact r_field ty_fld117_4 rfl) rfl rfl rfl ?_
  -- R5.15 34 := kernel.go:185 load
  refine QL.v (fun w st => by exact r_load1 (v := .int .u64 ((s1.tk f.2.2).timer : Nat)) ty_one26 rfl (by rw [c_tk (List.mem_cons_of_mem _ V3.k) hf16 (j := 4) (by decide) (by omega) st]; rfl)) rfl rfl rfl ?_
  -- R5.16 35 := kernel.go:185 fieldAddr
  refine QL.v (fun w st => by exact r_field ty_fld164_0 rfl) rfl rfl rfl ?_
  -- R5.17 36 := kernel.go:185 load
  refine QL.v (fun w st => by exact r_load1 ty_one26 rfl (by first | assumption | exact st.c0 (by first | decide | omega) | exact st.c1 (by first | decide | omega) | exact st.c2 (by first | decide | omega) | exact st.c3 (by first | decide | omega) | exact st.c4 (by first | decide | omega) | exact st.c5 (by first | decide | omega) | exact st.c6 (by first | decide | omega) | exact st.c7 (by first | decide | omega) | exact st.c8 (by first | decide | omega))) rfl rfl rfl ?_
  -- R5.18 37 := kernel.go:185 binOp
  refine QL.v (fun w st => by first | exact r_neq rfl rfl (decide_eq_true (by omega)) | exact r_neq rfl rfl (decide_eq_false (by omega)) | exact r_neq rfl rfl rfl) rfl rfl rfl ?_
  -- R5.19 38 := kernel.go:185 pick
  refine QL.v (fun w st => by first | exact r_pickT (v := .bool _) rfl rfl | exact r_pickF (v := .bool _) rfl rfl) rfl rfl rfl ?_
  refine QL.wl hKq fun w st => ?_
  refine WL.fin hK1160 (fun _ _ h => h) ?_
  refine WC.condF rfl rfl ?_
  refine WC.skipF hK1159 (fun _ _ h => h) ?_
  refine WC.seq fun K1161 hK1161 => ?_
  -- region 6
  have st := st.drop
  refine WC.region ?_
  -- R6.0 39 := kernel.go:188 move
  refine WL.v (by first | exact r_move (v := .pointer _) rfl | exact r_move rfl) rfl rfl rfl ?_
  -- R6.1 40 := kernel.go:188 nilCheck
  refine WL.v (by exact r_nilCheck rfl) rfl rfl rfl ?_
  -- R6.2 41 := kernel.go:188 fieldAddr
  refine WL.v (by exact r_field ty_fld120_1 rfl) rfl rfl rfl ?_
  -- R6.3 42 := kernel.go:188 load
  refine WL.v (by exact r_load1 (v := .pointer (some ⟨B.br, 0, none⟩)) ty_one107 rfl (V3.cr st)) rfl rfl rfl ?_
  -- R6.4 43 := kernel.go:188 move
  refine WL.v (by first | exact r_move (v := .int _ _) rfl | exact r_move rfl) rfl rfl rfl ?_
  -- R6.5 44 := kernel.go:188 call
  obtain ⟨Y4, th, back4⟩ := (V3.same st).tab
  refine WL.call (r_call ty_call114 rfl) rfl rfl rfl (withdraw_ok (t := f.2.2) th) ?_
  rintro _ w ⟨rfl, th⟩
  have st := back4 th
  refine WL.fin hK1161 (fun _ _ h => h) ?_
  refine WC.seq fun K1162 hK1162 => ?_
  -- region 7
  refine WC.region ?_
  -- R7.0 45 := kernel.go:189 move
  refine WL.v (by first | exact r_move (v := .pointer _) rfl | exact r_move rfl) rfl rfl rfl ?_
  -- R7.1 46 := kernel.go:189 move
  refine WL.v (by first | exact r_move (v := .int _ _) rfl | exact r_move rfl) rfl rfl rfl ?_
  -- R7.2 47 := kernel.go:189 call
  refine WL.call (r_call ty_call115 rfl) rfl rfl rfl (answer_ok (s := { s1 with queue := withdrawP s1.queue f.2.2 }) (code := 4) hf16 (by show s1.told.length ≤ _; omega) st) ?_
  rintro _ w ⟨rfl, st⟩
  refine WL.fin hK1162 (fun _ _ h => h) ?_
  -- region 8
  refine WC.region ?_
  -- R8.0 48 := kernel.go:190 move
  refine WL.v (by first | exact r_move (v := .pointer _) rfl | exact r_move rfl) rfl rfl rfl ?_
  -- R8.1 49 := kernel.go:190 call
  refine WL.call (r_call ty_call107 rfl) rfl rfl rfl (wake_ok (hBi.withdraw.answer) (by omega) st) ?_
  rintro _ w ⟨rfl, st⟩
  refine WL.fin hK1156 (fun _ _ h => h) ?_
  -- region 9
  refine WC.region ?_
  -- R9.0 50 := kernel.go:183 binOp
  refine WL.v (by first | exact r_add rfl rfl (wi64 (by omega) (by omega)) | exact r_add rfl rfl rfl) rfl rfl rfl ?_
  -- R9.1 12 := kernel.go:183 move
  refine WL.v (by first | exact r_move (v := .int _ _) rfl | exact r_move rfl) rfl rfl rfl ?_
  refine WL.next hK1 (fun _ _ h => h) (i + 1) ⟨hil', by rw [hfs]; exact hBi.tick1, by rw [hfs, e]; exact st⟩ (by omega) (by repeat (first | exact sub_nil _ | refine sub_cons rfl rfl ?_))
end Go.Proofs.Qxb6500834aGreatDoor

