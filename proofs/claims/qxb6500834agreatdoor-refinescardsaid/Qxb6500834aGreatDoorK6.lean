import Derived.Test.Qxb6500834aGreatDoorK5
set_option linter.unusedVariables false
set_option linter.unusedSimpArgs false
set_option maxRecDepth 20000
namespace Go.Proofs.Qxb6500834aGreatDoor
open Go.RowKit Go.E1 Go.Kern
variable {w0 : World} {L L' l I J K K' X : List HI} {w : World} {M : KM} {s : KS} {v : Value}
/-! slices.IndexFunc and slices.DeleteFunc over requests. -/
theorem ixFR_ok {L : List (Nat × Nat)} {p : Nat × Nat → Bool} {F : Nat} {cap : Array Value} (hcall : callT Tryz.prog F = true) (hq : LO 61 2 qE v L X) (hX : X ⊆ l)
    (hF : ∀ (q : Nat × Nat) (w : World), q ∈ L → S0 w0 l w → Calls Tryz.prog F (([.agg #[.int .i64 (q.1 : Nat), .int .i64 (q.2 : Nat)]] : List Value) ++ cap.toList).toArray w (Ret fun u w' => u = .bool (p q) ∧ S0 w0 l w')) (st : S0 w0 l w) :
    Calls Tryz.prog 165 #[v, .func (.func F) #[] cap] w (Ret fun u w' => (((∀ q, q ∈ L → p q = false) ∧ u = .int .i64 (-1)) ∨ ∃ i q, L[i]? = some q ∧ p q = true ∧ (∀ k x, k < i → L[k]? = some x → p x = false) ∧ u = .int .i64 (i : Nat)) ∧ S0 w0 l w') := by
  obtain ⟨a, c, b, rfl, hc1, hc2, ha, hcell⟩ := hq.form
  refine enter [.slice a L.length c, .func (.func F) #[] cap] Tryz.func165 rfl Tryz.ntmps165 rfl ?_
  show WC _ _ _ 19 [] [(0, .slice a L.length c), (1, .func (.func F) #[] cap)] _
  refine WC.seq fun K112 hK112 => ?_
  -- region 0
  refine WC.region ?_
  -- R0.0 4 := slices.go:107 assign
  refine WL.v (by first | exact r_assign (v := .int _ _) rfl | exact r_assign rfl) rfl rfl rfl ?_
  refine WL.fin hK112 (fun _ _ h => h) ?_
  refine WC.seq fun K113 hK113 => ?_
  refine WC.seq fun K114 hK114 => ?_
  -- region 1
  refine WC.region ?_
  -- R1.0 6 := slices.go:108 move
  refine WL.v (by first | exact r_move (v := .slice _ _ _) rfl | exact r_move rfl) rfl rfl rfl ?_
  -- R1.1 7 := slices.go:108 call
  refine WL.v (by exact r_len ty_usl46 rfl) rfl rfl rfl ?_
  -- R1.2 8 := slices.go:108 move
  refine WL.v (by first | exact r_move (v := .int _ _) rfl | exact r_move rfl) rfl rfl rfl ?_
  refine WL.fin hK114 (fun _ _ h => h) ?_
  refine WC.block ?_
  refine WC.loop (ι := Nat) (fun i => [(0, .slice a L.length c), (1, .func (.func F) #[] cap), (7, .int .i64 (L.length : Nat)), (8, .int .i64 (i : Nat))])
    (fun i w' => i ≤ L.length ∧ (∀ k x, k < i → L[k]? = some x → p x = false) ∧ S0 w0 l w') (fun i => L.length - i) 0 ⟨Nat.zero_le _, fun k x hk => absurd hk (Nat.not_lt_zero _), st⟩ ?_ ?_
  · skip
    repeat (first | exact sub_nil _ | refine sub_cons rfl rfl ?_)
  rintro i w ⟨hi, hno, st⟩ K1 hK1
  by_cases hl : i = L.length
  · subst hl
    refine WC.seq fun K115 hK115 => ?_
    -- region 2
    refine WC.region ?_
    -- R2.0 9 := slices.go:108 binOp
    refine WL.v (by first | exact r_lss rfl rfl (decide_eq_true (by omega)) | exact r_lss rfl rfl (decide_eq_false (by omega)) | exact r_lss rfl rfl rfl) rfl rfl rfl ?_
    refine WL.fin hK115 (fun _ _ h => h) ?_
    refine WC.seq fun K116 hK116 => ?_
    refine WC.condF rfl rfl ?_
    refine WC.exitF hK113 (fun _ _ h => h) ?_
    refine WC.seq fun K117 hK117 => ?_
    -- region 7
    refine WC.region ?_
    -- R7.0 4 := slices.go:113 assign
    refine WL.v (by first | exact r_assign (v := .int _ _) rfl | exact r_assign rfl) rfl rfl rfl ?_
    refine WL.fin hK117 (fun _ _ h => h) ?_
    refine WC.ret1 Tryz.results165 (fun _ _ h => h) rfl ?_
    refine ⟨_, rfl, .inl ⟨fun q hm => ?_, rfl⟩, st⟩
    obtain ⟨k, hk⟩ := List.mem_iff_getElem?.1 hm
    exact hno k q (List.getElem?_eq_some_iff.1 hk).1 hk
  have hil : i < L.length := by omega
  obtain ⟨q, hqi⟩ : ∃ q, L[i]? = some q := ⟨L[i], List.getElem?_eq_getElem hil⟩
  have hqm : q ∈ L := List.mem_of_getElem? hqi
  obtain rfl := ha (by omega)
  have hce := fun j hj => hcell st hX i q hqi j hj
  rcases Bool.eq_false_or_eq_true (p q) with hp | hp
  · skip
    refine WC.seq fun K118 hK118 => ?_
    -- region 2
    refine WC.region ?_
    -- R2.0 9 := slices.go:108 binOp
    refine WL.v (by first | exact r_lss rfl rfl (decide_eq_true (by omega)) | exact r_lss rfl rfl (decide_eq_false (by omega)) | exact r_lss rfl rfl rfl) rfl rfl rfl ?_
    refine WL.fin hK118 (fun _ _ h => h) ?_
    refine WC.seq fun K119 hK119 => ?_
    refine WC.condT rfl rfl ?_
    refine WC.skipF hK119 (fun _ _ h => h) ?_
    refine WC.seq fun K120 hK120 => ?_
    refine WC.block ?_
    refine WC.seq fun K121 hK121 => ?_
    -- region 3
    refine WC.region ?_
    -- R3.0 10 := slices.go:108 move
    refine WL.v (by first | exact r_move (v := .int _ _) rfl | exact r_move rfl) rfl rfl rfl ?_
    -- R3.1 5 := slices.go:108 assign
    refine WL.v (by first | exact r_assign (v := .int _ _) rfl | exact r_assign rfl) rfl rfl rfl ?_
    refine WL.fin hK121 (fun _ _ h => h) ?_
    refine WC.seq fun K122 hK122 => ?_
    -- region 4
    refine WC.region ?_
    -- R4.0 11 := slices.go:109 move
    refine WL.v (by first | exact r_move (v := .func _ _ _) rfl | exact r_move (v := .nilFunc) rfl | exact r_move rfl) rfl rfl rfl ?_
    -- R4.1 12 := slices.go:109 move
    refine WL.v (by first | exact r_move (v := .slice _ _ _) rfl | exact r_move rfl) rfl rfl rfl ?_
    -- R4.2 13 := slices.go:109 move
    refine WL.v (by first | exact r_move (v := .int _ _) rfl | exact r_move rfl) rfl rfl rfl ?_
    -- R4.3 14 := slices.go:109 indexAddr
    refine WL.v (by exact r_indexS (j := i) ty_sl46 rfl rfl rfl (by omega)) rfl rfl rfl ?_
    -- R4.4 15 := slices.go:109 load
    refine WL.v (by exact r_loadL (vs := [.int .i64 (q.1 : Nat), .int .i64 (q.2 : Nat)]) ty_agg61 rfl ⟨by rw [Nat.zero_add]; exact hce 0 (by decide), by rw [Nat.zero_add]; exact hce 1 (by decide), trivial⟩) rfl rfl rfl ?_
    -- R4.5 16 := slices.go:109 call
    refine WL.call (r_callv hcall rfl rfl) rfl rfl rfl (hF q w hqm st) ?_
    rintro _ w ⟨he, st⟩
    rw [hp] at he
    subst he
    refine WL.fin hK122 (fun _ _ h => h) ?_
    refine WC.condT rfl rfl ?_
    refine WC.seq fun K123 hK123 => ?_
    -- region 5
    refine WC.region ?_
    -- R5.0 17 := slices.go:110 move
    refine WL.v (by first | exact r_move (v := .int _ _) rfl | exact r_move rfl) rfl rfl rfl ?_
    -- R5.1 4 := slices.go:110 assign
    refine WL.v (by first | exact r_assign (v := .int _ _) rfl | exact r_assign rfl) rfl rfl rfl ?_
    refine WL.fin hK123 (fun _ _ h => h) ?_
    refine WC.ret1 Tryz.results165 (fun _ _ h => h) rfl ?_
    exact ⟨_, rfl, .inr ⟨i, q, hqi, hp, hno, rfl⟩, st⟩
  · skip
    refine WC.seq fun K124 hK124 => ?_
    -- region 2
    refine WC.region ?_
    -- R2.0 9 := slices.go:108 binOp
    refine WL.v (by first | exact r_lss rfl rfl (decide_eq_true (by omega)) | exact r_lss rfl rfl (decide_eq_false (by omega)) | exact r_lss rfl rfl rfl) rfl rfl rfl ?_
    refine WL.fin hK124 (fun _ _ h => h) ?_
    refine WC.seq fun K125 hK125 => ?_
    refine WC.condT rfl rfl ?_
    refine WC.skipF hK125 (fun _ _ h => h) ?_
    refine WC.seq fun K126 hK126 => ?_
    refine WC.block ?_
    refine WC.seq fun K127 hK127 => ?_
    -- region 3
    refine WC.region ?_
    -- R3.0 10 := slices.go:108 move
    refine WL.v (by first | exact r_move (v := .int _ _) rfl | exact r_move rfl) rfl rfl rfl ?_
    -- R3.1 5 := slices.go:108 assign
    refine WL.v (by first | exact r_assign (v := .int _ _) rfl | exact r_assign rfl) rfl rfl rfl ?_
    refine WL.fin hK127 (fun _ _ h => h) ?_
    refine WC.seq fun K128 hK128 => ?_
    -- region 4
    refine WC.region ?_
    -- R4.0 11 := slices.go:109 move
    refine WL.v (by first | exact r_move (v := .func _ _ _) rfl | exact r_move (v := .nilFunc) rfl | exact r_move rfl) rfl rfl rfl ?_
    -- R4.1 12 := slices.go:109 move
    refine WL.v (by first | exact r_move (v := .slice _ _ _) rfl | exact r_move rfl) rfl rfl rfl ?_
    -- R4.2 13 := slices.go:109 move
    refine WL.v (by first | exact r_move (v := .int _ _) rfl | exact r_move rfl) rfl rfl rfl ?_
    -- R4.3 14 := slices.go:109 indexAddr
    refine WL.v (by exact r_indexS (j := i) ty_sl46 rfl rfl rfl (by omega)) rfl rfl rfl ?_
    -- R4.4 15 := slices.go:109 load
    refine WL.v (by exact r_loadL (vs := [.int .i64 (q.1 : Nat), .int .i64 (q.2 : Nat)]) ty_agg61 rfl ⟨by rw [Nat.zero_add]; exact hce 0 (by decide), by rw [Nat.zero_add]; exact hce 1 (by decide), trivial⟩) rfl rfl rfl ?_
    -- R4.5 16 := slices.go:109 call
    refine WL.call (r_callv hcall rfl rfl) rfl rfl rfl (hF q w hqm st) ?_
    rintro _ w ⟨he, st⟩
    rw [hp] at he
    subst he
    refine WL.fin hK128 (fun _ _ h => h) ?_
    refine WC.condF rfl rfl ?_
    refine WC.skipF hK126 (fun _ _ h => h) ?_
    -- region 6
    refine WC.region ?_
    -- R6.0 18 := slices.go:108 binOp
    refine WL.v (by first | exact r_add rfl rfl (wi64 (by omega) (by omega)) | exact r_add rfl rfl rfl) rfl rfl rfl ?_
    -- R6.1 8 := slices.go:108 move
    refine WL.v (by first | exact r_move (v := .int _ _) rfl | exact r_move rfl) rfl rfl rfl ?_
    refine WL.next hK1 (fun _ _ h => h) (i + 1) ⟨by omega, fun k x hk hx => by rcases Nat.lt_succ_iff_lt_or_eq.1 hk with h | rfl; exact hno k x h hx; rw [hqi] at hx; cases hx; exact hp, st⟩ (by omega) (by repeat (first | exact sub_nil _ | refine sub_cons rfl rfl ?_))

theorem fltR {L : List (Nat × Nat)} {p : Nat × Nat → Bool} {j : Nat} {q : Nat × Nat} (h : L[j]? = some q) : (L.take (j + 1)).filter (fun x => !p x) = (L.take j).filter (fun x => !p x) ++ (if p q then [] else [q]) := by
  rw [List.take_add_one, h, List.filter_append]
  cases hp : p q <;> simp [hp]

set_option maxHeartbeats 4000000 in
theorem delFR_ok {L : List (Nat × Nat)} {p : Nat × Nat → Bool} {F : Nat} {cap : Array Value} {X : List HI} (hcall : callT Tryz.prog F = true) (hq : LO 61 2 qE v L X)
    (hF : ∀ (I : List HI) (q : Nat × Nat) (w : World), q ∈ L → S0 w0 (I ++ l) w → Calls Tryz.prog F (([.agg #[.int .i64 (q.1 : Nat), .int .i64 (q.2 : Nat)]] : List Value) ++ cap.toList).toArray w (Ret fun u w' => u = .bool (p q) ∧ S0 w0 (I ++ l) w')) (st : S0 w0 (X ++ l) w) :
    Calls Tryz.prog 145 #[v, .func (.func F) #[] cap] w (Ret fun u w' => ∃ X', LO 61 2 qE u (L.filter fun x => !p x) X' ∧ S0 w0 (X' ++ l) w') := by
  by_cases hL : L = []
  · subst hL
    have hq' := hq
    obtain ⟨a, c, b, rfl, hc1, hc2, ha, hcell⟩ := hq.form
    refine enter [.slice a 0 c, .func (.func F) #[] cap] Tryz.func145 rfl Tryz.ntmps145 rfl ?_
    show WC _ _ _ 42 [] [(0, .slice a 0 c), (1, .func (.func F) #[] cap)] _
    refine WC.seq fun K129 hK129 => ?_
    -- region 0
    refine WC.region ?_
    -- R0.0 4 := slices.go:241 assign
    refine WL.v (by first | exact r_assign (v := .slice _ _ _) rfl | exact r_assign rfl) rfl rfl rfl ?_
    refine WL.fin hK129 (fun _ _ h => h) ?_
    refine WC.seq fun K130 hK130 => ?_
    -- region 1
    refine WC.region ?_
    -- R1.0 8 := slices.go:242 move
    refine WL.v (by first | exact r_move (v := .slice _ _ _) rfl | exact r_move rfl) rfl rfl rfl ?_
    -- R1.1 9 := slices.go:242 move
    refine WL.v (by first | exact r_move (v := .func _ _ _) rfl | exact r_move (v := .nilFunc) rfl | exact r_move rfl) rfl rfl rfl ?_
    -- R1.2 10 := slices.go:242 call
    refine WL.call (r_call ty_call165 rfl) rfl rfl rfl (ixFR_ok hcall hq' (fun x hx => List.mem_append_left _ hx) (fun q w hm st => hF X q w hm st) st) ?_
    rintro _ w ⟨⟨hn, rfl⟩ | ⟨i, q, h, _⟩, st⟩
    rotate_left
    · simp at h
    -- R1.3 5 := slices.go:242 assign
    refine WL.v (by first | exact r_assign (v := .int _ _) rfl | exact r_assign rfl) rfl rfl rfl ?_
    refine WL.fin hK130 (fun _ _ h => h) ?_
    refine WC.seq fun K131 hK131 => ?_
    refine WC.seq fun K132 hK132 => ?_
    -- region 2
    refine WC.region ?_
    -- R2.0 11 := slices.go:243 move
    refine WL.v (by first | exact r_move (v := .int _ _) rfl | exact r_move rfl) rfl rfl rfl ?_
    -- R2.1 12 := slices.go:243 binOp
    refine WL.v (by first | exact r_eql rfl rfl (decide_eq_true (by omega)) | exact r_eql rfl rfl (decide_eq_false (by omega)) | exact r_eql rfl rfl rfl) rfl rfl rfl ?_
    refine WL.fin hK132 (fun _ _ h => h) ?_
    refine WC.condT rfl rfl ?_
    refine WC.seq fun K133 hK133 => ?_
    -- region 3
    refine WC.region ?_
    -- R3.0 13 := slices.go:244 move
    refine WL.v (by first | exact r_move (v := .slice _ _ _) rfl | exact r_move rfl) rfl rfl rfl ?_
    -- R3.1 4 := slices.go:244 assign
    refine WL.v (by first | exact r_assign (v := .slice _ _ _) rfl | exact r_assign rfl) rfl rfl rfl ?_
    refine WL.fin hK133 (fun _ _ h => h) ?_
    refine WC.ret1 Tryz.results145 (fun _ _ h => h) rfl ?_
    exact ⟨_, rfl, X, hq', st⟩
  have hpos : 0 < L.length := List.length_pos_iff.2 hL
  obtain ⟨b, c, f0, rfl, hc1, hc2, rfl, hf0⟩ := hq.row hpos
  by_cases hall : ∀ q, q ∈ L → p q = false
  · have hfl : (L.filter fun x => !p x) = L := List.filter_eq_self.2 fun x hx => by rw [hall x hx]; rfl
    rw [hfl]
    refine enter [.slice (some ⟨b, 0, none⟩) L.length c, .func (.func F) #[] cap] Tryz.func145 rfl Tryz.ntmps145 rfl ?_
    show WC _ _ _ 42 [] [(0, .slice (some ⟨b, 0, none⟩) L.length c), (1, .func (.func F) #[] cap)] _
    refine WC.seq fun K134 hK134 => ?_
    -- region 0
    refine WC.region ?_
    -- R0.0 4 := slices.go:241 assign
    refine WL.v (by first | exact r_assign (v := .slice _ _ _) rfl | exact r_assign rfl) rfl rfl rfl ?_
    refine WL.fin hK134 (fun _ _ h => h) ?_
    refine WC.seq fun K135 hK135 => ?_
    -- region 1
    refine WC.region ?_
    -- R1.0 8 := slices.go:242 move
    refine WL.v (by first | exact r_move (v := .slice _ _ _) rfl | exact r_move rfl) rfl rfl rfl ?_
    -- R1.1 9 := slices.go:242 move
    refine WL.v (by first | exact r_move (v := .func _ _ _) rfl | exact r_move (v := .nilFunc) rfl | exact r_move rfl) rfl rfl rfl ?_
    -- R1.2 10 := slices.go:242 call
    refine WL.call (r_call ty_call165 rfl) rfl rfl rfl (ixFR_ok hcall hq (fun x hx => List.mem_append_left _ hx) (fun q w hm st => hF _ q w hm st) st) ?_
    rintro _ w ⟨⟨hn, rfl⟩ | ⟨i, q, h, h2, _⟩, st⟩
    rotate_left
    · rw [hall q (List.mem_of_getElem? h)] at h2; cases h2
    -- R1.3 5 := slices.go:242 assign
    refine WL.v (by first | exact r_assign (v := .int _ _) rfl | exact r_assign rfl) rfl rfl rfl ?_
    refine WL.fin hK135 (fun _ _ h => h) ?_
    refine WC.seq fun K136 hK136 => ?_
    refine WC.seq fun K137 hK137 => ?_
    -- region 2
    refine WC.region ?_
    -- R2.0 11 := slices.go:243 move
    refine WL.v (by first | exact r_move (v := .int _ _) rfl | exact r_move rfl) rfl rfl rfl ?_
    -- R2.1 12 := slices.go:243 binOp
    refine WL.v (by first | exact r_eql rfl rfl (decide_eq_true (by omega)) | exact r_eql rfl rfl (decide_eq_false (by omega)) | exact r_eql rfl rfl rfl) rfl rfl rfl ?_
    refine WL.fin hK137 (fun _ _ h => h) ?_
    refine WC.condT rfl rfl ?_
    refine WC.seq fun K138 hK138 => ?_
    -- region 3
    refine WC.region ?_
    -- R3.0 13 := slices.go:244 move
    refine WL.v (by first | exact r_move (v := .slice _ _ _) rfl | exact r_move rfl) rfl rfl rfl ?_
    -- R3.1 4 := slices.go:244 assign
    refine WL.v (by first | exact r_assign (v := .slice _ _ _) rfl | exact r_assign rfl) rfl rfl rfl ?_
    refine WL.fin hK138 (fun _ _ h => h) ?_
    refine WC.ret1 Tryz.results145 (fun _ _ h => h) rfl ?_
    exact ⟨_, rfl, _, hq, st⟩
  refine enter [.slice (some ⟨b, 0, none⟩) L.length c, .func (.func F) #[] cap] Tryz.func145 rfl Tryz.ntmps145 rfl ?_
  show WC _ _ _ 42 [] [(0, .slice (some ⟨b, 0, none⟩) L.length c), (1, .func (.func F) #[] cap)] _
  refine WC.seq fun K139 hK139 => ?_
  -- region 0
  refine WC.region ?_
  -- R0.0 4 := slices.go:241 assign
  refine WL.v (by first | exact r_assign (v := .slice _ _ _) rfl | exact r_assign rfl) rfl rfl rfl ?_
  refine WL.fin hK139 (fun _ _ h => h) ?_
  refine WC.seq fun K140 hK140 => ?_
  -- region 1
  refine WC.region ?_
  -- R1.0 8 := slices.go:242 move
  refine WL.v (by first | exact r_move (v := .slice _ _ _) rfl | exact r_move rfl) rfl rfl rfl ?_
  -- R1.1 9 := slices.go:242 move
  refine WL.v (by first | exact r_move (v := .func _ _ _) rfl | exact r_move (v := .nilFunc) rfl | exact r_move rfl) rfl rfl rfl ?_
  -- R1.2 10 := slices.go:242 call
  refine WL.call (r_call ty_call165 rfl) rfl rfl rfl (ixFR_ok hcall hq (fun x hx => List.mem_append_left _ hx) (fun q w hm st => hF _ q w hm st) st) ?_
  rintro _ w ⟨h | ⟨i0, q0, hi0, hp0, hno, rfl⟩, st⟩
  · exact absurd h.1 hall
  have hi0l : i0 < L.length := (List.getElem?_eq_some_iff.1 hi0).1
  have hstart : (L.take (i0 + 1)).filter (fun x => !p x) = L.take i0 := by
    rw [fltR hi0, hp0]
    refine (List.append_nil _).trans (List.filter_eq_self.2 fun x hx => ?_)
    obtain ⟨k, hk, rfl⟩ := List.mem_take_iff_getElem.1 hx
    rw [hno k _ (by omega) (List.getElem?_eq_getElem _)]; rfl
  -- R1.3 5 := slices.go:242 assign
  refine WL.v (by first | exact r_assign (v := .int _ _) rfl | exact r_assign rfl) rfl rfl rfl ?_
  refine WL.fin hK140 (fun _ _ h => h) ?_
  refine WC.seq fun K141 hK141 => ?_
  refine WC.seq fun K142 hK142 => ?_
  -- region 2
  refine WC.region ?_
  -- R2.0 11 := slices.go:243 move
  refine WL.v (by first | exact r_move (v := .int _ _) rfl | exact r_move rfl) rfl rfl rfl ?_
  -- R2.1 12 := slices.go:243 binOp
  refine WL.v (by first | exact r_eql rfl rfl (decide_eq_true (by omega)) | exact r_eql rfl rfl (decide_eq_false (by omega)) | exact r_eql rfl rfl rfl) rfl rfl rfl ?_
  refine WL.fin hK142 (fun _ _ h => h) ?_
  refine WC.condF rfl rfl ?_
  refine WC.skipF hK141 (fun _ _ h => h) ?_
  refine WC.seq fun K143 hK143 => ?_
  refine WC.seq fun K144 hK144 => ?_
  -- region 4
  refine WC.region ?_
  -- R4.0 14 := slices.go:247 move
  refine WL.v (by first | exact r_move (v := .int _ _) rfl | exact r_move rfl) rfl rfl rfl ?_
  -- R4.1 15 := slices.go:247 binOp
  refine WL.v (by first | exact r_add rfl rfl (wi64 (by omega) (by omega)) | exact r_add rfl rfl rfl) rfl rfl rfl ?_
  -- R4.2 6 := slices.go:247 assign
  refine WL.v (by first | exact r_assign (v := .int _ _) rfl | exact r_assign rfl) rfl rfl rfl ?_
  refine WL.fin hK144 (fun _ _ h => h) ?_
  refine WC.block ?_
  refine WC.loop (ι := Nat × Nat × (Nat → Value)) (fun y => [(0, .slice (some ⟨b, 0, none⟩) L.length c), (1, .func (.func F) #[] cap), (5, .int .i64 (y.1 : Nat)), (6, .int .i64 (y.2.1 : Nat))])
    (fun y w' => y.1 < y.2.1 ∧ y.2.1 ≤ L.length ∧ y.1 = ((L.take y.2.1).filter fun x => !p x).length ∧ (∀ k x, ((L.take y.2.1).filter fun x => !p x)[k]? = some x → ∀ j, j < 2 → y.2.2 (k * 2 + j) = qE x j) ∧
      (∀ k x, y.2.1 ≤ k → L[k]? = some x → ∀ j, j < 2 → y.2.2 (k * 2 + j) = qE x j) ∧ S0 w0 ((b, Row 61 (c * 2) y.2.2) :: l) w') (fun y => L.length - y.2.1) (i0, i0 + 1, f0)
    ⟨Nat.lt_succ_self _, hi0l, by rw [hstart, List.length_take]; omega, fun k x hx => hf0 k x (by rw [hstart] at hx; rw [List.getElem?_take] at hx; split at hx; exact hx; cases hx), fun k x _ hx => hf0 k x hx, st⟩ ?_ ?_
  · skip
    repeat (first | exact sub_nil _ | refine sub_cons rfl rfl ?_)
  rintro ⟨i, j, f⟩ w ⟨hij, hj, hil, hfi, hfj, st⟩ K1 hK1
  dsimp only at hij hj hil hfi hfj st ⊢
  by_cases hjl : j = L.length
  · subst hjl
    rw [List.take_length] at hil hfi
    refine WC.seq fun K145 hK145 => ?_
    refine WC.seq fun K146 hK146 => ?_
    -- region 5
    refine WC.region ?_
    -- R5.0 16 := slices.go:247 move
    refine WL.v (by first | exact r_move (v := .int _ _) rfl | exact r_move rfl) rfl rfl rfl ?_
    -- R5.1 17 := slices.go:247 move
    refine WL.v (by first | exact r_move (v := .slice _ _ _) rfl | exact r_move rfl) rfl rfl rfl ?_
    -- R5.2 18 := slices.go:247 call
    refine WL.v (by exact r_len ty_usl46 rfl) rfl rfl rfl ?_
    -- R5.3 19 := slices.go:247 binOp
    refine WL.v (by first | exact r_lss rfl rfl (decide_eq_true (by omega)) | exact r_lss rfl rfl (decide_eq_false (by omega)) | exact r_lss rfl rfl rfl) rfl rfl rfl ?_
    refine WL.fin hK146 (fun _ _ h => h) ?_
    refine WC.condF rfl rfl ?_
    refine WC.exitF hK143 (fun _ _ h => h) ?_
    refine WC.seq fun K147 hK147 => ?_
    -- region 11
    refine WC.region ?_
    -- R11.0 36 := slices.go:253 move
    refine WL.v (by first | exact r_move (v := .slice _ _ _) rfl | exact r_move rfl) rfl rfl rfl ?_
    -- R11.1 37 := slices.go:253 move
    refine WL.v (by first | exact r_move (v := .int _ _) rfl | exact r_move rfl) rfl rfl rfl ?_
    -- R11.2 38 := slices.go:253 slice
    refine WL.v (by exact r_slS (l := i) (h := L.length) (m := c) ty_sl46 rfl ⟨_, rfl⟩ rfl rfl (fun _ => rfl) (by omega) (by omega) (by omega) (by omega)) rfl rfl rfl ?_
    -- R11.3 None := slices.go:253 call
    refine WL.clear (k := L.length - i) (N := c * 2) st ty_sl46 ty_zero61 rfl (by decide) (by omega) (by decide) rfl (by omega) rfl rfl ?_
    intro w st
    refine WL.fin hK147 (fun _ _ h => h) ?_
    refine WC.seq fun K148 hK148 => ?_
    -- region 12
    refine WC.region ?_
    -- R12.0 39 := slices.go:254 move
    refine WL.v (by first | exact r_move (v := .slice _ _ _) rfl | exact r_move rfl) rfl rfl rfl ?_
    -- R12.1 40 := slices.go:254 move
    refine WL.v (by first | exact r_move (v := .int _ _) rfl | exact r_move rfl) rfl rfl rfl ?_
    -- R12.2 41 := slices.go:254 slice
    refine WL.v (by exact r_slS (l := 0) (h := i) (m := c) ty_sl46 rfl rfl ⟨_, rfl⟩ rfl (fun h => by cases h) (by omega) (by omega) (by omega) (by omega)) rfl rfl rfl ?_
    -- R12.3 4 := slices.go:254 assign
    refine WL.v (by first | exact r_assign (v := .slice _ _ _) rfl | exact r_assign rfl) rfl rfl rfl ?_
    refine WL.fin hK148 (fun _ _ h => h) ?_
    refine WC.ret1 Tryz.results145 (fun _ _ h => h) rfl ?_
    refine ⟨_, rfl, [_], ?_, st⟩
    rw [hil]
    refine LO.of (by rw [← hil]; omega) hc2 fun k x hx m hm => ?_
    have hk : k < ((L.filter fun x => !p x)).length := (List.getElem?_eq_some_iff.1 hx).1
    rw [upds_eq, if_neg (by omega)]
    exact hfi k x hx m hm
  have hjl' : j < L.length := by omega
  obtain ⟨q, hqi⟩ : ∃ q, L[j]? = some q := ⟨L[j], List.getElem?_eq_getElem hjl'⟩
  have hqm : q ∈ L := List.mem_of_getElem? hqi
  have hfl := fltR (p := p) hqi
  have hce : ∀ m, m < 2 → w.cell? ⟨b, 0 + j * 2 + m, none⟩ = some (qE q m) := fun m hm => by rw [st.c0 (by omega), Nat.zero_add, hfj j q (Nat.le_refl _) hqi m hm]
  rcases Bool.eq_false_or_eq_true (p q) with hp | hp
  · rw [hp] at hfl
    have hfl : (L.take (j + 1)).filter (fun x => !p x) = (L.take j).filter (fun x => !p x) := hfl.trans (List.append_nil _)
    refine WC.seq fun K149 hK149 => ?_
    refine WC.seq fun K150 hK150 => ?_
    -- region 5
    refine WC.region ?_
    -- R5.0 16 := slices.go:247 move
    refine WL.v (by first | exact r_move (v := .int _ _) rfl | exact r_move rfl) rfl rfl rfl ?_
    -- R5.1 17 := slices.go:247 move
    refine WL.v (by first | exact r_move (v := .slice _ _ _) rfl | exact r_move rfl) rfl rfl rfl ?_
    -- R5.2 18 := slices.go:247 call
    refine WL.v (by exact r_len ty_usl46 rfl) rfl rfl rfl ?_
    -- R5.3 19 := slices.go:247 binOp
    refine WL.v (by first | exact r_lss rfl rfl (decide_eq_true (by omega)) | exact r_lss rfl rfl (decide_eq_false (by omega)) | exact r_lss rfl rfl rfl) rfl rfl rfl ?_
    refine WL.fin hK150 (fun _ _ h => h) ?_
    refine WC.condT rfl rfl ?_
    refine WC.skipF hK149 (fun _ _ h => h) ?_
    refine WC.seq fun K151 hK151 => ?_
    refine WC.block ?_
    refine WC.seq fun K152 hK152 => ?_
    -- region 7
    refine WC.region ?_
    -- R7.0 22 := slices.go:248 move
    refine WL.v (by first | exact r_move (v := .slice _ _ _) rfl | exact r_move rfl) rfl rfl rfl ?_
    -- R7.1 23 := slices.go:248 move
    refine WL.v (by first | exact r_move (v := .int _ _) rfl | exact r_move rfl) rfl rfl rfl ?_
    -- R7.2 24 := slices.go:248 indexAddr
    refine WL.v (by exact r_indexS (j := j) ty_sl46 rfl rfl rfl (by omega)) rfl rfl rfl ?_
    -- R7.3 25 := slices.go:248 load
    refine WL.v (by exact r_loadL (vs := [.int .i64 (q.1 : Nat), .int .i64 (q.2 : Nat)]) ty_agg61 rfl ⟨hce 0 (by decide), hce 1 (by decide), trivial⟩) rfl rfl rfl ?_
    -- R7.4 7 := slices.go:248 alloc
    refine WL.alloc (m := 2) st ty_zero61 rfl rfl rfl ?_
    intro b7 w st
    -- R7.5 None := slices.go:248 store
    first | refine WL.storeW (vs := [_, _]) st ty_agg61 rfl rfl rfl rfl rfl rfl ?_ | refine WL.storeL (vs := [_, _]) st ty_agg61 rfl rfl rfl rfl (by first | decide | omega) rfl rfl ?_ | refine WL.storeW (vs := [_, _]) st.front1 ty_agg61 rfl rfl rfl rfl rfl rfl ?_ | refine WL.storeL (vs := [_, _]) st.front1 ty_agg61 rfl rfl rfl rfl (by first | decide | omega) rfl rfl ?_ | refine WL.storeW (vs := [_, _]) st.front2 ty_agg61 rfl rfl rfl rfl rfl rfl ?_ | refine WL.storeL (vs := [_, _]) st.front2 ty_agg61 rfl rfl rfl rfl (by first | decide | omega) rfl rfl ?_ | refine WL.storeW (vs := [_, _]) st.front3 ty_agg61 rfl rfl rfl rfl rfl rfl ?_ | refine WL.storeL (vs := [_, _]) st.front3 ty_agg61 rfl rfl rfl rfl (by first | decide | omega) rfl rfl ?_ | refine WL.storeW (vs := [_, _]) st.front4 ty_agg61 rfl rfl rfl rfl rfl rfl ?_ | refine WL.storeL (vs := [_, _]) st.front4 ty_agg61 rfl rfl rfl rfl (by first | decide | omega) rfl rfl ?_ | refine WL.storeW (vs := [_, _]) st.front5 ty_agg61 rfl rfl rfl rfl rfl rfl ?_ | refine WL.storeL (vs := [_, _]) st.front5 ty_agg61 rfl rfl rfl rfl (by first | decide | omega) rfl rfl ?_ | refine WL.storeW (vs := [_, _]) st.front6 ty_agg61 rfl rfl rfl rfl rfl rfl ?_ | refine WL.storeL (vs := [_, _]) st.front6 ty_agg61 rfl rfl rfl rfl (by first | decide | omega) rfl rfl ?_ | refine WL.storeW (vs := [_, _]) st.front7 ty_agg61 rfl rfl rfl rfl rfl rfl ?_ | refine WL.storeL (vs := [_, _]) st.front7 ty_agg61 rfl rfl rfl rfl (by first | decide | omega) rfl rfl ?_ | refine WL.storeW (vs := [_, _]) st.front8 ty_agg61 rfl rfl rfl rfl rfl rfl ?_ | refine WL.storeL (vs := [_, _]) st.front8 ty_agg61 rfl rfl rfl rfl (by first | decide | omega) rfl rfl ?_
    intro w st
    refine WL.fin hK152 (fun _ _ h => h) ?_
    refine WC.seq fun K153 hK153 => ?_
    -- region 8
    refine WC.region ?_
    -- R8.0 26 := slices.go:248 move
    refine WL.v (by first | exact r_move (v := .func _ _ _) rfl | exact r_move (v := .nilFunc) rfl | exact r_move rfl) rfl rfl rfl ?_
    -- R8.1 27 := slices.go:248 load
    refine WL.v (by exact r_loadL (vs := [_, _]) ty_agg61 rfl ⟨(by first | assumption | exact st.c0 (by first | decide | omega) | exact st.c1 (by first | decide | omega) | exact st.c2 (by first | decide | omega) | exact st.c3 (by first | decide | omega) | exact st.c4 (by first | decide | omega) | exact st.c5 (by first | decide | omega) | exact st.c6 (by first | decide | omega) | exact st.c7 (by first | decide | omega) | exact st.c8 (by first | decide | omega)), (by first | assumption | exact st.c0 (by first | decide | omega) | exact st.c1 (by first | decide | omega) | exact st.c2 (by first | decide | omega) | exact st.c3 (by first | decide | omega) | exact st.c4 (by first | decide | omega) | exact st.c5 (by first | decide | omega) | exact st.c6 (by first | decide | omega) | exact st.c7 (by first | decide | omega) | exact st.c8 (by first | decide | omega)), trivial⟩) rfl rfl rfl ?_
    -- R8.2 28 := slices.go:248 call
    refine WL.call (r_callv hcall rfl rfl) rfl rfl rfl (hF [_, _] q w hqm st) ?_
    rintro _ w ⟨he, st⟩
    rw [hp] at he
    subst he
    have st : S0 w0 _ w := st
    -- R8.3 29 := slices.go:248 unOp
    refine WL.v (by first | exact r_notT rfl | exact r_notF rfl | exact r_not rfl) rfl rfl rfl ?_
    refine WL.fin hK153 (fun _ _ h => h) ?_
    refine WC.condF rfl rfl ?_
    refine WC.skipF hK151 (fun _ _ h => h) ?_
    -- region 6
    refine WC.region ?_
    -- R6.0 20 := slices.go:247 move
    refine WL.v (by first | exact r_move (v := .int _ _) rfl | exact r_move rfl) rfl rfl rfl ?_
    -- R6.1 21 := slices.go:247 binOp
    refine WL.v (by first | exact r_add rfl rfl (wi64 (by omega) (by omega)) | exact r_add rfl rfl rfl) rfl rfl rfl ?_
    -- R6.2 6 := slices.go:247 assign
    refine WL.v (by first | exact r_assign (v := .int _ _) rfl | exact r_assign rfl) rfl rfl rfl ?_
    refine WL.next hK1 (fun _ _ h => h) (i, j + 1, f) ⟨by show i < j + 1; omega, hjl', by rw [hfl]; exact hil, by rw [hfl]; exact hfi, fun k x hk hx => hfj k x (by have : j + 1 ≤ k := hk; omega) hx, st.drop⟩ (by show L.length - (j + 1) < L.length - j; omega) (by repeat (first | exact sub_nil _ | refine sub_cons rfl rfl ?_))
  · rw [hp] at hfl
    have hfl : (L.take (j + 1)).filter (fun x => !p x) = (L.take j).filter (fun x => !p x) ++ [q] := hfl
    have hA : ∀ k x, ((L.take (j + 1)).filter fun x => !p x)[k]? = some x → ∀ m, m < 2 → upds f (0 + i * 2) 2 (nth [.int .i64 (q.1 : Nat), .int .i64 (q.2 : Nat)]) (k * 2 + m) = qE x m := fun k x hx m hm => by
      rw [hfl] at hx
      have hk := (List.getElem?_eq_some_iff.1 hx).1
      rw [List.length_append, ← hil] at hk
      have hk : k < i + 1 := hk
      by_cases h1 : k < i
      · rw [List.getElem?_append_left (by omega)] at hx
        rw [upds_eq, if_neg (by omega)]
        exact hfi k x hx m hm
      · obtain rfl : k = i := by omega
        rw [List.getElem?_append_right (by omega), ← hil, Nat.sub_self] at hx
        cases hx
        rw [upds_eq, if_pos (by omega), show k * 2 + m - (0 + k * 2) = m by omega]
        rfl
    have hB : ∀ k x, j + 1 ≤ k → L[k]? = some x → ∀ m, m < 2 → upds f (0 + i * 2) 2 (nth [.int .i64 (q.1 : Nat), .int .i64 (q.2 : Nat)]) (k * 2 + m) = qE x m := fun k x hk hx m hm => by
      rw [upds_eq, if_neg (by omega)]
      exact hfj k x (by omega) hx m hm
    refine WC.seq fun K154 hK154 => ?_
    refine WC.seq fun K155 hK155 => ?_
    -- region 5
    refine WC.region ?_
    -- R5.0 16 := slices.go:247 move
    refine WL.v (by first | exact r_move (v := .int _ _) rfl | exact r_move rfl) rfl rfl rfl ?_
    -- R5.1 17 := slices.go:247 move
    refine WL.v (by first | exact r_move (v := .slice _ _ _) rfl | exact r_move rfl) rfl rfl rfl ?_
    -- R5.2 18 := slices.go:247 call
    refine WL.v (by exact r_len ty_usl46 rfl) rfl rfl rfl ?_
    -- R5.3 19 := slices.go:247 binOp
    refine WL.v (by first | exact r_lss rfl rfl (decide_eq_true (by omega)) | exact r_lss rfl rfl (decide_eq_false (by omega)) | exact r_lss rfl rfl rfl) rfl rfl rfl ?_
    refine WL.fin hK155 (fun _ _ h => h) ?_
    refine WC.condT rfl rfl ?_
    refine WC.skipF hK154 (fun _ _ h => h) ?_
    refine WC.seq fun K156 hK156 => ?_
    refine WC.block ?_
    refine WC.seq fun K157 hK157 => ?_
    -- region 7
    refine WC.region ?_
    -- R7.0 22 := slices.go:248 move
    refine WL.v (by first | exact r_move (v := .slice _ _ _) rfl | exact r_move rfl) rfl rfl rfl ?_
    -- R7.1 23 := slices.go:248 move
    refine WL.v (by first | exact r_move (v := .int _ _) rfl | exact r_move rfl) rfl rfl rfl ?_
    -- R7.2 24 := slices.go:248 indexAddr
    refine WL.v (by exact r_indexS (j := j) ty_sl46 rfl rfl rfl (by omega)) rfl rfl rfl ?_
    -- R7.3 25 := slices.go:248 load
    refine WL.v (by exact r_loadL (vs := [.int .i64 (q.1 : Nat), .int .i64 (q.2 : Nat)]) ty_agg61 rfl ⟨hce 0 (by decide), hce 1 (by decide), trivial⟩) rfl rfl rfl ?_
    -- R7.4 7 := slices.go:248 alloc
    refine WL.alloc (m := 2) st ty_zero61 rfl rfl rfl ?_
    intro b7 w st
    -- R7.5 None := slices.go:248 store
    first | refine WL.storeW (vs := [_, _]) st ty_agg61 rfl rfl rfl rfl rfl rfl ?_ | refine WL.storeL (vs := [_, _]) st ty_agg61 rfl rfl rfl rfl (by first | decide | omega) rfl rfl ?_ | refine WL.storeW (vs := [_, _]) st.front1 ty_agg61 rfl rfl rfl rfl rfl rfl ?_ | refine WL.storeL (vs := [_, _]) st.front1 ty_agg61 rfl rfl rfl rfl (by first | decide | omega) rfl rfl ?_ | refine WL.storeW (vs := [_, _]) st.front2 ty_agg61 rfl rfl rfl rfl rfl rfl ?_ | refine WL.storeL (vs := [_, _]) st.front2 ty_agg61 rfl rfl rfl rfl (by first | decide | omega) rfl rfl ?_ | refine WL.storeW (vs := [_, _]) st.front3 ty_agg61 rfl rfl rfl rfl rfl rfl ?_ | refine WL.storeL (vs := [_, _]) st.front3 ty_agg61 rfl rfl rfl rfl (by first | decide | omega) rfl rfl ?_ | refine WL.storeW (vs := [_, _]) st.front4 ty_agg61 rfl rfl rfl rfl rfl rfl ?_ | refine WL.storeL (vs := [_, _]) st.front4 ty_agg61 rfl rfl rfl rfl (by first | decide | omega) rfl rfl ?_ | refine WL.storeW (vs := [_, _]) st.front5 ty_agg61 rfl rfl rfl rfl rfl rfl ?_ | refine WL.storeL (vs := [_, _]) st.front5 ty_agg61 rfl rfl rfl rfl (by first | decide | omega) rfl rfl ?_ | refine WL.storeW (vs := [_, _]) st.front6 ty_agg61 rfl rfl rfl rfl rfl rfl ?_ | refine WL.storeL (vs := [_, _]) st.front6 ty_agg61 rfl rfl rfl rfl (by first | decide | omega) rfl rfl ?_ | refine WL.storeW (vs := [_, _]) st.front7 ty_agg61 rfl rfl rfl rfl rfl rfl ?_ | refine WL.storeL (vs := [_, _]) st.front7 ty_agg61 rfl rfl rfl rfl (by first | decide | omega) rfl rfl ?_ | refine WL.storeW (vs := [_, _]) st.front8 ty_agg61 rfl rfl rfl rfl rfl rfl ?_ | refine WL.storeL (vs := [_, _]) st.front8 ty_agg61 rfl rfl rfl rfl (by first | decide | omega) rfl rfl ?_
    intro w st
    refine WL.fin hK157 (fun _ _ h => h) ?_
    refine WC.seq fun K158 hK158 => ?_
    -- region 8
    refine WC.region ?_
    -- R8.0 26 := slices.go:248 move
    refine WL.v (by first | exact r_move (v := .func _ _ _) rfl | exact r_move (v := .nilFunc) rfl | exact r_move rfl) rfl rfl rfl ?_
    -- R8.1 27 := slices.go:248 load
    refine WL.v (by exact r_loadL (vs := [_, _]) ty_agg61 rfl ⟨(by first | assumption | exact st.c0 (by first | decide | omega) | exact st.c1 (by first | decide | omega) | exact st.c2 (by first | decide | omega) | exact st.c3 (by first | decide | omega) | exact st.c4 (by first | decide | omega) | exact st.c5 (by first | decide | omega) | exact st.c6 (by first | decide | omega) | exact st.c7 (by first | decide | omega) | exact st.c8 (by first | decide | omega)), (by first | assumption | exact st.c0 (by first | decide | omega) | exact st.c1 (by first | decide | omega) | exact st.c2 (by first | decide | omega) | exact st.c3 (by first | decide | omega) | exact st.c4 (by first | decide | omega) | exact st.c5 (by first | decide | omega) | exact st.c6 (by first | decide | omega) | exact st.c7 (by first | decide | omega) | exact st.c8 (by first | decide | omega)), trivial⟩) rfl rfl rfl ?_
    -- R8.2 28 := slices.go:248 call
    refine WL.call (r_callv hcall rfl rfl) rfl rfl rfl (hF [_, _] q w hqm st) ?_
    rintro _ w ⟨he, st⟩
    rw [hp] at he
    subst he
    have st : S0 w0 _ w := st
    -- R8.3 29 := slices.go:248 unOp
    refine WL.v (by first | exact r_notT rfl | exact r_notF rfl | exact r_not rfl) rfl rfl rfl ?_
    refine WL.fin hK158 (fun _ _ h => h) ?_
    refine WC.condT rfl rfl ?_
    refine WC.seq fun K159 hK159 => ?_
    -- region 9
    refine WC.region ?_
    -- R9.0 30 := slices.go:249 move
    refine WL.v (by first | exact r_move (v := .slice _ _ _) rfl | exact r_move rfl) rfl rfl rfl ?_
    -- R9.1 31 := slices.go:249 move
    refine WL.v (by first | exact r_move (v := .int _ _) rfl | exact r_move rfl) rfl rfl rfl ?_
    -- R9.2 32 := slices.go:249 load
    refine WL.v (by exact r_loadL (vs := [_, _]) ty_agg61 rfl ⟨(by first | assumption | exact st.c0 (by first | decide | omega) | exact st.c1 (by first | decide | omega) | exact st.c2 (by first | decide | omega) | exact st.c3 (by first | decide | omega) | exact st.c4 (by first | decide | omega) | exact st.c5 (by first | decide | omega) | exact st.c6 (by first | decide | omega) | exact st.c7 (by first | decide | omega) | exact st.c8 (by first | decide | omega)), (by first | assumption | exact st.c0 (by first | decide | omega) | exact st.c1 (by first | decide | omega) | exact st.c2 (by first | decide | omega) | exact st.c3 (by first | decide | omega) | exact st.c4 (by first | decide | omega) | exact st.c5 (by first | decide | omega) | exact st.c6 (by first | decide | omega) | exact st.c7 (by first | decide | omega) | exact st.c8 (by first | decide | omega)), trivial⟩) rfl rfl rfl ?_
    -- R9.3 33 := slices.go:249 indexAddr
    refine WL.v (by exact r_indexS (j := i) ty_sl46 rfl rfl rfl (by omega)) rfl rfl rfl ?_
    -- R9.4 None := slices.go:249 store
    first | refine WL.storeW (vs := [_, _]) st ty_agg61 rfl rfl rfl rfl rfl rfl ?_ | refine WL.storeL (vs := [_, _]) st ty_agg61 rfl rfl rfl rfl (by first | decide | omega) rfl rfl ?_ | refine WL.storeW (vs := [_, _]) st.front1 ty_agg61 rfl rfl rfl rfl rfl rfl ?_ | refine WL.storeL (vs := [_, _]) st.front1 ty_agg61 rfl rfl rfl rfl (by first | decide | omega) rfl rfl ?_ | refine WL.storeW (vs := [_, _]) st.front2 ty_agg61 rfl rfl rfl rfl rfl rfl ?_ | refine WL.storeL (vs := [_, _]) st.front2 ty_agg61 rfl rfl rfl rfl (by first | decide | omega) rfl rfl ?_ | refine WL.storeW (vs := [_, _]) st.front3 ty_agg61 rfl rfl rfl rfl rfl rfl ?_ | refine WL.storeL (vs := [_, _]) st.front3 ty_agg61 rfl rfl rfl rfl (by first | decide | omega) rfl rfl ?_ | refine WL.storeW (vs := [_, _]) st.front4 ty_agg61 rfl rfl rfl rfl rfl rfl ?_ | refine WL.storeL (vs := [_, _]) st.front4 ty_agg61 rfl rfl rfl rfl (by first | decide | omega) rfl rfl ?_ | refine WL.storeW (vs := [_, _]) st.front5 ty_agg61 rfl rfl rfl rfl rfl rfl ?_ | refine WL.storeL (vs := [_, _]) st.front5 ty_agg61 rfl rfl rfl rfl (by first | decide | omega) rfl rfl ?_ | refine WL.storeW (vs := [_, _]) st.front6 ty_agg61 rfl rfl rfl rfl rfl rfl ?_ | refine WL.storeL (vs := [_, _]) st.front6 ty_agg61 rfl rfl rfl rfl (by first | decide | omega) rfl rfl ?_ | refine WL.storeW (vs := [_, _]) st.front7 ty_agg61 rfl rfl rfl rfl rfl rfl ?_ | refine WL.storeL (vs := [_, _]) st.front7 ty_agg61 rfl rfl rfl rfl (by first | decide | omega) rfl rfl ?_ | refine WL.storeW (vs := [_, _]) st.front8 ty_agg61 rfl rfl rfl rfl rfl rfl ?_ | refine WL.storeL (vs := [_, _]) st.front8 ty_agg61 rfl rfl rfl rfl (by first | decide | omega) rfl rfl ?_
    intro w st
    refine WL.fin hK159 (fun _ _ h => h) ?_
    -- region 10
    refine WC.region ?_
    -- R10.0 34 := slices.go:250 move
    refine WL.v (by first | exact r_move (v := .int _ _) rfl | exact r_move rfl) rfl rfl rfl ?_
    -- R10.1 35 := slices.go:250 binOp
    refine WL.v (by first | exact r_add rfl rfl (wi64 (by omega) (by omega)) | exact r_add rfl rfl rfl) rfl rfl rfl ?_
    -- R10.2 5 := slices.go:250 assign
    refine WL.v (by first | exact r_assign (v := .int _ _) rfl | exact r_assign rfl) rfl rfl rfl ?_
    refine WL.fin hK156 (fun _ _ h => h) ?_
    -- region 6
    refine WC.region ?_
    -- R6.0 20 := slices.go:247 move
    refine WL.v (by first | exact r_move (v := .int _ _) rfl | exact r_move rfl) rfl rfl rfl ?_
    -- R6.1 21 := slices.go:247 binOp
    refine WL.v (by first | exact r_add rfl rfl (wi64 (by omega) (by omega)) | exact r_add rfl rfl rfl) rfl rfl rfl ?_
    -- R6.2 6 := slices.go:247 assign
    refine WL.v (by first | exact r_assign (v := .int _ _) rfl | exact r_assign rfl) rfl rfl rfl ?_
    refine WL.next hK1 (fun _ _ h => h) (i + 1, j + 1, upds f (0 + i * 2) 2 (nth [.int .i64 (q.1 : Nat), .int .i64 (q.2 : Nat)])) ⟨by show i + 1 < j + 1; omega, hjl', by rw [hfl, List.length_append, ← hil]; rfl, hA, hB, st.drop1⟩ (by show L.length - (j + 1) < L.length - j; omega) (by repeat (first | exact sub_nil _ | refine sub_cons rfl rfl ?_))
/-! slices.IndexFunc and slices.DeleteFunc over timers. -/
theorem ixFT_ok {L : List (Nat × Nat × Nat)} {p : Nat × Nat × Nat → Bool} {F : Nat} {cap : Array Value} (hcall : callT Tryz.prog F = true) (hq : LO 164 3 tE v L X) (hX : X ⊆ l)
    (hF : ∀ (q : Nat × Nat × Nat) (w : World), q ∈ L → S0 w0 l w → Calls Tryz.prog F (([.agg #[.int .u64 (q.1 : Nat), .int .u64 (q.2.1 : Nat), .int .u64 (q.2.2 : Nat)]] : List Value) ++ cap.toList).toArray w (Ret fun u w' => u = .bool (p q) ∧ S0 w0 l w')) (st : S0 w0 l w) :
    Calls Tryz.prog 164 #[v, .func (.func F) #[] cap] w (Ret fun u w' => (((∀ q, q ∈ L → p q = false) ∧ u = .int .i64 (-1)) ∨ ∃ i q, L[i]? = some q ∧ p q = true ∧ (∀ k x, k < i → L[k]? = some x → p x = false) ∧ u = .int .i64 (i : Nat)) ∧ S0 w0 l w') := by
  obtain ⟨a, c, b, rfl, hc1, hc2, ha, hcell⟩ := hq.form
  refine enter [.slice a L.length c, .func (.func F) #[] cap] Tryz.func164 rfl Tryz.ntmps164 rfl ?_
  show WC _ _ _ 19 [] [(0, .slice a L.length c), (1, .func (.func F) #[] cap)] _
  refine WC.seq fun K160 hK160 => ?_
  -- region 0
  refine WC.region ?_
  -- R0.0 4 := slices.go:107 assign
  refine WL.v (by first | exact r_assign (v := .int _ _) rfl | exact r_assign rfl) rfl rfl rfl ?_
  refine WL.fin hK160 (fun _ _ h => h) ?_
  refine WC.seq fun K161 hK161 => ?_
  refine WC.seq fun K162 hK162 => ?_
  -- region 1
  refine WC.region ?_
  -- R1.0 6 := slices.go:108 move
  refine WL.v (by first | exact r_move (v := .slice _ _ _) rfl | exact r_move rfl) rfl rfl rfl ?_
  -- R1.1 7 := slices.go:108 call
  refine WL.v (by exact r_len ty_usl145 rfl) rfl rfl rfl ?_
  -- R1.2 8 := slices.go:108 move
  refine WL.v (by first | exact r_move (v := .int _ _) rfl | exact r_move rfl) rfl rfl rfl ?_
  refine WL.fin hK162 (fun _ _ h => h) ?_
  refine WC.block ?_
  refine WC.loop (ι := Nat) (fun i => [(0, .slice a L.length c), (1, .func (.func F) #[] cap), (7, .int .i64 (L.length : Nat)), (8, .int .i64 (i : Nat))])
    (fun i w' => i ≤ L.length ∧ (∀ k x, k < i → L[k]? = some x → p x = false) ∧ S0 w0 l w') (fun i => L.length - i) 0 ⟨Nat.zero_le _, fun k x hk => absurd hk (Nat.not_lt_zero _), st⟩ ?_ ?_
  · skip
    repeat (first | exact sub_nil _ | refine sub_cons rfl rfl ?_)
  rintro i w ⟨hi, hno, st⟩ K1 hK1
  by_cases hl : i = L.length
  · subst hl
    refine WC.seq fun K163 hK163 => ?_
    -- region 2
    refine WC.region ?_
    -- R2.0 9 := slices.go:108 binOp
    refine WL.v (by first | exact r_lss rfl rfl (decide_eq_true (by omega)) | exact r_lss rfl rfl (decide_eq_false (by omega)) | exact r_lss rfl rfl rfl) rfl rfl rfl ?_
    refine WL.fin hK163 (fun _ _ h => h) ?_
    refine WC.seq fun K164 hK164 => ?_
    refine WC.condF rfl rfl ?_
    refine WC.exitF hK161 (fun _ _ h => h) ?_
    refine WC.seq fun K165 hK165 => ?_
    -- region 7
    refine WC.region ?_
    -- R7.0 4 := slices.go:113 assign
    refine WL.v (by first | exact r_assign (v := .int _ _) rfl | exact r_assign rfl) rfl rfl rfl ?_
    refine WL.fin hK165 (fun _ _ h => h) ?_
    refine WC.ret1 Tryz.results164 (fun _ _ h => h) rfl ?_
    refine ⟨_, rfl, .inl ⟨fun q hm => ?_, rfl⟩, st⟩
    obtain ⟨k, hk⟩ := List.mem_iff_getElem?.1 hm
    exact hno k q (List.getElem?_eq_some_iff.1 hk).1 hk
  have hil : i < L.length := by omega
  obtain ⟨q, hqi⟩ : ∃ q, L[i]? = some q := ⟨L[i], List.getElem?_eq_getElem hil⟩
  have hqm : q ∈ L := List.mem_of_getElem? hqi
  obtain rfl := ha (by omega)
  have hce := fun j hj => hcell st hX i q hqi j hj
  rcases Bool.eq_false_or_eq_true (p q) with hp | hp
  · skip
    refine WC.seq fun K166 hK166 => ?_
    -- region 2
    refine WC.region ?_
    -- R2.0 9 := slices.go:108 binOp
    refine WL.v (by first | exact r_lss rfl rfl (decide_eq_true (by omega)) | exact r_lss rfl rfl (decide_eq_false (by omega)) | exact r_lss rfl rfl rfl) rfl rfl rfl ?_
    refine WL.fin hK166 (fun _ _ h => h) ?_
    refine WC.seq fun K167 hK167 => ?_
    refine WC.condT rfl rfl ?_
    refine WC.skipF hK167 (fun _ _ h => h) ?_
    refine WC.seq fun K168 hK168 => ?_
    refine WC.block ?_
    refine WC.seq fun K169 hK169 => ?_
    -- region 3
    refine WC.region ?_
    -- R3.0 10 := slices.go:108 move
    refine WL.v (by first | exact r_move (v := .int _ _) rfl | exact r_move rfl) rfl rfl rfl ?_
    -- R3.1 5 := slices.go:108 assign
    refine WL.v (by first | exact r_assign (v := .int _ _) rfl | exact r_assign rfl) rfl rfl rfl ?_
    refine WL.fin hK169 (fun _ _ h => h) ?_
    refine WC.seq fun K170 hK170 => ?_
    -- region 4
    refine WC.region ?_
    -- R4.0 11 := slices.go:109 move
    refine WL.v (by first | exact r_move (v := .func _ _ _) rfl | exact r_move (v := .nilFunc) rfl | exact r_move rfl) rfl rfl rfl ?_
    -- R4.1 12 := slices.go:109 move
    refine WL.v (by first | exact r_move (v := .slice _ _ _) rfl | exact r_move rfl) rfl rfl rfl ?_
    -- R4.2 13 := slices.go:109 move
    refine WL.v (by first | exact r_move (v := .int _ _) rfl | exact r_move rfl) rfl rfl rfl ?_
    -- R4.3 14 := slices.go:109 indexAddr
    refine WL.v (by exact r_indexS (j := i) ty_sl145 rfl rfl rfl (by omega)) rfl rfl rfl ?_
    -- R4.4 15 := slices.go:109 load
    refine WL.v (by exact r_loadL (vs := [.int .u64 (q.1 : Nat), .int .u64 (q.2.1 : Nat), .int .u64 (q.2.2 : Nat)]) ty_agg164 rfl ⟨by rw [Nat.zero_add]; exact hce 0 (by decide), by rw [Nat.zero_add]; exact hce 1 (by decide), by rw [Nat.zero_add]; exact hce 2 (by decide), trivial⟩) rfl rfl rfl ?_
    -- R4.5 16 := slices.go:109 call
    refine WL.call (r_callv hcall rfl rfl) rfl rfl rfl (hF q w hqm st) ?_
    rintro _ w ⟨he, st⟩
    rw [hp] at he
    subst he
    refine WL.fin hK170 (fun _ _ h => h) ?_
    refine WC.condT rfl rfl ?_
    refine WC.seq fun K171 hK171 => ?_
    -- region 5
    refine WC.region ?_
    -- R5.0 17 := slices.go:110 move
    refine WL.v (by first | exact r_move (v := .int _ _) rfl | exact r_move rfl) rfl rfl rfl ?_
    -- R5.1 4 := slices.go:110 assign
    refine WL.v (by first | exact r_assign (v := .int _ _) rfl | exact r_assign rfl) rfl rfl rfl ?_
    refine WL.fin hK171 (fun _ _ h => h) ?_
    refine WC.ret1 Tryz.results164 (fun _ _ h => h) rfl ?_
    exact ⟨_, rfl, .inr ⟨i, q, hqi, hp, hno, rfl⟩, st⟩
  · skip
    refine WC.seq fun K172 hK172 => ?_
    -- region 2
    refine WC.region ?_
    -- R2.0 9 := slices.go:108 binOp
    refine WL.v (by first | exact r_lss rfl rfl (decide_eq_true (by omega)) | exact r_lss rfl rfl (decide_eq_false (by omega)) | exact r_lss rfl rfl rfl) rfl rfl rfl ?_
    refine WL.fin hK172 (fun _ _ h => h) ?_
    refine WC.seq fun K173 hK173 => ?_
    refine WC.condT rfl rfl ?_
    refine WC.skipF hK173 (fun _ _ h => h) ?_
    refine WC.seq fun K174 hK174 => ?_
    refine WC.block ?_
    refine WC.seq fun K175 hK175 => ?_
    -- region 3
    refine WC.region ?_
    -- R3.0 10 := slices.go:108 move
    refine WL.v (by first | exact r_move (v := .int _ _) rfl | exact r_move rfl) rfl rfl rfl ?_
    -- R3.1 5 := slices.go:108 assign
    refine WL.v (by first | exact r_assign (v := .int _ _) rfl | exact r_assign rfl) rfl rfl rfl ?_
    refine WL.fin hK175 (fun _ _ h => h) ?_
    refine WC.seq fun K176 hK176 => ?_
    -- region 4
    refine WC.region ?_
    -- R4.0 11 := slices.go:109 move
    refine WL.v (by first | exact r_move (v := .func _ _ _) rfl | exact r_move (v := .nilFunc) rfl | exact r_move rfl) rfl rfl rfl ?_
    -- R4.1 12 := slices.go:109 move
    refine WL.v (by first | exact r_move (v := .slice _ _ _) rfl | exact r_move rfl) rfl rfl rfl ?_
    -- R4.2 13 := slices.go:109 move
    refine WL.v (by first | exact r_move (v := .int _ _) rfl | exact r_move rfl) rfl rfl rfl ?_
    -- R4.3 14 := slices.go:109 indexAddr
    refine WL.v (by exact r_indexS (j := i) ty_sl145 rfl rfl rfl (by omega)) rfl rfl rfl ?_
    -- R4.4 15 := slices.go:109 load
    refine WL.v (by exact r_loadL (vs := [.int .u64 (q.1 : Nat), .int .u64 (q.2.1 : Nat), .int .u64 (q.2.2 : Nat)]) ty_agg164 rfl ⟨by rw [Nat.zero_add]; exact hce 0 (by decide), by rw [Nat.zero_add]; exact hce 1 (by decide), by rw [Nat.zero_add]; exact hce 2 (by decide), trivial⟩) rfl rfl rfl ?_
    -- R4.5 16 := slices.go:109 call
    refine WL.call (r_callv hcall rfl rfl) rfl rfl rfl (hF q w hqm st) ?_
    rintro _ w ⟨he, st⟩
    rw [hp] at he
    subst he
    refine WL.fin hK176 (fun _ _ h => h) ?_
    refine WC.condF rfl rfl ?_
    refine WC.skipF hK174 (fun _ _ h => h) ?_
    -- region 6
    refine WC.region ?_
    -- R6.0 18 := slices.go:108 binOp
    refine WL.v (by first | exact r_add rfl rfl (wi64 (by omega) (by omega)) | exact r_add rfl rfl rfl) rfl rfl rfl ?_
    -- R6.1 8 := slices.go:108 move
    refine WL.v (by first | exact r_move (v := .int _ _) rfl | exact r_move rfl) rfl rfl rfl ?_
    refine WL.next hK1 (fun _ _ h => h) (i + 1) ⟨by omega, fun k x hk hx => by rcases Nat.lt_succ_iff_lt_or_eq.1 hk with h | rfl; exact hno k x h hx; rw [hqi] at hx; cases hx; exact hp, st⟩ (by omega) (by repeat (first | exact sub_nil _ | refine sub_cons rfl rfl ?_))

theorem fltT {L : List (Nat × Nat × Nat)} {p : Nat × Nat × Nat → Bool} {j : Nat} {q : Nat × Nat × Nat} (h : L[j]? = some q) : (L.take (j + 1)).filter (fun x => !p x) = (L.take j).filter (fun x => !p x) ++ (if p q then [] else [q]) := by
  rw [List.take_add_one, h, List.filter_append]
  cases hp : p q <;> simp [hp]

set_option maxHeartbeats 4000000 in
theorem delFT_ok {L : List (Nat × Nat × Nat)} {p : Nat × Nat × Nat → Bool} {F : Nat} {cap : Array Value} {X : List HI} (hcall : callT Tryz.prog F = true) (hq : LO 164 3 tE v L X)
    (hF : ∀ (I : List HI) (q : Nat × Nat × Nat) (w : World), q ∈ L → S0 w0 (I ++ l) w → Calls Tryz.prog F (([.agg #[.int .u64 (q.1 : Nat), .int .u64 (q.2.1 : Nat), .int .u64 (q.2.2 : Nat)]] : List Value) ++ cap.toList).toArray w (Ret fun u w' => u = .bool (p q) ∧ S0 w0 (I ++ l) w')) (st : S0 w0 (X ++ l) w) :
    Calls Tryz.prog 142 #[v, .func (.func F) #[] cap] w (Ret fun u w' => ∃ X', LO 164 3 tE u (L.filter fun x => !p x) X' ∧ S0 w0 (X' ++ l) w') := by
  by_cases hL : L = []
  · subst hL
    have hq' := hq
    obtain ⟨a, c, b, rfl, hc1, hc2, ha, hcell⟩ := hq.form
    refine enter [.slice a 0 c, .func (.func F) #[] cap] Tryz.func142 rfl Tryz.ntmps142 rfl ?_
    show WC _ _ _ 42 [] [(0, .slice a 0 c), (1, .func (.func F) #[] cap)] _
    refine WC.seq fun K177 hK177 => ?_
    -- region 0
    refine WC.region ?_
    -- R0.0 4 := slices.go:241 assign
    refine WL.v (by first | exact r_assign (v := .slice _ _ _) rfl | exact r_assign rfl) rfl rfl rfl ?_
    refine WL.fin hK177 (fun _ _ h => h) ?_
    refine WC.seq fun K178 hK178 => ?_
    -- region 1
    refine WC.region ?_
    -- R1.0 8 := slices.go:242 move
    refine WL.v (by first | exact r_move (v := .slice _ _ _) rfl | exact r_move rfl) rfl rfl rfl ?_
    -- R1.1 9 := slices.go:242 move
    refine WL.v (by first | exact r_move (v := .func _ _ _) rfl | exact r_move (v := .nilFunc) rfl | exact r_move rfl) rfl rfl rfl ?_
    -- R1.2 10 := slices.go:242 call
    refine WL.call (r_call ty_call164 rfl) rfl rfl rfl (ixFT_ok hcall hq' (fun x hx => List.mem_append_left _ hx) (fun q w hm st => hF X q w hm st) st) ?_
    rintro _ w ⟨⟨hn, rfl⟩ | ⟨i, q, h, _⟩, st⟩
    rotate_left
    · simp at h
    -- R1.3 5 := slices.go:242 assign
    refine WL.v (by first | exact r_assign (v := .int _ _) rfl | exact r_assign rfl) rfl rfl rfl ?_
    refine WL.fin hK178 (fun _ _ h => h) ?_
    refine WC.seq fun K179 hK179 => ?_
    refine WC.seq fun K180 hK180 => ?_
    -- region 2
    refine WC.region ?_
    -- R2.0 11 := slices.go:243 move
    refine WL.v (by first | exact r_move (v := .int _ _) rfl | exact r_move rfl) rfl rfl rfl ?_
    -- R2.1 12 := slices.go:243 binOp
    refine WL.v (by first | exact r_eql rfl rfl (decide_eq_true (by omega)) | exact r_eql rfl rfl (decide_eq_false (by omega)) | exact r_eql rfl rfl rfl) rfl rfl rfl ?_
    refine WL.fin hK180 (fun _ _ h => h) ?_
    refine WC.condT rfl rfl ?_
    refine WC.seq fun K181 hK181 => ?_
    -- region 3
    refine WC.region ?_
    -- R3.0 13 := slices.go:244 move
    refine WL.v (by first | exact r_move (v := .slice _ _ _) rfl | exact r_move rfl) rfl rfl rfl ?_
    -- R3.1 4 := slices.go:244 assign
    refine WL.v (by first | exact r_assign (v := .slice _ _ _) rfl | exact r_assign rfl) rfl rfl rfl ?_
    refine WL.fin hK181 (fun _ _ h => h) ?_
    refine WC.ret1 Tryz.results142 (fun _ _ h => h) rfl ?_
    exact ⟨_, rfl, X, hq', st⟩
  have hpos : 0 < L.length := List.length_pos_iff.2 hL
  obtain ⟨b, c, f0, rfl, hc1, hc2, rfl, hf0⟩ := hq.row hpos
  by_cases hall : ∀ q, q ∈ L → p q = false
  · have hfl : (L.filter fun x => !p x) = L := List.filter_eq_self.2 fun x hx => by rw [hall x hx]; rfl
    rw [hfl]
    refine enter [.slice (some ⟨b, 0, none⟩) L.length c, .func (.func F) #[] cap] Tryz.func142 rfl Tryz.ntmps142 rfl ?_
    show WC _ _ _ 42 [] [(0, .slice (some ⟨b, 0, none⟩) L.length c), (1, .func (.func F) #[] cap)] _
    refine WC.seq fun K182 hK182 => ?_
    -- region 0
    refine WC.region ?_
    -- R0.0 4 := slices.go:241 assign
    refine WL.v (by first | exact r_assign (v := .slice _ _ _) rfl | exact r_assign rfl) rfl rfl rfl ?_
    refine WL.fin hK182 (fun _ _ h => h) ?_
    refine WC.seq fun K183 hK183 => ?_
    -- region 1
    refine WC.region ?_
    -- R1.0 8 := slices.go:242 move
    refine WL.v (by first | exact r_move (v := .slice _ _ _) rfl | exact r_move rfl) rfl rfl rfl ?_
    -- R1.1 9 := slices.go:242 move
    refine WL.v (by first | exact r_move (v := .func _ _ _) rfl | exact r_move (v := .nilFunc) rfl | exact r_move rfl) rfl rfl rfl ?_
    -- R1.2 10 := slices.go:242 call
    refine WL.call (r_call ty_call164 rfl) rfl rfl rfl (ixFT_ok hcall hq (fun x hx => List.mem_append_left _ hx) (fun q w hm st => hF _ q w hm st) st) ?_
    rintro _ w ⟨⟨hn, rfl⟩ | ⟨i, q, h, h2, _⟩, st⟩
    rotate_left
    · rw [hall q (List.mem_of_getElem? h)] at h2; cases h2
    -- R1.3 5 := slices.go:242 assign
    refine WL.v (by first | exact r_assign (v := .int _ _) rfl | exact r_assign rfl) rfl rfl rfl ?_
    refine WL.fin hK183 (fun _ _ h => h) ?_
    refine WC.seq fun K184 hK184 => ?_
    refine WC.seq fun K185 hK185 => ?_
    -- region 2
    refine WC.region ?_
    -- R2.0 11 := slices.go:243 move
    refine WL.v (by first | exact r_move (v := .int _ _) rfl | exact r_move rfl) rfl rfl rfl ?_
    -- R2.1 12 := slices.go:243 binOp
    refine WL.v (by first | exact r_eql rfl rfl (decide_eq_true (by omega)) | exact r_eql rfl rfl (decide_eq_false (by omega)) | exact r_eql rfl rfl rfl) rfl rfl rfl ?_
    refine WL.fin hK185 (fun _ _ h => h) ?_
    refine WC.condT rfl rfl ?_
    refine WC.seq fun K186 hK186 => ?_
    -- region 3
    refine WC.region ?_
    -- R3.0 13 := slices.go:244 move
    refine WL.v (by first | exact r_move (v := .slice _ _ _) rfl | exact r_move rfl) rfl rfl rfl ?_
    -- R3.1 4 := slices.go:244 assign
    refine WL.v (by first | exact r_assign (v := .slice _ _ _) rfl | exact r_assign rfl) rfl rfl rfl ?_
    refine WL.fin hK186 (fun _ _ h => h) ?_
    refine WC.ret1 Tryz.results142 (fun _ _ h => h) rfl ?_
    exact ⟨_, rfl, _, hq, st⟩
  refine enter [.slice (some ⟨b, 0, none⟩) L.length c, .func (.func F) #[] cap] Tryz.func142 rfl Tryz.ntmps142 rfl ?_
  show WC _ _ _ 42 [] [(0, .slice (some ⟨b, 0, none⟩) L.length c), (1, .func (.func F) #[] cap)] _
  refine WC.seq fun K187 hK187 => ?_
  -- region 0
  refine WC.region ?_
  -- R0.0 4 := slices.go:241 assign
  refine WL.v (by first | exact r_assign (v := .slice _ _ _) rfl | exact r_assign rfl) rfl rfl rfl ?_
  refine WL.fin hK187 (fun _ _ h => h) ?_
  refine WC.seq fun K188 hK188 => ?_
  -- region 1
  refine WC.region ?_
  -- R1.0 8 := slices.go:242 move
  refine WL.v (by first | exact r_move (v := .slice _ _ _) rfl | exact r_move rfl) rfl rfl rfl ?_
  -- R1.1 9 := slices.go:242 move
  refine WL.v (by first | exact r_move (v := .func _ _ _) rfl | exact r_move (v := .nilFunc) rfl | exact r_move rfl) rfl rfl rfl ?_
  -- R1.2 10 := slices.go:242 call
  refine WL.call (r_call ty_call164 rfl) rfl rfl rfl (ixFT_ok hcall hq (fun x hx => List.mem_append_left _ hx) (fun q w hm st => hF _ q w hm st) st) ?_
  rintro _ w ⟨h | ⟨i0, q0, hi0, hp0, hno, rfl⟩, st⟩
  · exact absurd h.1 hall
  have hi0l : i0 < L.length := (List.getElem?_eq_some_iff.1 hi0).1
  have hstart : (L.take (i0 + 1)).filter (fun x => !p x) = L.take i0 := by
    rw [fltT hi0, hp0]
    refine (List.append_nil _).trans (List.filter_eq_self.2 fun x hx => ?_)
    obtain ⟨k, hk, rfl⟩ := List.mem_take_iff_getElem.1 hx
    rw [hno k _ (by omega) (List.getElem?_eq_getElem _)]; rfl
  -- R1.3 5 := slices.go:242 assign
  refine WL.v (by first | exact r_assign (v := .int _ _) rfl | exact r_assign rfl) rfl rfl rfl ?_
  refine WL.fin hK188 (fun _ _ h => h) ?_
  refine WC.seq fun K189 hK189 => ?_
  refine WC.seq fun K190 hK190 => ?_
  -- region 2
  refine WC.region ?_
  -- R2.0 11 := slices.go:243 move
  refine WL.v (by first | exact r_move (v := .int _ _) rfl | exact r_move rfl) rfl rfl rfl ?_
  -- R2.1 12 := slices.go:243 binOp
  refine WL.v (by first | exact r_eql rfl rfl (decide_eq_true (by omega)) | exact r_eql rfl rfl (decide_eq_false (by omega)) | exact r_eql rfl rfl rfl) rfl rfl rfl ?_
  refine WL.fin hK190 (fun _ _ h => h) ?_
  refine WC.condF rfl rfl ?_
  refine WC.skipF hK189 (fun _ _ h => h) ?_
  refine WC.seq fun K191 hK191 => ?_
  refine WC.seq fun K192 hK192 => ?_
  -- region 4
  refine WC.region ?_
  -- R4.0 14 := slices.go:247 move
  refine WL.v (by first | exact r_move (v := .int _ _) rfl | exact r_move rfl) rfl rfl rfl ?_
  -- R4.1 15 := slices.go:247 binOp
  refine WL.v (by first | exact r_add rfl rfl (wi64 (by omega) (by omega)) | exact r_add rfl rfl rfl) rfl rfl rfl ?_
  -- R4.2 6 := slices.go:247 assign
  refine WL.v (by first | exact r_assign (v := .int _ _) rfl | exact r_assign rfl) rfl rfl rfl ?_
  refine WL.fin hK192 (fun _ _ h => h) ?_
  refine WC.block ?_
  refine WC.loop (ι := Nat × Nat × (Nat → Value)) (fun y => [(0, .slice (some ⟨b, 0, none⟩) L.length c), (1, .func (.func F) #[] cap), (5, .int .i64 (y.1 : Nat)), (6, .int .i64 (y.2.1 : Nat))])
    (fun y w' => y.1 < y.2.1 ∧ y.2.1 ≤ L.length ∧ y.1 = ((L.take y.2.1).filter fun x => !p x).length ∧ (∀ k x, ((L.take y.2.1).filter fun x => !p x)[k]? = some x → ∀ j, j < 3 → y.2.2 (k * 3 + j) = tE x j) ∧
      (∀ k x, y.2.1 ≤ k → L[k]? = some x → ∀ j, j < 3 → y.2.2 (k * 3 + j) = tE x j) ∧ S0 w0 ((b, Row 164 (c * 3) y.2.2) :: l) w') (fun y => L.length - y.2.1) (i0, i0 + 1, f0)
    ⟨Nat.lt_succ_self _, hi0l, by rw [hstart, List.length_take]; omega, fun k x hx => hf0 k x (by rw [hstart] at hx; rw [List.getElem?_take] at hx; split at hx; exact hx; cases hx), fun k x _ hx => hf0 k x hx, st⟩ ?_ ?_
  · skip
    repeat (first | exact sub_nil _ | refine sub_cons rfl rfl ?_)
  rintro ⟨i, j, f⟩ w ⟨hij, hj, hil, hfi, hfj, st⟩ K1 hK1
  dsimp only at hij hj hil hfi hfj st ⊢
  by_cases hjl : j = L.length
  · subst hjl
    rw [List.take_length] at hil hfi
    refine WC.seq fun K193 hK193 => ?_
    refine WC.seq fun K194 hK194 => ?_
    -- region 5
    refine WC.region ?_
    -- R5.0 16 := slices.go:247 move
    refine WL.v (by first | exact r_move (v := .int _ _) rfl | exact r_move rfl) rfl rfl rfl ?_
    -- R5.1 17 := slices.go:247 move
    refine WL.v (by first | exact r_move (v := .slice _ _ _) rfl | exact r_move rfl) rfl rfl rfl ?_
    -- R5.2 18 := slices.go:247 call
    refine WL.v (by exact r_len ty_usl145 rfl) rfl rfl rfl ?_
    -- R5.3 19 := slices.go:247 binOp
    refine WL.v (by first | exact r_lss rfl rfl (decide_eq_true (by omega)) | exact r_lss rfl rfl (decide_eq_false (by omega)) | exact r_lss rfl rfl rfl) rfl rfl rfl ?_
    refine WL.fin hK194 (fun _ _ h => h) ?_
    refine WC.condF rfl rfl ?_
    refine WC.exitF hK191 (fun _ _ h => h) ?_
    refine WC.seq fun K195 hK195 => ?_
    -- region 11
    refine WC.region ?_
    -- R11.0 36 := slices.go:253 move
    refine WL.v (by first | exact r_move (v := .slice _ _ _) rfl | exact r_move rfl) rfl rfl rfl ?_
    -- R11.1 37 := slices.go:253 move
    refine WL.v (by first | exact r_move (v := .int _ _) rfl | exact r_move rfl) rfl rfl rfl ?_
    -- R11.2 38 := slices.go:253 slice
    refine WL.v (by exact r_slS (l := i) (h := L.length) (m := c) ty_sl145 rfl ⟨_, rfl⟩ rfl rfl (fun _ => rfl) (by omega) (by omega) (by omega) (by omega)) rfl rfl rfl ?_
    -- R11.3 None := slices.go:253 call
    refine WL.clear (k := L.length - i) (N := c * 3) st ty_sl145 ty_zero164 rfl (by decide) (by omega) (by decide) rfl (by omega) rfl rfl ?_
    intro w st
    refine WL.fin hK195 (fun _ _ h => h) ?_
    refine WC.seq fun K196 hK196 => ?_
    -- region 12
    refine WC.region ?_
    -- R12.0 39 := slices.go:254 move
    refine WL.v (by first | exact r_move (v := .slice _ _ _) rfl | exact r_move rfl) rfl rfl rfl ?_
    -- R12.1 40 := slices.go:254 move
    refine WL.v (by first | exact r_move (v := .int _ _) rfl | exact r_move rfl) rfl rfl rfl ?_
    -- R12.2 41 := slices.go:254 slice
    refine WL.v (by exact r_slS (l := 0) (h := i) (m := c) ty_sl145 rfl rfl ⟨_, rfl⟩ rfl (fun h => by cases h) (by omega) (by omega) (by omega) (by omega)) rfl rfl rfl ?_
    -- R12.3 4 := slices.go:254 assign
    refine WL.v (by first | exact r_assign (v := .slice _ _ _) rfl | exact r_assign rfl) rfl rfl rfl ?_
    refine WL.fin hK196 (fun _ _ h => h) ?_
    refine WC.ret1 Tryz.results142 (fun _ _ h => h) rfl ?_
    refine ⟨_, rfl, [_], ?_, st⟩
    rw [hil]
    refine LO.of (by rw [← hil]; omega) hc2 fun k x hx m hm => ?_
    have hk : k < ((L.filter fun x => !p x)).length := (List.getElem?_eq_some_iff.1 hx).1
    rw [upds_eq, if_neg (by omega)]
    exact hfi k x hx m hm
  have hjl' : j < L.length := by omega
  obtain ⟨q, hqi⟩ : ∃ q, L[j]? = some q := ⟨L[j], List.getElem?_eq_getElem hjl'⟩
  have hqm : q ∈ L := List.mem_of_getElem? hqi
  have hfl := fltT (p := p) hqi
  have hce : ∀ m, m < 3 → w.cell? ⟨b, 0 + j * 3 + m, none⟩ = some (tE q m) := fun m hm => by rw [st.c0 (by omega), Nat.zero_add, hfj j q (Nat.le_refl _) hqi m hm]
  rcases Bool.eq_false_or_eq_true (p q) with hp | hp
  · rw [hp] at hfl
    have hfl : (L.take (j + 1)).filter (fun x => !p x) = (L.take j).filter (fun x => !p x) := hfl.trans (List.append_nil _)
    refine WC.seq fun K197 hK197 => ?_
    refine WC.seq fun K198 hK198 => ?_
    -- region 5
    refine WC.region ?_
    -- R5.0 16 := slices.go:247 move
    refine WL.v (by first | exact r_move (v := .int _ _) rfl | exact r_move rfl) rfl rfl rfl ?_
    -- R5.1 17 := slices.go:247 move
    refine WL.v (by first | exact r_move (v := .slice _ _ _) rfl | exact r_move rfl) rfl rfl rfl ?_
    -- R5.2 18 := slices.go:247 call
    refine WL.v (by exact r_len ty_usl145 rfl) rfl rfl rfl ?_
    -- R5.3 19 := slices.go:247 binOp
    refine WL.v (by first | exact r_lss rfl rfl (decide_eq_true (by omega)) | exact r_lss rfl rfl (decide_eq_false (by omega)) | exact r_lss rfl rfl rfl) rfl rfl rfl ?_
    refine WL.fin hK198 (fun _ _ h => h) ?_
    refine WC.condT rfl rfl ?_
    refine WC.skipF hK197 (fun _ _ h => h) ?_
    refine WC.seq fun K199 hK199 => ?_
    refine WC.block ?_
    refine WC.seq fun K200 hK200 => ?_
    -- region 7
    refine WC.region ?_
    -- R7.0 22 := slices.go:248 move
    refine WL.v (by first | exact r_move (v := .slice _ _ _) rfl | exact r_move rfl) rfl rfl rfl ?_
    -- R7.1 23 := slices.go:248 move
    refine WL.v (by first | exact r_move (v := .int _ _) rfl | exact r_move rfl) rfl rfl rfl ?_
    -- R7.2 24 := slices.go:248 indexAddr
    refine WL.v (by exact r_indexS (j := j) ty_sl145 rfl rfl rfl (by omega)) rfl rfl rfl ?_
    -- R7.3 25 := slices.go:248 load
    refine WL.v (by exact r_loadL (vs := [.int .u64 (q.1 : Nat), .int .u64 (q.2.1 : Nat), .int .u64 (q.2.2 : Nat)]) ty_agg164 rfl ⟨hce 0 (by decide), hce 1 (by decide), hce 2 (by decide), trivial⟩) rfl rfl rfl ?_
    -- R7.4 7 := slices.go:248 alloc
    refine WL.alloc (m := 3) st ty_zero164 rfl rfl rfl ?_
    intro b7 w st
    -- R7.5 None := slices.go:248 store
    first | refine WL.storeW (vs := [_, _, _]) st ty_agg164 rfl rfl rfl rfl rfl rfl ?_ | refine WL.storeL (vs := [_, _, _]) st ty_agg164 rfl rfl rfl rfl (by first | decide | omega) rfl rfl ?_ | refine WL.storeW (vs := [_, _, _]) st.front1 ty_agg164 rfl rfl rfl rfl rfl rfl ?_ | refine WL.storeL (vs := [_, _, _]) st.front1 ty_agg164 rfl rfl rfl rfl (by first | decide | omega) rfl rfl ?_ | refine WL.storeW (vs := [_, _, _]) st.front2 ty_agg164 rfl rfl rfl rfl rfl rfl ?_ | refine WL.storeL (vs := [_, _, _]) st.front2 ty_agg164 rfl rfl rfl rfl (by first | decide | omega) rfl rfl ?_ | refine WL.storeW (vs := [_, _, _]) st.front3 ty_agg164 rfl rfl rfl rfl rfl rfl ?_ | refine WL.storeL (vs := [_, _, _]) st.front3 ty_agg164 rfl rfl rfl rfl (by first | decide | omega) rfl rfl ?_ | refine WL.storeW (vs := [_, _, _]) st.front4 ty_agg164 rfl rfl rfl rfl rfl rfl ?_ | refine WL.storeL (vs := [_, _, _]) st.front4 ty_agg164 rfl rfl rfl rfl (by first | decide | omega) rfl rfl ?_ | refine WL.storeW (vs := [_, _, _]) st.front5 ty_agg164 rfl rfl rfl rfl rfl rfl ?_ | refine WL.storeL (vs := [_, _, _]) st.front5 ty_agg164 rfl rfl rfl rfl (by first | decide | omega) rfl rfl ?_ | refine WL.storeW (vs := [_, _, _]) st.front6 ty_agg164 rfl rfl rfl rfl rfl rfl ?_ | refine WL.storeL (vs := [_, _, _]) st.front6 ty_agg164 rfl rfl rfl rfl (by first | decide | omega) rfl rfl ?_ | refine WL.storeW (vs := [_, _, _]) st.front7 ty_agg164 rfl rfl rfl rfl rfl rfl ?_ | refine WL.storeL (vs := [_, _, _]) st.front7 ty_agg164 rfl rfl rfl rfl (by first | decide | omega) rfl rfl ?_ | refine WL.storeW (vs := [_, _, _]) st.front8 ty_agg164 rfl rfl rfl rfl rfl rfl ?_ | refine WL.storeL (vs := [_, _, _]) st.front8 ty_agg164 rfl rfl rfl rfl (by first | decide | omega) rfl rfl ?_
    intro w st
    refine WL.fin hK200 (fun _ _ h => h) ?_
    refine WC.seq fun K201 hK201 => ?_
    -- region 8
    refine WC.region ?_
    -- R8.0 26 := slices.go:248 move
    refine WL.v (by first | exact r_move (v := .func _ _ _) rfl | exact r_move (v := .nilFunc) rfl | exact r_move rfl) rfl rfl rfl ?_
    -- R8.1 27 := slices.go:248 load
    refine WL.v (by exact r_loadL (vs := [_, _, _]) ty_agg164 rfl ⟨(by first | assumption | exact st.c0 (by first | decide | omega) | exact st.c1 (by first | decide | omega) | exact st.c2 (by first | decide | omega) | exact st.c3 (by first | decide | omega) | exact st.c4 (by first | decide | omega) | exact st.c5 (by first | decide | omega) | exact st.c6 (by first | decide | omega) | exact st.c7 (by first | decide | omega) | exact st.c8 (by first | decide | omega)), (by first | assumption | exact st.c0 (by first | decide | omega) | exact st.c1 (by first | decide | omega) | exact st.c2 (by first | decide | omega) | exact st.c3 (by first | decide | omega) | exact st.c4 (by first | decide | omega) | exact st.c5 (by first | decide | omega) | exact st.c6 (by first | decide | omega) | exact st.c7 (by first | decide | omega) | exact st.c8 (by first | decide | omega)), (by first | assumption | exact st.c0 (by first | decide | omega) | exact st.c1 (by first | decide | omega) | exact st.c2 (by first | decide | omega) | exact st.c3 (by first | decide | omega) | exact st.c4 (by first | decide | omega) | exact st.c5 (by first | decide | omega) | exact st.c6 (by first | decide | omega) | exact st.c7 (by first | decide | omega) | exact st.c8 (by first | decide | omega)), trivial⟩) rfl rfl rfl ?_
    -- R8.2 28 := slices.go:248 call
    refine WL.call (r_callv hcall rfl rfl) rfl rfl rfl (hF [_, _] q w hqm st) ?_
    rintro _ w ⟨he, st⟩
    rw [hp] at he
    subst he
    have st : S0 w0 _ w := st
    -- R8.3 29 := slices.go:248 unOp
    refine WL.v (by first | exact r_notT rfl | exact r_notF rfl | exact r_not rfl) rfl rfl rfl ?_
    refine WL.fin hK201 (fun _ _ h => h) ?_
    refine WC.condF rfl rfl ?_
    refine WC.skipF hK199 (fun _ _ h => h) ?_
    -- region 6
    refine WC.region ?_
    -- R6.0 20 := slices.go:247 move
    refine WL.v (by first | exact r_move (v := .int _ _) rfl | exact r_move rfl) rfl rfl rfl ?_
    -- R6.1 21 := slices.go:247 binOp
    refine WL.v (by first | exact r_add rfl rfl (wi64 (by omega) (by omega)) | exact r_add rfl rfl rfl) rfl rfl rfl ?_
    -- R6.2 6 := slices.go:247 assign
    refine WL.v (by first | exact r_assign (v := .int _ _) rfl | exact r_assign rfl) rfl rfl rfl ?_
    refine WL.next hK1 (fun _ _ h => h) (i, j + 1, f) ⟨by show i < j + 1; omega, hjl', by rw [hfl]; exact hil, by rw [hfl]; exact hfi, fun k x hk hx => hfj k x (by have : j + 1 ≤ k := hk; omega) hx, st.drop⟩ (by show L.length - (j + 1) < L.length - j; omega) (by repeat (first | exact sub_nil _ | refine sub_cons rfl rfl ?_))
  · rw [hp] at hfl
    have hfl : (L.take (j + 1)).filter (fun x => !p x) = (L.take j).filter (fun x => !p x) ++ [q] := hfl
    have hA : ∀ k x, ((L.take (j + 1)).filter fun x => !p x)[k]? = some x → ∀ m, m < 3 → upds f (0 + i * 3) 3 (nth [.int .u64 (q.1 : Nat), .int .u64 (q.2.1 : Nat), .int .u64 (q.2.2 : Nat)]) (k * 3 + m) = tE x m := fun k x hx m hm => by
      rw [hfl] at hx
      have hk := (List.getElem?_eq_some_iff.1 hx).1
      rw [List.length_append, ← hil] at hk
      have hk : k < i + 1 := hk
      by_cases h1 : k < i
      · rw [List.getElem?_append_left (by omega)] at hx
        rw [upds_eq, if_neg (by omega)]
        exact hfi k x hx m hm
      · obtain rfl : k = i := by omega
        rw [List.getElem?_append_right (by omega), ← hil, Nat.sub_self] at hx
        cases hx
        rw [upds_eq, if_pos (by omega), show k * 3 + m - (0 + k * 3) = m by omega]
        rfl
    have hB : ∀ k x, j + 1 ≤ k → L[k]? = some x → ∀ m, m < 3 → upds f (0 + i * 3) 3 (nth [.int .u64 (q.1 : Nat), .int .u64 (q.2.1 : Nat), .int .u64 (q.2.2 : Nat)]) (k * 3 + m) = tE x m := fun k x hk hx m hm => by
      rw [upds_eq, if_neg (by omega)]
      exact hfj k x (by omega) hx m hm
    refine WC.seq fun K202 hK202 => ?_
    refine WC.seq fun K203 hK203 => ?_
    -- region 5
    refine WC.region ?_
    -- R5.0 16 := slices.go:247 move
    refine WL.v (by first | exact r_move (v := .int _ _) rfl | exact r_move rfl) rfl rfl rfl ?_
    -- R5.1 17 := slices.go:247 move
    refine WL.v (by first | exact r_move (v := .slice _ _ _) rfl | exact r_move rfl) rfl rfl rfl ?_
    -- R5.2 18 := slices.go:247 call
    refine WL.v (by exact r_len ty_usl145 rfl) rfl rfl rfl ?_
    -- R5.3 19 := slices.go:247 binOp
    refine WL.v (by first | exact r_lss rfl rfl (decide_eq_true (by omega)) | exact r_lss rfl rfl (decide_eq_false (by omega)) | exact r_lss rfl rfl rfl) rfl rfl rfl ?_
    refine WL.fin hK203 (fun _ _ h => h) ?_
    refine WC.condT rfl rfl ?_
    refine WC.skipF hK202 (fun _ _ h => h) ?_
    refine WC.seq fun K204 hK204 => ?_
    refine WC.block ?_
    refine WC.seq fun K205 hK205 => ?_
    -- region 7
    refine WC.region ?_
    -- R7.0 22 := slices.go:248 move
    refine WL.v (by first | exact r_move (v := .slice _ _ _) rfl | exact r_move rfl) rfl rfl rfl ?_
    -- R7.1 23 := slices.go:248 move
    refine WL.v (by first | exact r_move (v := .int _ _) rfl | exact r_move rfl) rfl rfl rfl ?_
    -- R7.2 24 := slices.go:248 indexAddr
    refine WL.v (by exact r_indexS (j := j) ty_sl145 rfl rfl rfl (by omega)) rfl rfl rfl ?_
    -- R7.3 25 := slices.go:248 load
    refine WL.v (by exact r_loadL (vs := [.int .u64 (q.1 : Nat), .int .u64 (q.2.1 : Nat), .int .u64 (q.2.2 : Nat)]) ty_agg164 rfl ⟨hce 0 (by decide), hce 1 (by decide), hce 2 (by decide), trivial⟩) rfl rfl rfl ?_
    -- R7.4 7 := slices.go:248 alloc
    refine WL.alloc (m := 3) st ty_zero164 rfl rfl rfl ?_
    intro b7 w st
    -- R7.5 None := slices.go:248 store
    first | refine WL.storeW (vs := [_, _, _]) st ty_agg164 rfl rfl rfl rfl rfl rfl ?_ | refine WL.storeL (vs := [_, _, _]) st ty_agg164 rfl rfl rfl rfl (by first | decide | omega) rfl rfl ?_ | refine WL.storeW (vs := [_, _, _]) st.front1 ty_agg164 rfl rfl rfl rfl rfl rfl ?_ | refine WL.storeL (vs := [_, _, _]) st.front1 ty_agg164 rfl rfl rfl rfl (by first | decide | omega) rfl rfl ?_ | refine WL.storeW (vs := [_, _, _]) st.front2 ty_agg164 rfl rfl rfl rfl rfl rfl ?_ | refine WL.storeL (vs := [_, _, _]) st.front2 ty_agg164 rfl rfl rfl rfl (by first | decide | omega) rfl rfl ?_ | refine WL.storeW (vs := [_, _, _]) st.front3 ty_agg164 rfl rfl rfl rfl rfl rfl ?_ | refine WL.storeL (vs := [_, _, _]) st.front3 ty_agg164 rfl rfl rfl rfl (by first | decide | omega) rfl rfl ?_ | refine WL.storeW (vs := [_, _, _]) st.front4 ty_agg164 rfl rfl rfl rfl rfl rfl ?_ | refine WL.storeL (vs := [_, _, _]) st.front4 ty_agg164 rfl rfl rfl rfl (by first | decide | omega) rfl rfl ?_ | refine WL.storeW (vs := [_, _, _]) st.front5 ty_agg164 rfl rfl rfl rfl rfl rfl ?_ | refine WL.storeL (vs := [_, _, _]) st.front5 ty_agg164 rfl rfl rfl rfl (by first | decide | omega) rfl rfl ?_ | refine WL.storeW (vs := [_, _, _]) st.front6 ty_agg164 rfl rfl rfl rfl rfl rfl ?_ | refine WL.storeL (vs := [_, _, _]) st.front6 ty_agg164 rfl rfl rfl rfl (by first | decide | omega) rfl rfl ?_ | refine WL.storeW (vs := [_, _, _]) st.front7 ty_agg164 rfl rfl rfl rfl rfl rfl ?_ | refine WL.storeL (vs := [_, _, _]) st.front7 ty_agg164 rfl rfl rfl rfl (by first | decide | omega) rfl rfl ?_ | refine WL.storeW (vs := [_, _, _]) st.front8 ty_agg164 rfl rfl rfl rfl rfl rfl ?_ | refine WL.storeL (vs := [_, _, _]) st.front8 ty_agg164 rfl rfl rfl rfl (by first | decide | omega) rfl rfl ?_
    intro w st
    refine WL.fin hK205 (fun _ _ h => h) ?_
    refine WC.seq fun K206 hK206 => ?_
    -- region 8
    refine WC.region ?_
    -- R8.0 26 := slices.go:248 move
    refine WL.v (by first | exact r_move (v := .func _ _ _) rfl | exact r_move (v := .nilFunc) rfl | exact r_move rfl) rfl rfl rfl ?_
    -- R8.1 27 := slices.go:248 load
    refine WL.v (by exact r_loadL (vs := [_, _, _]) ty_agg164 rfl ⟨(by first | assumption | exact st.c0 (by first | decide | omega) | exact st.c1 (by first | decide | omega) | exact st.c2 (by first | decide | omega) | exact st.c3 (by first | decide | omega) | exact st.c4 (by first | decide | omega) | exact st.c5 (by first | decide | omega) | exact st.c6 (by first | decide | omega) | exact st.c7 (by first | decide | omega) | exact st.c8 (by first | decide | omega)), (by first | assumption | exact st.c0 (by first | decide | omega) | exact st.c1 (by first | decide | omega) | exact st.c2 (by first | decide | omega) | exact st.c3 (by first | decide | omega) | exact st.c4 (by first | decide | omega) | exact st.c5 (by first | decide | omega) | exact st.c6 (by first | decide | omega) | exact st.c7 (by first | decide | omega) | exact st.c8 (by first | decide | omega)), (by first | assumption | exact st.c0 (by first | decide | omega) | exact st.c1 (by first | decide | omega) | exact st.c2 (by first | decide | omega) | exact st.c3 (by first | decide | omega) | exact st.c4 (by first | decide | omega) | exact st.c5 (by first | decide | omega) | exact st.c6 (by first | decide | omega) | exact st.c7 (by first | decide | omega) | exact st.c8 (by first | decide | omega)), trivial⟩) rfl rfl rfl ?_
    -- R8.2 28 := slices.go:248 call
    refine WL.call (r_callv hcall rfl rfl) rfl rfl rfl (hF [_, _] q w hqm st) ?_
    rintro _ w ⟨he, st⟩
    rw [hp] at he
    subst he
    have st : S0 w0 _ w := st
    -- R8.3 29 := slices.go:248 unOp
    refine WL.v (by first | exact r_notT rfl | exact r_notF rfl | exact r_not rfl) rfl rfl rfl ?_
    refine WL.fin hK206 (fun _ _ h => h) ?_
    refine WC.condT rfl rfl ?_
    refine WC.seq fun K207 hK207 => ?_
    -- region 9
    refine WC.region ?_
    -- R9.0 30 := slices.go:249 move
    refine WL.v (by first | exact r_move (v := .slice _ _ _) rfl | exact r_move rfl) rfl rfl rfl ?_
    -- R9.1 31 := slices.go:249 move
    refine WL.v (by first | exact r_move (v := .int _ _) rfl | exact r_move rfl) rfl rfl rfl ?_
    -- R9.2 32 := slices.go:249 load
    refine WL.v (by exact r_loadL (vs := [_, _, _]) ty_agg164 rfl ⟨(by first | assumption | exact st.c0 (by first | decide | omega) | exact st.c1 (by first | decide | omega) | exact st.c2 (by first | decide | omega) | exact st.c3 (by first | decide | omega) | exact st.c4 (by first | decide | omega) | exact st.c5 (by first | decide | omega) | exact st.c6 (by first | decide | omega) | exact st.c7 (by first | decide | omega) | exact st.c8 (by first | decide | omega)), (by first | assumption | exact st.c0 (by first | decide | omega) | exact st.c1 (by first | decide | omega) | exact st.c2 (by first | decide | omega) | exact st.c3 (by first | decide | omega) | exact st.c4 (by first | decide | omega) | exact st.c5 (by first | decide | omega) | exact st.c6 (by first | decide | omega) | exact st.c7 (by first | decide | omega) | exact st.c8 (by first | decide | omega)), (by first | assumption | exact st.c0 (by first | decide | omega) | exact st.c1 (by first | decide | omega) | exact st.c2 (by first | decide | omega) | exact st.c3 (by first | decide | omega) | exact st.c4 (by first | decide | omega) | exact st.c5 (by first | decide | omega) | exact st.c6 (by first | decide | omega) | exact st.c7 (by first | decide | omega) | exact st.c8 (by first | decide | omega)), trivial⟩) rfl rfl rfl ?_
    -- R9.3 33 := slices.go:249 indexAddr
    refine WL.v (by exact r_indexS (j := i) ty_sl145 rfl rfl rfl (by omega)) rfl rfl rfl ?_
    -- R9.4 None := slices.go:249 store
    first | refine WL.storeW (vs := [_, _, _]) st ty_agg164 rfl rfl rfl rfl rfl rfl ?_ | refine WL.storeL (vs := [_, _, _]) st ty_agg164 rfl rfl rfl rfl (by first | decide | omega) rfl rfl ?_ | refine WL.storeW (vs := [_, _, _]) st.front1 ty_agg164 rfl rfl rfl rfl rfl rfl ?_ | refine WL.storeL (vs := [_, _, _]) st.front1 ty_agg164 rfl rfl rfl rfl (by first | decide | omega) rfl rfl ?_ | refine WL.storeW (vs := [_, _, _]) st.front2 ty_agg164 rfl rfl rfl rfl rfl rfl ?_ | refine WL.storeL (vs := [_, _, _]) st.front2 ty_agg164 rfl rfl rfl rfl (by first | decide | omega) rfl rfl ?_ | refine WL.storeW (vs := [_, _, _]) st.front3 ty_agg164 rfl rfl rfl rfl rfl rfl ?_ | refine WL.storeL (vs := [_, _, _]) st.front3 ty_agg164 rfl rfl rfl rfl (by first | decide | omega) rfl rfl ?_ | refine WL.storeW (vs := [_, _, _]) st.front4 ty_agg164 rfl rfl rfl rfl rfl rfl ?_ | refine WL.storeL (vs := [_, _, _]) st.front4 ty_agg164 rfl rfl rfl rfl (by first | decide | omega) rfl rfl ?_ | refine WL.storeW (vs := [_, _, _]) st.front5 ty_agg164 rfl rfl rfl rfl rfl rfl ?_ | refine WL.storeL (vs := [_, _, _]) st.front5 ty_agg164 rfl rfl rfl rfl (by first | decide | omega) rfl rfl ?_ | refine WL.storeW (vs := [_, _, _]) st.front6 ty_agg164 rfl rfl rfl rfl rfl rfl ?_ | refine WL.storeL (vs := [_, _, _]) st.front6 ty_agg164 rfl rfl rfl rfl (by first | decide | omega) rfl rfl ?_ | refine WL.storeW (vs := [_, _, _]) st.front7 ty_agg164 rfl rfl rfl rfl rfl rfl ?_ | refine WL.storeL (vs := [_, _, _]) st.front7 ty_agg164 rfl rfl rfl rfl (by first | decide | omega) rfl rfl ?_ | refine WL.storeW (vs := [_, _, _]) st.front8 ty_agg164 rfl rfl rfl rfl rfl rfl ?_ | refine WL.storeL (vs := [_, _, _]) st.front8 ty_agg164 rfl rfl rfl rfl (by first | decide | omega) rfl rfl ?_
    intro w st
    refine WL.fin hK207 (fun _ _ h => h) ?_
    -- region 10
    refine WC.region ?_
    -- R10.0 34 := slices.go:250 move
    refine WL.v (by first | exact r_move (v := .int _ _) rfl | exact r_move rfl) rfl rfl rfl ?_
    -- R10.1 35 := slices.go:250 binOp
    refine WL.v (by first | exact r_add rfl rfl (wi64 (by omega) (by omega)) | exact r_add rfl rfl rfl) rfl rfl rfl ?_
    -- R10.2 5 := slices.go:250 assign
    refine WL.v (by first | exact r_assign (v := .int _ _) rfl | exact r_assign rfl) rfl rfl rfl ?_
    refine WL.fin hK204 (fun _ _ h => h) ?_
    -- region 6
    refine WC.region ?_
    -- R6.0 20 := slices.go:247 move
    refine WL.v (by first | exact r_move (v := .int _ _) rfl | exact r_move rfl) rfl rfl rfl ?_
    -- R6.1 21 := slices.go:247 binOp
    refine WL.v (by first | exact r_add rfl rfl (wi64 (by omega) (by omega)) | exact r_add rfl rfl rfl) rfl rfl rfl ?_
    -- R6.2 6 := slices.go:247 assign
    refine WL.v (by first | exact r_assign (v := .int _ _) rfl | exact r_assign rfl) rfl rfl rfl ?_
    refine WL.next hK1 (fun _ _ h => h) (i + 1, j + 1, upds f (0 + i * 3) 3 (nth [.int .u64 (q.1 : Nat), .int .u64 (q.2.1 : Nat), .int .u64 (q.2.2 : Nat)])) ⟨by show i + 1 < j + 1; omega, hjl', by rw [hfl, List.length_append, ← hil]; rfl, hA, hB, st.drop1⟩ (by show L.length - (j + 1) < L.length - j; omega) (by repeat (first | exact sub_nil _ | refine sub_cons rfl rfl ?_))
end Go.Proofs.Qxb6500834aGreatDoor

