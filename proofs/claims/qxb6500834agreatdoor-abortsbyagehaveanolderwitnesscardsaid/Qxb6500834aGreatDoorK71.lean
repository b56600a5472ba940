import Derived.Test.Qxb6500834aGreatDoorK70
import Derived.Test.Qxb6500834aGreatDoorK68
set_option linter.unusedVariables false
set_option linter.unusedSimpArgs false
set_option maxRecDepth 20000
namespace Go.Proofs.Qxb6500834aGreatDoor
open Go.RowKit Go.E1 Go.Kern
theorem ty_ar89 : arT Tryz.prog 89 = some (16, 86, 16) := by kernel_rfl
theorem ty_zeroN89 : zeroL Tryz.prog 89 = some ((List.range 256).map fun _ => .bool false) := by kernel_rfl
variable {w0 : World} {l X : List HI} {w : World} {s s' s0 : KS} {t r N n : Nat} {qv qv' : Nat → Value}
variable {held claim : Nat → Nat → Nat} {queue : Nat → List (Nat × Nat)}

/-! Cycles, read off a flat state. -/
def gB (D : Nat → Nat → Bool) (i : Nat) : Value := .bool (D (i / 16) (i % 16))
theorem gB_set {D D' : Nat → Nat → Bool} {x y : Nat} {v : Bool} (hx : x < 16) (hy : y < 16) (h1 : D' x y = v) (h2 : ∀ a b, a < 16 → b < 16 → ¬ (a = x ∧ b = y) → D' a b = D a b) : ∀ k, k < 256 → upd (gB D) (0 + x * 16 + y * 1) (.bool v) k = gB D' k := fun k hk => by
  rw [upd_eq]
  unfold gB
  by_cases e : k = 0 + x * 16 + y * 1
  · rw [if_pos e, show k / 16 = x by omega, show k % 16 = y by omega, h1]
  · rw [if_neg e, h2 _ _ (by omega) (by omega) fun q => e (by omega)]
theorem c_gB {D : Nat → Nat → Bool} {b x y a : Nat} (hm : (b, Row 89 256 (gB D)) ∈ l) (hx : x < 16) (hy : y < 16) (ha : a = x * 16 + y) (st : S0 w0 l w) : w.cell? ⟨b, a, none⟩ = some (.bool (D x y)) := by
  rw [st.cell hm (by omega), ha]
  unfold gB
  rw [show (x * 16 + y) / 16 = x by omega, show (x * 16 + y) % 16 = y by omega]
def edB (held : Nat → Nat → Nat) (queue : Nat → List (Nat × Nat)) (x y : Nat) : Bool := match waitP queue x with | some p => decide (y < 16) && (decide (y ≠ x) && decide (0 < held y p.1)) | none => false
theorem edB_iff {x y : Nat} : edB held queue x y = true ↔ Ed held queue x y := by
  unfold edB Ed
  cases waitP queue x with
  | none => exact ⟨fun h => (by cases h), fun ⟨p, h, _⟩ => (by cases h)⟩
  | some p =>
    show (decide (y < 16) && (decide (y ≠ x) && decide (0 < held y p.1))) = true ↔ _
    rw [Bool.and_eq_true, Bool.and_eq_true, decide_eq_true_iff, decide_eq_true_iff, decide_eq_true_iff]
    exact ⟨fun h => ⟨p, rfl, h⟩, fun ⟨q, e, h⟩ => by cases e; exact h⟩
def RqI (held : Nat → Nat → Nat) (queue : Nat → List (Nat × Nat)) (r k : Nat) (D : Nat → Nat → Bool) : Prop := ∀ x y, x < 16 → y < 16 → (D x y = true ↔ y ≠ x ∧ ∃ r' q, (r' < r ∧ q ∈ queue r' ∨ r' = r ∧ q ∈ (queue r).take k) ∧ q.1 = x ∧ 0 < held y r')
def rqS (held : Nat → Nat → Nat) (r : Nat) (D : Nat → Nat → Bool) (q : Nat × Nat) : Nat → Nat → Bool := fun x y => if x = q.1 then decide (y ≠ q.1) && decide (0 < held y r) else D x y
def rqH (held : Nat → Nat → Nat) (r : Nat) (D : Nat → Nat → Bool) (q : Nat × Nat) (h : Nat) : Nat → Nat → Bool := fun x y => if x = q.1 ∧ y < h then decide (y ≠ q.1) && decide (0 < held y r) else D x y
theorem rqH_end {D : Nat → Nat → Bool} {q : Nat × Nat} : ∀ i, i < 256 → gB (rqH held r D q 16) i = gB (rqS held r D q) i := fun i hi => by
  unfold gB rqH rqS
  by_cases e : i / 16 = q.1
  · rw [if_pos ⟨e, by omega⟩, if_pos e]
  · rw [if_neg (fun k => e k.1), if_neg e]
theorem RqI.step {D : Nat → Nat → Bool} {k : Nat} {q : Nat × Nat} (ho : Once queue) (hr : r < 20) (hq : (queue r)[k]? = some q) (h : RqI held queue r k D) : RqI held queue r (k + 1) (rqS held r D q) := fun x y hx hy => by
  have hqm : q ∈ queue r := List.mem_of_getElem? hq
  have ht : (queue r).take (k + 1) = (queue r).take k ++ [q] := by rw [List.take_add_one, hq]; rfl
  unfold rqS
  by_cases e : x = q.1
  · rw [if_pos e, Bool.and_eq_true, decide_eq_true_iff, decide_eq_true_iff]
    constructor
    · rintro ⟨h1, h2⟩
      exact ⟨by rw [e]; exact h1, r, q, .inr ⟨rfl, by rw [ht]; simp⟩, e.symm, h2⟩
    · rintro ⟨h1, r', p, hp, hpx, hh⟩
      refine ⟨by rw [← e]; exact h1, ?_⟩
      have : r' = r := by
        rcases hp with ⟨h3, h4⟩ | ⟨h3, h4⟩
        · exact once_same ho (by omega) hr h4 hqm (by rw [hpx, e])
        · exact h3
      rw [← this]; exact hh
  · rw [if_neg e, h x y hx hy]
    refine and_congr_right fun _ => ⟨?_, ?_⟩
    · rintro ⟨r', p, hp, hpx, hh⟩
      refine ⟨r', p, ?_, hpx, hh⟩
      rcases hp with hp | hp
      · exact .inl hp
      · exact .inr ⟨hp.1, by rw [ht]; exact List.mem_append_left _ hp.2⟩
    · rintro ⟨r', p, hp, hpx, hh⟩
      refine ⟨r', p, ?_, hpx, hh⟩
      rcases hp with hp | ⟨h3, h4⟩
      · exact .inl hp
      · rw [ht] at h4
        rcases List.mem_append.1 h4 with h4 | h4
        · exact .inr ⟨h3, h4⟩
        · rw [List.mem_singleton.1 h4] at hpx; exact absurd hpx.symm e
theorem RqI.next {D : Nat → Nat → Bool} (h : RqI held queue r (queue r).length D) : RqI held queue (r + 1) 0 D := fun x y hx hy => by
  rw [h x y hx hy]
  refine and_congr_right fun _ => ⟨?_, ?_⟩
  · rintro ⟨r', p, hp, hpx, hh⟩
    refine ⟨r', p, .inl ?_, hpx, hh⟩
    rcases hp with hp | hp
    · exact ⟨by omega, hp.2⟩
    · rw [List.take_length] at hp; exact ⟨by omega, by rw [hp.1]; exact hp.2⟩
  · rintro ⟨r', p, hp, hpx, hh⟩
    refine ⟨r', p, ?_, hpx, hh⟩
    rcases hp with hp | hp
    · by_cases e : r' = r
      · exact .inr ⟨e, by rw [List.take_length, ← e]; exact hp.2⟩
      · exact .inl ⟨by omega, hp.2⟩
    · simp at hp
theorem RqI.full {D : Nat → Nat → Bool} (ho : Once queue) (h : RqI held queue 20 0 D) : ∀ x y, x < 16 → y < 16 → D x y = edB held queue x y := fun x y hx hy => by
  rw [Bool.eq_iff_iff, h x y hx hy, edB_iff]
  constructor
  · rintro ⟨h1, r', q, hp, hpx, hh⟩
    rcases hp with hp | hp
    · obtain ⟨u, hw, _⟩ := waitP_iff ho hp.1 hp.2
      rw [hpx] at hw
      exact ⟨_, hw, hy, h1, hh⟩
    · simp at hp
  · rintro ⟨p, hw, _, h1, hh⟩
    obtain ⟨g1, g2, g3⟩ := waitP_mem hw
    exact ⟨h1, p.1, p.2, .inl ⟨g1, g2⟩, g3, hh⟩
/-! In place. -/
def wsM (R : Nat → Nat → Bool) (v a b : Nat) : Nat → Nat → Bool := fun x y => if x < a ∨ (x = a ∧ y < b) then wsV R v x y else R x y
theorem wsM_col {R : Nat → Nat → Bool} {v a b x : Nat} : wsM R v a b x v = R x v := by
  unfold wsM wsV
  split
  · cases R x v <;> simp
  · rfl
theorem wsM_row {R : Nat → Nat → Bool} {v a b y : Nat} : wsM R v a b v y = R v y := by
  unfold wsM wsV
  split
  · cases R v y <;> simp
  · rfl
theorem wsM_here {R : Nat → Nat → Bool} {v a b : Nat} : wsM R v a b a b = R a b := by unfold wsM; rw [if_neg (by omega)]
theorem wsM_set {R : Nat → Nat → Bool} {v a b : Nat} {u : Bool} (ha : a < 16) (hb : b < 16) (hu : u = (R a b || (R a v && R v b))) : ∀ k, k < 256 → upd (gB (wsM R v a b)) (0 + a * 16 + b * 1) (.bool u) k = gB (wsM R v a (b + 1)) k := gB_set ha hb (by
  unfold wsM wsV
  rw [if_pos (by omega), hu]) fun x y hx hy hne => by
  unfold wsM
  by_cases h : x < a ∨ (x = a ∧ y < b)
  · rw [if_pos h, if_pos (by omega)]
  · rw [if_neg h, if_neg (by omega)]
theorem wsM_line {R : Nat → Nat → Bool} {v a : Nat} : ∀ k, k < 256 → gB (wsM R v a 16) k = gB (wsM R v (a + 1) 0) k := fun k hk => by
  unfold gB wsM
  by_cases h : k / 16 < a ∨ (k / 16 = a ∧ k % 16 < 16)
  · rw [if_pos h, if_pos (by omega)]
  · rw [if_neg h, if_neg (by omega)]
theorem wsM_zero {R : Nat → Nat → Bool} {v : Nat} : wsM R v 0 0 = R := by funext x y; unfold wsM; rw [if_neg (by omega)]
theorem wsM_end {R : Nat → Nat → Bool} {v : Nat} : ∀ k, k < 256 → gB (wsM R v 16 0) k = gB (wsV R v) k := fun k hk => by
  unfold gB wsM
  rw [if_pos (by omega)]
def cycM (held : Nat → Nat → Nat) (queue : Nat → List (Nat × Nat)) (n : Nat) : Nat := maskP (fun t => wsN (edB held queue) 16 t t) n
theorem cycM_bit (ht : t < 16) : (cycM held queue 16).testBit t = true ↔ Pt (Ed held queue) 16 t t := by
  unfold cycM
  rw [maskP_bit, Bool.and_eq_true, wsN_spec fun x y => edB_iff]
  exact ⟨fun h => h.2, fun h => ⟨decide_eq_true ht, h⟩⟩
set_option maxHeartbeats 8000000 in
theorem onCycleL_ok {b : Nat} (ho : Once s.queue) (hq16 : ∀ r p, p ∈ s.queue r → p.1 < 16) (hm : sI b s qv ∈ l) (hq : ∀ r, r < 20 → ∃ X, QL0 (qv r) (s.queue r) X ∧ X ⊆ l) (st : S0 w0 l w) :
    Calls Tryz.prog 26 #[.pointer (some ⟨b, 0, none⟩)] w (Ret fun v w' => v = .int .u16 (cycM s.held s.queue 16 : Nat) ∧ S0 w0 l w') := by
  refine enter [.pointer (some ⟨b, 0, none⟩)] Tryz.func26 rfl Tryz.ntmps26 rfl ?_
  show WC _ _ _ 102 [] [(0, .pointer (some ⟨b, 0, none⟩))] _
  refine WC.seq fun K2698 hK2698 => ?_
  -- region 0
  refine WC.region ?_
  -- R0.0 2 := graph.go:19 assign
  refine WL.v (by first | exact r_assign (v := .int _ _) rfl | exact r_assign rfl) rfl rfl rfl ?_
  refine WL.fin hK2698 (fun _ _ h => h) ?_
  refine WC.seq fun K2699 hK2699 => ?_
  -- region 1
  refine WC.region ?_
  -- R1.0 3 := graph.go:20 alloc
  refine WL.allocN (m := 256) st ty_zeroN89 rfl rfl ?_
  intro b3 w st
  refine WL.fin hK2699 (fun _ _ h => h) ?_
  refine WC.seq fun K2700 hK2700 => ?_
  refine WC.seq fun K2701 hK2701 => ?_
  -- region 2
  refine WC.region ?_
  -- R2.0 13 := graph.go:21 move
  refine WL.v (by first | exact r_move (v := .int _ _) rfl | exact r_move rfl) rfl rfl rfl ?_
  refine WL.fin hK2701 (fun _ _ h => h) ?_
  refine WC.block ?_
  have st : S0 w0 ((b3, Row 89 256 (gB (fun _ _ => false))) :: l) w := st
  refine WC.loop (ι := Nat × (Nat → Nat → Bool)) (fun y => [(0, .pointer (some ⟨b, 0, none⟩)), (3, .pointer (some ⟨b3, 0, none⟩)), (13, .int .i64 (y.1 : Nat))])
    (fun y w' => y.1 ≤ 20 ∧ RqI s.held s.queue y.1 0 y.2 ∧ S0 w0 ((b3, Row 89 256 (gB (y.2))) :: l) w') (fun y => 20 - y.1) (0, fun _ _ => false) ⟨Nat.zero_le _, fun x y _ _ => ⟨(fun k => by cases k), fun ⟨_, r', q, hp, _⟩ => by rcases hp with hp | hp <;> simp at hp⟩, st⟩ ?_ ?_
  · skip
    repeat (first | exact sub_nil _ | refine sub_cons rfl rfl ?_)
  clear st
  rintro ⟨r, D⟩ w ⟨hr, hR, st⟩ K1 hK1
  dsimp only at hr hR st ⊢
  by_cases h20 : r = 20
  rotate_left
  · have hr' : r < 20 := by omega
    obtain ⟨X1, hX1, hXs⟩ := hq r hr'
    obtain ⟨aq, cq, bq, hvq, hq1, hq2, hqa, hqcell⟩ := hX1.form
    refine WC.seq fun K2702 hK2702 => ?_
    -- region 3
    refine WC.region ?_
    -- R3.0 14 := graph.go:21 binOp
    refine WL.v (by first | exact r_lss rfl rfl (decide_eq_true (by omega)) | exact r_lss rfl rfl (decide_eq_false (by omega)) | exact r_lss rfl rfl rfl) rfl rfl rfl ?_
    refine WL.fin hK2702 (fun _ _ h => h) ?_
    refine WC.seq fun K2703 hK2703 => ?_
    refine WC.condT rfl rfl ?_
    refine WC.skipF hK2703 (fun _ _ h => h) ?_
    refine WC.seq fun K2704 hK2704 => ?_
    refine WC.block ?_
    refine WC.seq fun K2705 hK2705 => ?_
    -- region 4
    refine WC.region ?_
    -- R4.0 15 := graph.go:21 move
    refine WL.v (by first | exact r_move (v := .int _ _) rfl | exact r_move rfl) rfl rfl rfl ?_
    -- R4.1 4 := graph.go:21 assign
    refine WL.v (by first | exact r_assign (v := .int _ _) rfl | exact r_assign rfl) rfl rfl rfl ?_
    refine WL.fin hK2705 (fun _ _ h => h) ?_
    refine WC.seq fun K2706 hK2706 => ?_
    -- region 5
    refine WC.region ?_
    -- R5.0 16 := graph.go:22 move
    refine WL.v (by first | exact r_move (v := .pointer _) rfl | exact r_move rfl) rfl rfl rfl ?_
    -- R5.1 17 := graph.go:22 move
    refine WL.v (by first | exact r_move (v := .int _ _) rfl | exact r_move rfl) rfl rfl rfl ?_
    -- R5.2 18 := graph.go:22 nilCheck
    refine WL.v (by exact r_nilCheck rfl) rfl rfl rfl ?_
    -- R5.3 19 := graph.go:22 fieldAddr
    refine WL.v (by exact r_field ty_fld50_6 rfl) rfl rfl rfl ?_
    -- R5.4 20 := graph.go:22 indexAddr
    refine WL.v (by exact r_indexA (j := r) ty_ar47 rfl rfl rfl hr') rfl rfl rfl ?_
    -- R5.5 21 := graph.go:22 load
    refine WL.v (by exact r_load1 (v := .slice aq (s.queue r).length cq) ty_one46 rfl (by rw [← hvq]; exact c_sQ (List.mem_cons_of_mem _ hm) hr' (by omega) st)) rfl rfl rfl ?_
    -- R5.6 22 := graph.go:22 call
    refine WL.v (by exact r_len ty_usl46 rfl) rfl rfl rfl ?_
    -- R5.7 23 := graph.go:22 move
    refine WL.v (by first | exact r_move (v := .int _ _) rfl | exact r_move rfl) rfl rfl rfl ?_
    refine WL.fin hK2706 (fun _ _ h => h) ?_
    refine WC.block ?_
    refine WC.loop (ι := Nat × (Nat → Nat → Bool)) (fun y => [(0, .pointer (some ⟨b, 0, none⟩)), (3, .pointer (some ⟨b3, 0, none⟩)), (13, .int .i64 (r : Nat)), (4, .int .i64 (r : Nat)), (21, .slice aq (s.queue r).length cq), (22, .int .i64 ((s.queue r).length : Nat)), (23, .int .i64 (y.1 : Nat))])
      (fun y w' => y.1 ≤ (s.queue r).length ∧ RqI s.held s.queue r y.1 y.2 ∧ S0 w0 ((b3, Row 89 256 (gB (y.2))) :: l) w') (fun y => (s.queue r).length - y.1) (0, D) ⟨Nat.zero_le _, hR, st⟩ ?_ ?_
    · skip
      repeat (first | exact sub_nil _ | refine sub_cons rfl rfl ?_)
    clear st hR
    rintro ⟨k, D⟩ w ⟨hk, hR, st⟩ K2 hK2
    dsimp only at hk hR st ⊢
    by_cases hkl : k = (s.queue r).length
    · subst hkl
      refine WC.seq fun K2707 hK2707 => ?_
      -- region 6
      refine WC.region ?_
      -- R6.0 24 := graph.go:22 binOp
      refine WL.v (by first | exact r_lss rfl rfl (decide_eq_true (by omega)) | exact r_lss rfl rfl (decide_eq_false (by omega)) | exact r_lss rfl rfl rfl) rfl rfl rfl ?_
      refine WL.fin hK2707 (fun _ _ h => h) ?_
      refine WC.seq fun K2708 hK2708 => ?_
      refine WC.condF rfl rfl ?_
      refine WC.exitF hK2704 (fun _ _ h => h) ?_
      -- region 14
      refine WC.region ?_
      -- R14.0 52 := graph.go:21 binOp
      refine WL.v (by first | exact r_add rfl rfl (wi64 (by omega) (by omega)) | exact r_add rfl rfl rfl) rfl rfl rfl ?_
      -- R14.1 13 := graph.go:21 move
      refine WL.v (by first | exact r_move (v := .int _ _) rfl | exact r_move rfl) rfl rfl rfl ?_
      refine WL.next hK1 (fun _ _ h => h) (r + 1, D) ⟨hr', hR.next, st⟩ (by show 20 - (r + 1) < 20 - r; omega) (by repeat (first | exact sub_nil _ | refine sub_cons rfl rfl ?_))
    have hkl' : k < (s.queue r).length := by omega
    obtain ⟨q, he⟩ : ∃ e, (s.queue r)[k]? = some e := ⟨(s.queue r)[k], List.getElem?_eq_getElem hkl'⟩
    have hq16' := hq16 r q (List.mem_of_getElem? he)
    have hstep := hR.step ho hr' he
    have hae := hqa (by omega)
    have hce := fun j hj => hqcell st (fun x hx => List.mem_cons_of_mem _ (hXs hx)) k q he j hj
    refine WC.seq fun K2709 hK2709 => ?_
    -- region 6
    refine WC.region ?_
    -- R6.0 24 := graph.go:22 binOp
    refine WL.v (by first | exact r_lss rfl rfl (decide_eq_true (by omega)) | exact r_lss rfl rfl (decide_eq_false (by omega)) | exact r_lss rfl rfl rfl) rfl rfl rfl ?_
    refine WL.fin hK2709 (fun _ _ h => h) ?_
    refine WC.seq fun K2710 hK2710 => ?_
    refine WC.condT rfl rfl ?_
    refine WC.skipF hK2710 (fun _ _ h => h) ?_
    refine WC.seq fun K2711 hK2711 => ?_
    refine WC.block ?_
    refine WC.seq fun K2712 hK2712 => ?_
    -- region 7
    refine WC.region ?_
    -- R7.0 25 := graph.go:22 indexAddr
    refine WL.v (by exact r_indexS (j := k) ty_sl46 (congrArg (fun x => Value.slice x (s.queue r).length cq) hae) rfl rfl (by omega)) rfl rfl rfl ?_
    -- R7.1 26 := graph.go:22 load
    refine WL.v (by exact r_loadL (vs := [.int .i64 (q.1 : Nat), .int .i64 (q.2 : Nat)]) ty_agg61 rfl ⟨by rw [Nat.zero_add]; exact hce 0 (by decide), by rw [Nat.zero_add]; exact hce 1 (by decide), trivial⟩) rfl rfl rfl ?_
    -- R7.2 6 := graph.go:22 alloc
    refine WL.alloc (m := 2) st ty_zero61 rfl rfl rfl ?_
    intro b6 w st
    -- R7.3 None := graph.go:22 store
    first | refine WL.storeW (vs := [_, _]) st ty_agg61 rfl rfl rfl rfl rfl rfl ?_ | refine WL.storeL (vs := [_, _]) st ty_agg61 rfl rfl rfl rfl (by first | decide | omega) rfl rfl ?_ | refine WL.storeW (vs := [_, _]) st.front1 ty_agg61 rfl rfl rfl rfl rfl rfl ?_ | refine WL.storeL (vs := [_, _]) st.front1 ty_agg61 rfl rfl rfl rfl (by first | decide | omega) rfl rfl ?_ | refine WL.storeW (vs := [_, _]) st.front2 ty_agg61 rfl rfl rfl rfl rfl rfl ?_ | refine WL.storeL (vs := [_, _]) st.front2 ty_agg61 rfl rfl rfl rfl (by first | decide | omega) rfl rfl ?_ | refine WL.storeW (vs := [_, _]) st.front3 ty_agg61 rfl rfl rfl rfl rfl rfl ?_ | refine WL.storeL (vs := [_, _]) st.front3 ty_agg61 rfl rfl rfl rfl (by first | decide | omega) rfl rfl ?_ | refine WL.storeW (vs := [_, _]) st.front4 ty_agg61 rfl rfl rfl rfl rfl rfl ?_ | refine WL.storeL (vs := [_, _]) st.front4 ty_agg61 rfl rfl rfl rfl (by first | decide | omega) rfl rfl ?_ | refine WL.storeW (vs := [_, _]) st.front5 ty_agg61 rfl rfl rfl rfl rfl rfl ?_ | refine WL.storeL (vs := [_, _]) st.front5 ty_agg61 rfl rfl rfl rfl (by first | decide | omega) rfl rfl ?_ | refine WL.storeW (vs := [_, _]) st.front6 ty_agg61 rfl rfl rfl rfl rfl rfl ?_ | refine WL.storeL (vs := [_, _]) st.front6 ty_agg61 rfl rfl rfl rfl (by first | decide | omega) rfl rfl ?_ | refine WL.storeW (vs := [_, _]) st.front7 ty_agg61 rfl rfl rfl rfl rfl rfl ?_ | refine WL.storeL (vs := [_, _]) st.front7 ty_agg61 rfl rfl rfl rfl (by first | decide | omega) rfl rfl ?_ | refine WL.storeW (vs := [_, _]) st.front8 ty_agg61 rfl rfl rfl rfl rfl rfl ?_ | refine WL.storeL (vs := [_, _]) st.front8 ty_agg61 rfl rfl rfl rfl (by first | decide | omega) rfl rfl ?_
    intro w st
    refine WL.fin hK2712 (fun _ _ h => h) ?_
    refine WC.seq fun K2713 hK2713 => ?_
    -- region 8
    refine WC.region ?_
    -- R8.0 27 := graph.go:23 move
    refine WL.v (by first | exact r_move (v := .int _ _) rfl | exact r_move rfl) rfl rfl rfl ?_
    refine WL.fin hK2713 (fun _ _ h => h) ?_
    refine WC.block ?_
    have e0 : D = rqH s.held r D q 0 := by funext x y; unfold rqH; rw [if_neg (by omega)]
    have st : S0 w0 ((b3, Row 89 256 (gB (rqH s.held r D q 0))) :: (b6, Row 61 2 (nth [.int .i64 (q.1 : Nat), .int .i64 (q.2 : Nat)])) :: l) w := by rw [← e0]; exact st.front1
    refine WC.loop (ι := Nat) (fun h => [(0, .pointer (some ⟨b, 0, none⟩)), (3, .pointer (some ⟨b3, 0, none⟩)), (13, .int .i64 (r : Nat)), (4, .int .i64 (r : Nat)), (21, .slice aq (s.queue r).length cq), (22, .int .i64 ((s.queue r).length : Nat)), (23, .int .i64 (k : Nat)), (6, .pointer (some ⟨b6, 0, none⟩)), (27, .int .i64 (h : Nat))])
      (fun h w' => h ≤ 16 ∧ S0 w0 ((b3, Row 89 256 (gB (rqH s.held r D q h))) :: (b6, Row 61 2 (nth [.int .i64 (q.1 : Nat), .int .i64 (q.2 : Nat)])) :: l) w') (fun h => 16 - h) 0 ⟨Nat.zero_le _, st⟩ ?_ ?_
    · skip
      repeat (first | exact sub_nil _ | refine sub_cons rfl rfl ?_)
    clear st
    rintro h w ⟨hh, st⟩ K3 hK3
    by_cases h16 : h = 16
    · subst h16
      refine WC.seq fun K2714 hK2714 => ?_
      -- region 9
      refine WC.region ?_
      -- R9.0 28 := graph.go:23 binOp
      refine WL.v (by first | exact r_lss rfl rfl (decide_eq_true (by omega)) | exact r_lss rfl rfl (decide_eq_false (by omega)) | exact r_lss rfl rfl rfl) rfl rfl rfl ?_
      refine WL.fin hK2714 (fun _ _ h => h) ?_
      refine WC.seq fun K2715 hK2715 => ?_
      refine WC.condF rfl rfl ?_
      refine WC.exitF hK2711 (fun _ _ h => h) ?_
      -- region 13
      refine WC.region ?_
      -- R13.0 51 := graph.go:22 binOp
      refine WL.v (by first | exact r_add rfl rfl (wi64 (by omega) (by omega)) | exact r_add rfl rfl rfl) rfl rfl rfl ?_
      -- R13.1 23 := graph.go:22 move
      refine WL.v (by first | exact r_move (v := .int _ _) rfl | exact r_move rfl) rfl rfl rfl ?_
      refine WL.next hK2 (fun _ _ h => h) (k + 1, rqS s.held r D q) ⟨hkl', hstep, stE rqH_end st.drop1⟩ (by show (s.queue r).length - (k + 1) < (s.queue r).length - k; omega) (by repeat (first | exact sub_nil _ | refine sub_cons rfl rfl ?_))
    have hh' : h < 16 := by omega
    have hset : ∀ v, v = (decide (h ≠ q.1) && decide (0 < s.held h r)) → ∀ i, i < 256 → upd (gB (rqH s.held r D q h)) (0 + q.1 * 16 + h * 1) (.bool v) i = gB (rqH s.held r D q (h + 1)) i := fun v hv => gB_set hq16' hh' (by unfold rqH; rw [if_pos ⟨rfl, by omega⟩, hv]) fun x y hx hy hne => by
      unfold rqH
      by_cases e : x = q.1 ∧ y < h
      · rw [if_pos e, if_pos ⟨e.1, by omega⟩]
      · rw [if_neg e, if_neg (fun k => e ⟨k.1, by have := k.2; have : ¬ y = h := fun q => hne ⟨k.1, q⟩; omega⟩)]
    by_cases hne : h = q.1
    · skip
      refine WC.seq fun K2716 hK2716 => ?_
      -- region 9
      refine WC.region ?_
      -- R9.0 28 := graph.go:23 binOp
      refine WL.v (by first | exact r_lss rfl rfl (decide_eq_true (by omega)) | exact r_lss rfl rfl (decide_eq_false (by omega)) | exact r_lss rfl rfl rfl) rfl rfl rfl ?_
      refine WL.fin hK2716 (fun _ _ h => h) ?_
      refine WC.seq fun K2717 hK2717 => ?_
      refine WC.condT rfl rfl ?_
      refine WC.skipF hK2717 (fun _ _ h => h) ?_
      refine WC.seq fun K2718 hK2718 => ?_
      refine WC.block ?_
      refine WC.seq fun K2719 hK2719 => ?_
      -- region 10
      refine WC.region ?_
      -- R10.0 29 := graph.go:23 move
      refine WL.v (by first | exact r_move (v := .int _ _) rfl | exact r_move rfl) rfl rfl rfl ?_
      -- R10.1 7 := graph.go:23 assign
      refine WL.v (by first | exact r_assign (v := .int _ _) rfl | exact r_assign rfl) rfl rfl rfl ?_
      refine WL.fin hK2719 (fun _ _ h => h) ?_
      -- region 11 (draws)
      refine WC.tailS 20 st ty_mixed (by kernel_rfl) fun w st Kq hKq => ?_
      -- R11.0 30 := graph.go:24 fieldAddr
      refine SL.v (by exact r_field ty_fld61_0 rfl) rfl rfl rfl ?_
      -- R11.1 31 := graph.go:24 load
      refine SL.v (by exact r_load1 (v := .int .i64 (q.1 : Nat)) ty_one31 rfl (st.c1 (by decide))) rfl rfl rfl ?_
      -- R11.2 32 := graph.go:24 move
      refine SL.v (by first | exact r_move (v := .int _ _) rfl | exact r_move rfl) rfl rfl rfl ?_
      -- R11.3 33 := graph.go:24 move
      refine SL.v (by first | exact r_move (v := .int _ _) rfl | exact r_move rfl) rfl rfl rfl ?_
      -- R11.4 34 := graph.go:24 fieldAddr
      refine SL.v (by exact r_field ty_fld61_0 rfl) rfl rfl rfl ?_
      -- R11.5 35 := graph.go:24 load
      refine SL.v (by exact r_load1 (v := .int .i64 (q.1 : Nat)) ty_one31 rfl (st.c1 (by decide))) rfl rfl rfl ?_
      -- R11.6 36 := graph.go:24 binOp
      refine SL.v (by exact r_neq rfl rfl (decide_eq_false (by omega))) rfl rfl rfl ?_
      -- R11.7 37 := graph.go:24 move
      refine SL.v (by first | exact r_move (v := .bool _) rfl | exact r_move rfl) rfl rfl rfl ?_
      -- R11.8 38 := graph.go:24 move
      refine SL.no rfl rfl ?_
      -- R11.9 39 := graph.go:24 move
      refine SL.no rfl rfl ?_
      -- R11.10 40 := graph.go:24 move
      refine SL.no rfl rfl ?_
      -- R11.11 41 := graph.go:24 nilCheck
      refine SL.no rfl rfl ?_
      -- R11.12 42 := graph.go:24 fieldAddr
      refine SL.no rfl rfl ?_
      -- R11.13 43 := graph.go:24 indexAddr
      refine SL.no rfl rfl ?_
      -- R11.14 44 := graph.go:24 indexAddr
      refine SL.no rfl rfl ?_
      -- R11.15 45 := graph.go:24 load
      refine SL.no rfl rfl ?_
      -- R11.16 46 := graph.go:24 binOp
      refine SL.no rfl rfl ?_
      -- R11.17 47 := graph.go:24 pick
      refine SL.v (by first | exact r_pickT (v := .bool _) rfl rfl | exact r_pickF (v := .bool _) rfl rfl) rfl rfl rfl ?_
      -- R11.18 48 := graph.go:24 indexAddr
      refine SL.v (by exact r_indexA (j := q.1) ty_ar89 rfl rfl rfl hq16') rfl rfl rfl ?_
      -- R11.19 49 := graph.go:24 indexAddr
      refine SL.v (by exact r_indexA (j := h) ty_ar86 rfl rfl rfl hh') rfl rfl rfl ?_
      refine SL.fin hKq ?_
      -- R11.20 None := graph.go:24 store
      first | refine WL.store (v := .bool _) st ty_one4 rfl rfl rfl (by first | decide | omega) rfl rfl ?_ | refine WL.store (v := _) st ty_one4 rfl rfl rfl (by first | decide | omega) rfl rfl ?_ | refine WL.store (v := .bool _) st.front1 ty_one4 rfl rfl rfl (by first | decide | omega) rfl rfl ?_ | refine WL.store (v := _) st.front1 ty_one4 rfl rfl rfl (by first | decide | omega) rfl rfl ?_ | refine WL.store (v := .bool _) st.front2 ty_one4 rfl rfl rfl (by first | decide | omega) rfl rfl ?_ | refine WL.store (v := _) st.front2 ty_one4 rfl rfl rfl (by first | decide | omega) rfl rfl ?_ | refine WL.store (v := .bool _) st.front3 ty_one4 rfl rfl rfl (by first | decide | omega) rfl rfl ?_ | refine WL.store (v := _) st.front3 ty_one4 rfl rfl rfl (by first | decide | omega) rfl rfl ?_ | refine WL.store (v := .bool _) st.front4 ty_one4 rfl rfl rfl (by first | decide | omega) rfl rfl ?_ | refine WL.store (v := _) st.front4 ty_one4 rfl rfl rfl (by first | decide | omega) rfl rfl ?_ | refine WL.store (v := .bool _) st.front5 ty_one4 rfl rfl rfl (by first | decide | omega) rfl rfl ?_ | refine WL.store (v := _) st.front5 ty_one4 rfl rfl rfl (by first | decide | omega) rfl rfl ?_ | refine WL.store (v := .bool _) st.front6 ty_one4 rfl rfl rfl (by first | decide | omega) rfl rfl ?_ | refine WL.store (v := _) st.front6 ty_one4 rfl rfl rfl (by first | decide | omega) rfl rfl ?_ | refine WL.store (v := .bool _) st.front7 ty_one4 rfl rfl rfl (by first | decide | omega) rfl rfl ?_ | refine WL.store (v := _) st.front7 ty_one4 rfl rfl rfl (by first | decide | omega) rfl rfl ?_ | refine WL.store (v := .bool _) st.front8 ty_one4 rfl rfl rfl (by first | decide | omega) rfl rfl ?_ | refine WL.store (v := _) st.front8 ty_one4 rfl rfl rfl (by first | decide | omega) rfl rfl ?_
      intro w st
      refine WL.fin hK2718 (fun _ _ h => h) ?_
      -- region 12
      refine WC.region ?_
      -- R12.0 50 := graph.go:23 binOp
      refine WL.v (by first | exact r_add rfl rfl (wi64 (by omega) (by omega)) | exact r_add rfl rfl rfl) rfl rfl rfl ?_
      -- R12.1 27 := graph.go:23 move
      refine WL.v (by first | exact r_move (v := .int _ _) rfl | exact r_move rfl) rfl rfl rfl ?_
      refine WL.next hK3 (fun _ _ h => h) (h + 1) ⟨hh', stE (hset _ (by simp [hne])) st⟩ (by omega) (by repeat (first | exact sub_nil _ | refine sub_cons rfl rfl ?_))
    · skip
      by_cases hpos : 0 < s.held h r
      · skip
        refine WC.seq fun K2720 hK2720 => ?_
        -- region 9
        refine WC.region ?_
        -- R9.0 28 := graph.go:23 binOp
        refine WL.v (by first | exact r_lss rfl rfl (decide_eq_true (by omega)) | exact r_lss rfl rfl (decide_eq_false (by omega)) | exact r_lss rfl rfl rfl) rfl rfl rfl ?_
        refine WL.fin hK2720 (fun _ _ h => h) ?_
        refine WC.seq fun K2721 hK2721 => ?_
        refine WC.condT rfl rfl ?_
        refine WC.skipF hK2721 (fun _ _ h => h) ?_
        refine WC.seq fun K2722 hK2722 => ?_
        refine WC.block ?_
        refine WC.seq fun K2723 hK2723 => ?_
        -- region 10
        refine WC.region ?_
        -- R10.0 29 := graph.go:23 move
        refine WL.v (by first | exact r_move (v := .int _ _) rfl | exact r_move rfl) rfl rfl rfl ?_
        -- R10.1 7 := graph.go:23 assign
        refine WL.v (by first | exact r_assign (v := .int _ _) rfl | exact r_assign rfl) rfl rfl rfl ?_
        refine WL.fin hK2723 (fun _ _ h => h) ?_
        -- region 11 (draws)
        refine WC.tailS 20 st ty_mixed (by kernel_rfl) fun w st Kq hKq => ?_
        -- R11.0 30 := graph.go:24 fieldAddr
        refine SL.v (by exact r_field ty_fld61_0 rfl) rfl rfl rfl ?_
        -- R11.1 31 := graph.go:24 load
        refine SL.v (by exact r_load1 (v := .int .i64 (q.1 : Nat)) ty_one31 rfl (st.c1 (by decide))) rfl rfl rfl ?_
        -- R11.2 32 := graph.go:24 move
        refine SL.v (by first | exact r_move (v := .int _ _) rfl | exact r_move rfl) rfl rfl rfl ?_
        -- R11.3 33 := graph.go:24 move
        refine SL.v (by first | exact r_move (v := .int _ _) rfl | exact r_move rfl) rfl rfl rfl ?_
        -- R11.4 34 := graph.go:24 fieldAddr
        refine SL.v (by exact r_field ty_fld61_0 rfl) rfl rfl rfl ?_
        -- R11.5 35 := graph.go:24 load
        refine SL.v (by exact r_load1 (v := .int .i64 (q.1 : Nat)) ty_one31 rfl (st.c1 (by decide))) rfl rfl rfl ?_
        -- R11.6 36 := graph.go:24 binOp
        refine SL.v (by exact r_neq rfl rfl (decide_eq_true (by omega))) rfl rfl rfl ?_
        -- R11.7 37 := graph.go:24 move
        refine SL.v (by first | exact r_move (v := .bool _) rfl | exact r_move rfl) rfl rfl rfl ?_
        -- R11.8 38 := graph.go:24 move
        refine SL.v (by first | exact r_move (v := .pointer _) rfl | exact r_move rfl) rfl rfl rfl ?_
        -- R11.9 39 := graph.go:24 move
        refine SL.v (by first | exact r_move (v := .int _ _) rfl | exact r_move rfl) rfl rfl rfl ?_
        -- R11.10 40 := graph.go:24 move
        refine SL.v (by first | exact r_move (v := .int _ _) rfl | exact r_move rfl) rfl rfl rfl ?_
        -- R11.11 41 := graph.go:24 nilCheck
        refine SL.v (by exact r_nilCheck rfl) rfl rfl rfl ?_
        -- R11.12 42 := graph.go:24 fieldAddr
        refine SL.v (by exact r_field ty_fld50_4 rfl) rfl rfl rfl ?_
        -- R11.13 43 := graph.go:24 indexAddr
        refine SL.v (by exact r_indexA (j := h) ty_ar45 rfl rfl rfl hh') rfl rfl rfl ?_
        -- R11.14 44 := graph.go:24 indexAddr
        refine SL.v (by exact r_indexA (j := r) ty_ar44 rfl rfl rfl hr') rfl rfl rfl ?_
        -- R11.15 45 := graph.go:24 load
        refine SL.v (by exact r_load1 (v := .int .i64 (s.held h r : Nat)) ty_one3 rfl (c_sH (List.mem_cons_of_mem _ (List.mem_cons_of_mem _ hm)) hh' hr' (by omega) st)) rfl rfl rfl ?_
        -- R11.16 46 := graph.go:24 binOp
        refine SL.v (by exact r_gtr rfl rfl (decide_eq_true (by omega))) rfl rfl rfl ?_
        -- R11.17 47 := graph.go:24 pick
        refine SL.v (by first | exact r_pickT (v := .bool _) rfl rfl | exact r_pickF (v := .bool _) rfl rfl) rfl rfl rfl ?_
        -- R11.18 48 := graph.go:24 indexAddr
        refine SL.v (by exact r_indexA (j := q.1) ty_ar89 rfl rfl rfl hq16') rfl rfl rfl ?_
        -- R11.19 49 := graph.go:24 indexAddr
        refine SL.v (by exact r_indexA (j := h) ty_ar86 rfl rfl rfl hh') rfl rfl rfl ?_
        refine SL.fin hKq ?_
        -- R11.20 None := graph.go:24 store
        first | refine WL.store (v := .bool _) st ty_one4 rfl rfl rfl (by first | decide | omega) rfl rfl ?_ | refine WL.store (v := _) st ty_one4 rfl rfl rfl (by first | decide | omega) rfl rfl ?_ | refine WL.store (v := .bool _) st.front1 ty_one4 rfl rfl rfl (by first | decide | omega) rfl rfl ?_ | refine WL.store (v := _) st.front1 ty_one4 rfl rfl rfl (by first | decide | omega) rfl rfl ?_ | refine WL.store (v := .bool _) st.front2 ty_one4 rfl rfl rfl (by first | decide | omega) rfl rfl ?_ | refine WL.store (v := _) st.front2 ty_one4 rfl rfl rfl (by first | decide | omega) rfl rfl ?_ | refine WL.store (v := .bool _) st.front3 ty_one4 rfl rfl rfl (by first | decide | omega) rfl rfl ?_ | refine WL.store (v := _) st.front3 ty_one4 rfl rfl rfl (by first | decide | omega) rfl rfl ?_ | refine WL.store (v := .bool _) st.front4 ty_one4 rfl rfl rfl (by first | decide | omega) rfl rfl ?_ | refine WL.store (v := _) st.front4 ty_one4 rfl rfl rfl (by first | decide | omega) rfl rfl ?_ | refine WL.store (v := .bool _) st.front5 ty_one4 rfl rfl rfl (by first | decide | omega) rfl rfl ?_ | refine WL.store (v := _) st.front5 ty_one4 rfl rfl rfl (by first | decide | omega) rfl rfl ?_ | refine WL.store (v := .bool _) st.front6 ty_one4 rfl rfl rfl (by first | decide | omega) rfl rfl ?_ | refine WL.store (v := _) st.front6 ty_one4 rfl rfl rfl (by first | decide | omega) rfl rfl ?_ | refine WL.store (v := .bool _) st.front7 ty_one4 rfl rfl rfl (by first | decide | omega) rfl rfl ?_ | refine WL.store (v := _) st.front7 ty_one4 rfl rfl rfl (by first | decide | omega) rfl rfl ?_ | refine WL.store (v := .bool _) st.front8 ty_one4 rfl rfl rfl (by first | decide | omega) rfl rfl ?_ | refine WL.store (v := _) st.front8 ty_one4 rfl rfl rfl (by first | decide | omega) rfl rfl ?_
        intro w st
        refine WL.fin hK2722 (fun _ _ h => h) ?_
        -- region 12
        refine WC.region ?_
        -- R12.0 50 := graph.go:23 binOp
        refine WL.v (by first | exact r_add rfl rfl (wi64 (by omega) (by omega)) | exact r_add rfl rfl rfl) rfl rfl rfl ?_
        -- R12.1 27 := graph.go:23 move
        refine WL.v (by first | exact r_move (v := .int _ _) rfl | exact r_move rfl) rfl rfl rfl ?_
        refine WL.next hK3 (fun _ _ h => h) (h + 1) ⟨hh', stE (hset _ (by simp [hne, hpos])) st⟩ (by omega) (by repeat (first | exact sub_nil _ | refine sub_cons rfl rfl ?_))
      · skip
        refine WC.seq fun K2724 hK2724 => ?_
        -- region 9
        refine WC.region ?_
        -- R9.0 28 := graph.go:23 binOp
        refine WL.v (by first | exact r_lss rfl rfl (decide_eq_true (by omega)) | exact r_lss rfl rfl (decide_eq_false (by omega)) | exact r_lss rfl rfl rfl) rfl rfl rfl ?_
        refine WL.fin hK2724 (fun _ _ h => h) ?_
        refine WC.seq fun K2725 hK2725 => ?_
        refine WC.condT rfl rfl ?_
        refine WC.skipF hK2725 (fun _ _ h => h) ?_
        refine WC.seq fun K2726 hK2726 => ?_
        refine WC.block ?_
        refine WC.seq fun K2727 hK2727 => ?_
        -- region 10
        refine WC.region ?_
        -- R10.0 29 := graph.go:23 move
        refine WL.v (by first | exact r_move (v := .int _ _) rfl | exact r_move rfl) rfl rfl rfl ?_
        -- R10.1 7 := graph.go:23 assign
        refine WL.v (by first | exact r_assign (v := .int _ _) rfl | exact r_assign rfl) rfl rfl rfl ?_
        refine WL.fin hK2727 (fun _ _ h => h) ?_
        -- region 11 (draws)
        refine WC.tailS 20 st ty_mixed (by kernel_rfl) fun w st Kq hKq => ?_
        -- R11.0 30 := graph.go:24 fieldAddr
        refine SL.v (by exact r_field ty_fld61_0 rfl) rfl rfl rfl ?_
        -- R11.1 31 := graph.go:24 load
        refine SL.v (by exact r_load1 (v := .int .i64 (q.1 : Nat)) ty_one31 rfl (st.c1 (by decide))) rfl rfl rfl ?_
        -- R11.2 32 := graph.go:24 move
        refine SL.v (by first | exact r_move (v := .int _ _) rfl | exact r_move rfl) rfl rfl rfl ?_
        -- R11.3 33 := graph.go:24 move
        refine SL.v (by first | exact r_move (v := .int _ _) rfl | exact r_move rfl) rfl rfl rfl ?_
        -- R11.4 34 := graph.go:24 fieldAddr
        refine SL.v (by exact r_field ty_fld61_0 rfl) rfl rfl rfl ?_
        -- R11.5 35 := graph.go:24 load
        refine SL.v (by exact r_load1 (v := .int .i64 (q.1 : Nat)) ty_one31 rfl (st.c1 (by decide))) rfl rfl rfl ?_
        -- R11.6 36 := graph.go:24 binOp
        refine SL.v (by exact r_neq rfl rfl (decide_eq_true (by omega))) rfl rfl rfl ?_
        -- R11.7 37 := graph.go:24 move
        refine SL.v (by first | exact r_move (v := .bool _) rfl | exact r_move rfl) rfl rfl rfl ?_
        -- R11.8 38 := graph.go:24 move
        refine SL.v (by first | exact r_move (v := .pointer _) rfl | exact r_move rfl) rfl rfl rfl ?_
        -- R11.9 39 := graph.go:24 move
        refine SL.v (by first | exact r_move (v := .int _ _) rfl | exact r_move rfl) rfl rfl rfl ?_
        -- R11.10 40 := graph.go:24 move
        refine SL.v (by first | exact r_move (v := .int _ _) rfl | exact r_move rfl) rfl rfl rfl ?_
        -- R11.11 41 := graph.go:24 nilCheck
        refine SL.v (by exact r_nilCheck rfl) rfl rfl rfl ?_
        -- R11.12 42 := graph.go:24 fieldAddr
        refine SL.v (by exact r_field ty_fld50_4 rfl) rfl rfl rfl ?_
        -- R11.13 43 := graph.go:24 indexAddr
        refine SL.v (by exact r_indexA (j := h) ty_ar45 rfl rfl rfl hh') rfl rfl rfl ?_
        -- R11.14 44 := graph.go:24 indexAddr
        refine SL.v (by exact r_indexA (j := r) ty_ar44 rfl rfl rfl hr') rfl rfl rfl ?_
        -- R11.15 45 := graph.go:24 load
        refine SL.v (by exact r_load1 (v := .int .i64 (s.held h r : Nat)) ty_one3 rfl (c_sH (List.mem_cons_of_mem _ (List.mem_cons_of_mem _ hm)) hh' hr' (by omega) st)) rfl rfl rfl ?_
        -- R11.16 46 := graph.go:24 binOp
        refine SL.v (by exact r_gtr rfl rfl (decide_eq_false (by omega))) rfl rfl rfl ?_
        -- R11.17 47 := graph.go:24 pick
        refine SL.v (by first | exact r_pickT (v := .bool _) rfl rfl | exact r_pickF (v := .bool _) rfl rfl) rfl rfl rfl ?_
        -- R11.18 48 := graph.go:24 indexAddr
        refine SL.v (by exact r_indexA (j := q.1) ty_ar89 rfl rfl rfl hq16') rfl rfl rfl ?_
        -- R11.19 49 := graph.go:24 indexAddr
        refine SL.v (by exact r_indexA (j := h) ty_ar86 rfl rfl rfl hh') rfl rfl rfl ?_
        refine SL.fin hKq ?_
        -- R11.20 None := graph.go:24 store
        first | refine WL.store (v := .bool _) st ty_one4 rfl rfl rfl (by first | decide | omega) rfl rfl ?_ | refine WL.store (v := _) st ty_one4 rfl rfl rfl (by first | decide | omega) rfl rfl ?_ | refine WL.store (v := .bool _) st.front1 ty_one4 rfl rfl rfl (by first | decide | omega) rfl rfl ?_ | refine WL.store (v := _) st.front1 ty_one4 rfl rfl rfl (by first | decide | omega) rfl rfl ?_ | refine WL.store (v := .bool _) st.front2 ty_one4 rfl rfl rfl (by first | decide | omega) rfl rfl ?_ | refine WL.store (v := _) st.front2 ty_one4 rfl rfl rfl (by first | decide | omega) rfl rfl ?_ | refine WL.store (v := .bool _) st.front3 ty_one4 rfl rfl rfl (by first | decide | omega) rfl rfl ?_ | refine WL.store (v := _) st.front3 ty_one4 rfl rfl rfl (by first | decide | omega) rfl rfl ?_ | refine WL.store (v := .bool _) st.front4 ty_one4 rfl rfl rfl (by first | decide | omega) rfl rfl ?_ | refine WL.store (v := _) st.front4 ty_one4 rfl rfl rfl (by first | decide | omega) rfl rfl ?_ | refine WL.store (v := .bool _) st.front5 ty_one4 rfl rfl rfl (by first | decide | omega) rfl rfl ?_ | refine WL.store (v := _) st.front5 ty_one4 rfl rfl rfl (by first | decide | omega) rfl rfl ?_ | refine WL.store (v := .bool _) st.front6 ty_one4 rfl rfl rfl (by first | decide | omega) rfl rfl ?_ | refine WL.store (v := _) st.front6 ty_one4 rfl rfl rfl (by first | decide | omega) rfl rfl ?_ | refine WL.store (v := .bool _) st.front7 ty_one4 rfl rfl rfl (by first | decide | omega) rfl rfl ?_ | refine WL.store (v := _) st.front7 ty_one4 rfl rfl rfl (by first | decide | omega) rfl rfl ?_ | refine WL.store (v := .bool _) st.front8 ty_one4 rfl rfl rfl (by first | decide | omega) rfl rfl ?_ | refine WL.store (v := _) st.front8 ty_one4 rfl rfl rfl (by first | decide | omega) rfl rfl ?_
        intro w st
        refine WL.fin hK2726 (fun _ _ h => h) ?_
        -- region 12
        refine WC.region ?_
        -- R12.0 50 := graph.go:23 binOp
        refine WL.v (by first | exact r_add rfl rfl (wi64 (by omega) (by omega)) | exact r_add rfl rfl rfl) rfl rfl rfl ?_
        -- R12.1 27 := graph.go:23 move
        refine WL.v (by first | exact r_move (v := .int _ _) rfl | exact r_move rfl) rfl rfl rfl ?_
        refine WL.next hK3 (fun _ _ h => h) (h + 1) ⟨hh', stE (hset _ (by simp [hpos])) st⟩ (by omega) (by repeat (first | exact sub_nil _ | refine sub_cons rfl rfl ?_))
  subst h20
  obtain ⟨R, hRd⟩ : ∃ R, R = edB s.held s.queue := ⟨_, rfl⟩
  have st : S0 w0 ((b3, Row 89 256 (gB (wsN R 0))) :: l) w := stE (fun k hk => by show gB D k = gB R k; unfold gB; rw [hR.full ho _ _ (by omega) (by omega), hRd]) st
  clear hR
  refine WC.seq fun K2728 hK2728 => ?_
  -- region 3
  refine WC.region ?_
  -- R3.0 14 := graph.go:21 binOp
  refine WL.v (by first | exact r_lss rfl rfl (decide_eq_true (by omega)) | exact r_lss rfl rfl (decide_eq_false (by omega)) | exact r_lss rfl rfl rfl) rfl rfl rfl ?_
  refine WL.fin hK2728 (fun _ _ h => h) ?_
  refine WC.seq fun K2729 hK2729 => ?_
  refine WC.condF rfl rfl ?_
  refine WC.exitF hK2700 (fun _ _ h => h) ?_
  refine WC.seq fun K2730 hK2730 => ?_
  refine WC.seq fun K2731 hK2731 => ?_
  -- region 15
  refine WC.region ?_
  -- R15.0 53 := graph.go:28 move
  refine WL.v (by first | exact r_move (v := .int _ _) rfl | exact r_move rfl) rfl rfl rfl ?_
  refine WL.fin hK2731 (fun _ _ h => h) ?_
  refine WC.block ?_
  refine WC.loop (ι := Nat) (fun v => [(0, .pointer (some ⟨b, 0, none⟩)), (3, .pointer (some ⟨b3, 0, none⟩)), (53, .int .i64 (v : Nat))])
    (fun v w' => v ≤ 16 ∧ S0 w0 ((b3, Row 89 256 (gB (wsN R v))) :: l) w') (fun v => 16 - v) 0 ⟨Nat.zero_le _, st⟩ ?_ ?_
  · skip
    repeat (first | exact sub_nil _ | refine sub_cons rfl rfl ?_)
  clear st
  rintro v w ⟨hv, st⟩ K4 hK4
  by_cases hv16 : v = 16
  rotate_left
  · have hv' : v < 16 := by omega
    obtain ⟨Q, hQ⟩ : ∃ Q, Q = wsN R v := ⟨_, rfl⟩
    have hQ1 : wsN R (v + 1) = wsV Q v := by rw [hQ]; rfl
    rw [← hQ] at st
    refine WC.seq fun K2732 hK2732 => ?_
    -- region 16
    refine WC.region ?_
    -- R16.0 54 := graph.go:28 binOp
    refine WL.v (by first | exact r_lss rfl rfl (decide_eq_true (by omega)) | exact r_lss rfl rfl (decide_eq_false (by omega)) | exact r_lss rfl rfl rfl) rfl rfl rfl ?_
    refine WL.fin hK2732 (fun _ _ h => h) ?_
    refine WC.seq fun K2733 hK2733 => ?_
    refine WC.condT rfl rfl ?_
    refine WC.skipF hK2733 (fun _ _ h => h) ?_
    refine WC.seq fun K2734 hK2734 => ?_
    refine WC.block ?_
    refine WC.seq fun K2735 hK2735 => ?_
    -- region 17
    refine WC.region ?_
    -- R17.0 55 := graph.go:28 move
    refine WL.v (by first | exact r_move (v := .int _ _) rfl | exact r_move rfl) rfl rfl rfl ?_
    -- R17.1 8 := graph.go:28 assign
    refine WL.v (by first | exact r_assign (v := .int _ _) rfl | exact r_assign rfl) rfl rfl rfl ?_
    refine WL.fin hK2735 (fun _ _ h => h) ?_
    refine WC.seq fun K2736 hK2736 => ?_
    -- region 18
    refine WC.region ?_
    -- R18.0 56 := graph.go:29 move
    refine WL.v (by first | exact r_move (v := .int _ _) rfl | exact r_move rfl) rfl rfl rfl ?_
    refine WL.fin hK2736 (fun _ _ h => h) ?_
    refine WC.block ?_
    have st : S0 w0 ((b3, Row 89 256 (gB (wsM Q v 0 0))) :: l) w := by rw [wsM_zero]; exact st
    refine WC.loop (ι := Nat) (fun a => [(0, .pointer (some ⟨b, 0, none⟩)), (3, .pointer (some ⟨b3, 0, none⟩)), (53, .int .i64 (v : Nat)), (8, .int .i64 (v : Nat)), (56, .int .i64 (a : Nat))])
      (fun a w' => a ≤ 16 ∧ S0 w0 ((b3, Row 89 256 (gB (wsM Q v a 0))) :: l) w') (fun a => 16 - a) 0 ⟨Nat.zero_le _, st⟩ ?_ ?_
    · skip
      repeat (first | exact sub_nil _ | refine sub_cons rfl rfl ?_)
    clear st
    rintro a w ⟨ha, st⟩ K5 hK5
    by_cases ha16 : a = 16
    · subst ha16
      refine WC.seq fun K2737 hK2737 => ?_
      -- region 19
      refine WC.region ?_
      -- R19.0 57 := graph.go:29 binOp
      refine WL.v (by first | exact r_lss rfl rfl (decide_eq_true (by omega)) | exact r_lss rfl rfl (decide_eq_false (by omega)) | exact r_lss rfl rfl rfl) rfl rfl rfl ?_
      refine WL.fin hK2737 (fun _ _ h => h) ?_
      refine WC.seq fun K2738 hK2738 => ?_
      refine WC.condF rfl rfl ?_
      refine WC.exitF hK2734 (fun _ _ h => h) ?_
      -- region 27
      refine WC.region ?_
      -- R27.0 87 := graph.go:28 binOp
      refine WL.v (by first | exact r_add rfl rfl (wi64 (by omega) (by omega)) | exact r_add rfl rfl rfl) rfl rfl rfl ?_
      -- R27.1 53 := graph.go:28 move
      refine WL.v (by first | exact r_move (v := .int _ _) rfl | exact r_move rfl) rfl rfl rfl ?_
      refine WL.next hK4 (fun _ _ h => h) (v + 1) ⟨hv', by rw [hQ1]; exact stE wsM_end st⟩ (by omega) (by repeat (first | exact sub_nil _ | refine sub_cons rfl rfl ?_))
    have ha' : a < 16 := by omega
    refine WC.seq fun K2739 hK2739 => ?_
    -- region 19
    refine WC.region ?_
    -- R19.0 57 := graph.go:29 binOp
    refine WL.v (by first | exact r_lss rfl rfl (decide_eq_true (by omega)) | exact r_lss rfl rfl (decide_eq_false (by omega)) | exact r_lss rfl rfl rfl) rfl rfl rfl ?_
    refine WL.fin hK2739 (fun _ _ h => h) ?_
    refine WC.seq fun K2740 hK2740 => ?_
    refine WC.condT rfl rfl ?_
    refine WC.skipF hK2740 (fun _ _ h => h) ?_
    refine WC.seq fun K2741 hK2741 => ?_
    refine WC.block ?_
    refine WC.seq fun K2742 hK2742 => ?_
    -- region 20
    refine WC.region ?_
    -- R20.0 58 := graph.go:29 move
    refine WL.v (by first | exact r_move (v := .int _ _) rfl | exact r_move rfl) rfl rfl rfl ?_
    -- R20.1 9 := graph.go:29 assign
    refine WL.v (by first | exact r_assign (v := .int _ _) rfl | exact r_assign rfl) rfl rfl rfl ?_
    refine WL.fin hK2742 (fun _ _ h => h) ?_
    refine WC.seq fun K2743 hK2743 => ?_
    -- region 21
    refine WC.region ?_
    -- R21.0 59 := graph.go:30 move
    refine WL.v (by first | exact r_move (v := .int _ _) rfl | exact r_move rfl) rfl rfl rfl ?_
    refine WL.fin hK2743 (fun _ _ h => h) ?_
    refine WC.block ?_
    refine WC.loop (ι := Nat) (fun c => [(0, .pointer (some ⟨b, 0, none⟩)), (3, .pointer (some ⟨b3, 0, none⟩)), (53, .int .i64 (v : Nat)), (8, .int .i64 (v : Nat)), (56, .int .i64 (a : Nat)), (9, .int .i64 (a : Nat)), (59, .int .i64 (c : Nat))])
      (fun c w' => c ≤ 16 ∧ S0 w0 ((b3, Row 89 256 (gB (wsM Q v a c))) :: l) w') (fun c => 16 - c) 0 ⟨Nat.zero_le _, st⟩ ?_ ?_
    · skip
      repeat (first | exact sub_nil _ | refine sub_cons rfl rfl ?_)
    clear st
    rintro c w ⟨hc, st⟩ K6 hK6
    by_cases hc16 : c = 16
    · subst hc16
      refine WC.seq fun K2744 hK2744 => ?_
      -- region 22
      refine WC.region ?_
      -- R22.0 60 := graph.go:30 binOp
      refine WL.v (by first | exact r_lss rfl rfl (decide_eq_true (by omega)) | exact r_lss rfl rfl (decide_eq_false (by omega)) | exact r_lss rfl rfl rfl) rfl rfl rfl ?_
      refine WL.fin hK2744 (fun _ _ h => h) ?_
      refine WC.seq fun K2745 hK2745 => ?_
      refine WC.condF rfl rfl ?_
      refine WC.exitF hK2741 (fun _ _ h => h) ?_
      -- region 26
      refine WC.region ?_
      -- R26.0 86 := graph.go:29 binOp
      refine WL.v (by first | exact r_add rfl rfl (wi64 (by omega) (by omega)) | exact r_add rfl rfl rfl) rfl rfl rfl ?_
      -- R26.1 56 := graph.go:29 move
      refine WL.v (by first | exact r_move (v := .int _ _) rfl | exact r_move rfl) rfl rfl rfl ?_
      refine WL.next hK5 (fun _ _ h => h) (a + 1) ⟨ha', stE wsM_line st⟩ (by omega) (by repeat (first | exact sub_nil _ | refine sub_cons rfl rfl ?_))
    have hc' : c < 16 := by omega
    rcases h1 : Q a c with _ | _
    rotate_left
    · skip
      refine WC.seq fun K2746 hK2746 => ?_
      -- region 22
      refine WC.region ?_
      -- R22.0 60 := graph.go:30 binOp
      refine WL.v (by first | exact r_lss rfl rfl (decide_eq_true (by omega)) | exact r_lss rfl rfl (decide_eq_false (by omega)) | exact r_lss rfl rfl rfl) rfl rfl rfl ?_
      refine WL.fin hK2746 (fun _ _ h => h) ?_
      refine WC.seq fun K2747 hK2747 => ?_
      refine WC.condT rfl rfl ?_
      refine WC.skipF hK2747 (fun _ _ h => h) ?_
      refine WC.seq fun K2748 hK2748 => ?_
      refine WC.block ?_
      refine WC.seq fun K2749 hK2749 => ?_
      -- region 23
      refine WC.region ?_
      -- R23.0 61 := graph.go:30 move
      refine WL.v (by first | exact r_move (v := .int _ _) rfl | exact r_move rfl) rfl rfl rfl ?_
      -- R23.1 10 := graph.go:30 assign
      refine WL.v (by first | exact r_assign (v := .int _ _) rfl | exact r_assign rfl) rfl rfl rfl ?_
      refine WL.fin hK2749 (fun _ _ h => h) ?_
      -- region 24 (draws)
      refine WC.tailS 23 st ty_mixed (by kernel_rfl) fun w st Kq hKq => ?_
      -- R24.0 62 := graph.go:31 move
      refine SL.v (by first | exact r_move (v := .int _ _) rfl | exact r_move rfl) rfl rfl rfl ?_
      -- R24.1 63 := graph.go:31 move
      refine SL.v (by first | exact r_move (v := .int _ _) rfl | exact r_move rfl) rfl rfl rfl ?_
      -- R24.2 64 := graph.go:31 move
      refine SL.v (by first | exact r_move (v := .int _ _) rfl | exact r_move rfl) rfl rfl rfl ?_
      -- R24.3 65 := graph.go:31 move
      refine SL.v (by first | exact r_move (v := .int _ _) rfl | exact r_move rfl) rfl rfl rfl ?_
      -- R24.4 66 := graph.go:31 indexAddr
      refine SL.v (by exact r_indexA (j := a) ty_ar89 rfl rfl rfl ha') rfl rfl rfl ?_
      -- R24.5 67 := graph.go:31 indexAddr
      refine SL.v (by exact r_indexA (j := c) ty_ar86 rfl rfl rfl hc') rfl rfl rfl ?_
      -- R24.6 68 := graph.go:31 load
      refine SL.v (by exact r_load1 (v := .bool true) ty_one4 rfl ((c_gB List.mem_cons_self ha' hc' (by omega) st).trans (by rw [wsM_here, h1]))) rfl rfl rfl ?_
      -- R24.7 69 := graph.go:31 move
      refine SL.v (by first | exact r_move (v := .bool _) rfl | exact r_move rfl) rfl rfl rfl ?_
      -- R24.8 70 := graph.go:31 move
      refine SL.no rfl rfl ?_
      -- R24.9 71 := graph.go:31 move
      refine SL.no rfl rfl ?_
      -- R24.10 72 := graph.go:31 indexAddr
      refine SL.no rfl rfl ?_
      -- R24.11 73 := graph.go:31 indexAddr
      refine SL.no rfl rfl ?_
      -- R24.12 74 := graph.go:31 load
      refine SL.no rfl rfl ?_
      -- R24.13 75 := graph.go:31 move
      refine SL.no rfl rfl ?_
      -- R24.14 76 := graph.go:31 move
      refine SL.no rfl rfl ?_
      -- R24.15 77 := graph.go:31 move
      refine SL.no rfl rfl ?_
      -- R24.16 78 := graph.go:31 indexAddr
      refine SL.no rfl rfl ?_
      -- R24.17 79 := graph.go:31 indexAddr
      refine SL.no rfl rfl ?_
      -- R24.18 80 := graph.go:31 load
      refine SL.no rfl rfl ?_
      -- R24.19 81 := graph.go:31 pick
      refine SL.no rfl rfl ?_
      -- R24.20 82 := graph.go:31 pick
      refine SL.v (by first | exact r_pickT (v := .bool _) rfl rfl | exact r_pickF (v := .bool _) rfl rfl) rfl rfl rfl ?_
      -- R24.21 83 := graph.go:31 indexAddr
      refine SL.v (by exact r_indexA (j := a) ty_ar89 rfl rfl rfl ha') rfl rfl rfl ?_
      -- R24.22 84 := graph.go:31 indexAddr
      refine SL.v (by exact r_indexA (j := c) ty_ar86 rfl rfl rfl hc') rfl rfl rfl ?_
      refine SL.fin hKq ?_
      -- R24.23 None := graph.go:31 store
      first | refine WL.store (v := .bool _) st ty_one4 rfl rfl rfl (by first | decide | omega) rfl rfl ?_ | refine WL.store (v := _) st ty_one4 rfl rfl rfl (by first | decide | omega) rfl rfl ?_ | refine WL.store (v := .bool _) st.front1 ty_one4 rfl rfl rfl (by first | decide | omega) rfl rfl ?_ | refine WL.store (v := _) st.front1 ty_one4 rfl rfl rfl (by first | decide | omega) rfl rfl ?_ | refine WL.store (v := .bool _) st.front2 ty_one4 rfl rfl rfl (by first | decide | omega) rfl rfl ?_ | refine WL.store (v := _) st.front2 ty_one4 rfl rfl rfl (by first | decide | omega) rfl rfl ?_ | refine WL.store (v := .bool _) st.front3 ty_one4 rfl rfl rfl (by first | decide | omega) rfl rfl ?_ | refine WL.store (v := _) st.front3 ty_one4 rfl rfl rfl (by first | decide | omega) rfl rfl ?_ | refine WL.store (v := .bool _) st.front4 ty_one4 rfl rfl rfl (by first | decide | omega) rfl rfl ?_ | refine WL.store (v := _) st.front4 ty_one4 rfl rfl rfl (by first | decide | omega) rfl rfl ?_ | refine WL.store (v := .bool _) st.front5 ty_one4 rfl rfl rfl (by first | decide | omega) rfl rfl ?_ | refine WL.store (v := _) st.front5 ty_one4 rfl rfl rfl (by first | decide | omega) rfl rfl ?_ | refine WL.store (v := .bool _) st.front6 ty_one4 rfl rfl rfl (by first | decide | omega) rfl rfl ?_ | refine WL.store (v := _) st.front6 ty_one4 rfl rfl rfl (by first | decide | omega) rfl rfl ?_ | refine WL.store (v := .bool _) st.front7 ty_one4 rfl rfl rfl (by first | decide | omega) rfl rfl ?_ | refine WL.store (v := _) st.front7 ty_one4 rfl rfl rfl (by first | decide | omega) rfl rfl ?_ | refine WL.store (v := .bool _) st.front8 ty_one4 rfl rfl rfl (by first | decide | omega) rfl rfl ?_ | refine WL.store (v := _) st.front8 ty_one4 rfl rfl rfl (by first | decide | omega) rfl rfl ?_
      intro w st
      refine WL.fin hK2748 (fun _ _ h => h) ?_
      -- region 25
      refine WC.region ?_
      -- R25.0 85 := graph.go:30 binOp
      refine WL.v (by first | exact r_add rfl rfl (wi64 (by omega) (by omega)) | exact r_add rfl rfl rfl) rfl rfl rfl ?_
      -- R25.1 59 := graph.go:30 move
      refine WL.v (by first | exact r_move (v := .int _ _) rfl | exact r_move rfl) rfl rfl rfl ?_
      refine WL.next hK6 (fun _ _ h => h) (c + 1) ⟨hc', stE (wsM_set ha' hc' (by rw [h1]; rfl)) st⟩ (by omega) (by repeat (first | exact sub_nil _ | refine sub_cons rfl rfl ?_))
    rcases h2 : Q a v with _ | _
    · skip
      refine WC.seq fun K2750 hK2750 => ?_
      -- region 22
      refine WC.region ?_
      -- R22.0 60 := graph.go:30 binOp
      refine WL.v (by first | exact r_lss rfl rfl (decide_eq_true (by omega)) | exact r_lss rfl rfl (decide_eq_false (by omega)) | exact r_lss rfl rfl rfl) rfl rfl rfl ?_
      refine WL.fin hK2750 (fun _ _ h => h) ?_
      refine WC.seq fun K2751 hK2751 => ?_
      refine WC.condT rfl rfl ?_
      refine WC.skipF hK2751 (fun _ _ h => h) ?_
      refine WC.seq fun K2752 hK2752 => ?_
      refine WC.block ?_
      refine WC.seq fun K2753 hK2753 => ?_
      -- region 23
      refine WC.region ?_
      -- R23.0 61 := graph.go:30 move
      refine WL.v (by first | exact r_move (v := .int _ _) rfl | exact r_move rfl) rfl rfl rfl ?_
      -- R23.1 10 := graph.go:30 assign
      refine WL.v (by first | exact r_assign (v := .int _ _) rfl | exact r_assign rfl) rfl rfl rfl ?_
      refine WL.fin hK2753 (fun _ _ h => h) ?_
      -- region 24 (draws)
      refine WC.tailS 23 st ty_mixed (by kernel_rfl) fun w st Kq hKq => ?_
      -- R24.0 62 := graph.go:31 move
      refine SL.v (by first | exact r_move (v := .int _ _) rfl | exact r_move rfl) rfl rfl rfl ?_
      -- R24.1 63 := graph.go:31 move
      refine SL.v (by first | exact r_move (v := .int _ _) rfl | exact r_move rfl) rfl rfl rfl ?_
      -- R24.2 64 := graph.go:31 move
      refine SL.v (by first | exact r_move (v := .int _ _) rfl | exact r_move rfl) rfl rfl rfl ?_
      -- R24.3 65 := graph.go:31 move
      refine SL.v (by first | exact r_move (v := .int _ _) rfl | exact r_move rfl) rfl rfl rfl ?_
      -- R24.4 66 := graph.go:31 indexAddr
      refine SL.v (by exact r_indexA (j := a) ty_ar89 rfl rfl rfl ha') rfl rfl rfl ?_
      -- R24.5 67 := graph.go:31 indexAddr
      refine SL.v (by exact r_indexA (j := c) ty_ar86 rfl rfl rfl hc') rfl rfl rfl ?_
      -- R24.6 68 := graph.go:31 load
      refine SL.v (by exact r_load1 (v := .bool false) ty_one4 rfl ((c_gB List.mem_cons_self ha' hc' (by omega) st).trans (by rw [wsM_here, h1]))) rfl rfl rfl ?_
      -- R24.7 69 := graph.go:31 move
      refine SL.v (by first | exact r_move (v := .bool _) rfl | exact r_move rfl) rfl rfl rfl ?_
      -- R24.8 70 := graph.go:31 move
      refine SL.v (by first | exact r_move (v := .int _ _) rfl | exact r_move rfl) rfl rfl rfl ?_
      -- R24.9 71 := graph.go:31 move
      refine SL.v (by first | exact r_move (v := .int _ _) rfl | exact r_move rfl) rfl rfl rfl ?_
      -- R24.10 72 := graph.go:31 indexAddr
      refine SL.v (by exact r_indexA (j := a) ty_ar89 rfl rfl rfl ha') rfl rfl rfl ?_
      -- R24.11 73 := graph.go:31 indexAddr
      refine SL.v (by exact r_indexA (j := v) ty_ar86 rfl rfl rfl hv') rfl rfl rfl ?_
      -- R24.12 74 := graph.go:31 load
      refine SL.v (by exact r_load1 (v := .bool false) ty_one4 rfl ((c_gB List.mem_cons_self ha' hv' (by omega) st).trans (by rw [wsM_col, h2]))) rfl rfl rfl ?_
      -- R24.13 75 := graph.go:31 move
      refine SL.v (by first | exact r_move (v := .bool _) rfl | exact r_move rfl) rfl rfl rfl ?_
      -- R24.14 76 := graph.go:31 move
      refine SL.no rfl rfl ?_
      -- R24.15 77 := graph.go:31 move
      refine SL.no rfl rfl ?_
      -- R24.16 78 := graph.go:31 indexAddr
      refine SL.no rfl rfl ?_
      -- R24.17 79 := graph.go:31 indexAddr
      refine SL.no rfl rfl ?_
      -- R24.18 80 := graph.go:31 load
      refine SL.no rfl rfl ?_
      -- R24.19 81 := graph.go:31 pick
      refine SL.v (by first | exact r_pickT (v := .bool _) rfl rfl | exact r_pickF (v := .bool _) rfl rfl) rfl rfl rfl ?_
      -- R24.20 82 := graph.go:31 pick
      refine SL.v (by first | exact r_pickT (v := .bool _) rfl rfl | exact r_pickF (v := .bool _) rfl rfl) rfl rfl rfl ?_
      -- R24.21 83 := graph.go:31 indexAddr
      refine SL.v (by exact r_indexA (j := a) ty_ar89 rfl rfl rfl ha') rfl rfl rfl ?_
      -- R24.22 84 := graph.go:31 indexAddr
      refine SL.v (by exact r_indexA (j := c) ty_ar86 rfl rfl rfl hc') rfl rfl rfl ?_
      refine SL.fin hKq ?_
      -- R24.23 None := graph.go:31 store
      first | refine WL.store (v := .bool _) st ty_one4 rfl rfl rfl (by first | decide | omega) rfl rfl ?_ | refine WL.store (v := _) st ty_one4 rfl rfl rfl (by first | decide | omega) rfl rfl ?_ | refine WL.store (v := .bool _) st.front1 ty_one4 rfl rfl rfl (by first | decide | omega) rfl rfl ?_ | refine WL.store (v := _) st.front1 ty_one4 rfl rfl rfl (by first | decide | omega) rfl rfl ?_ | refine WL.store (v := .bool _) st.front2 ty_one4 rfl rfl rfl (by first | decide | omega) rfl rfl ?_ | refine WL.store (v := _) st.front2 ty_one4 rfl rfl rfl (by first | decide | omega) rfl rfl ?_ | refine WL.store (v := .bool _) st.front3 ty_one4 rfl rfl rfl (by first | decide | omega) rfl rfl ?_ | refine WL.store (v := _) st.front3 ty_one4 rfl rfl rfl (by first | decide | omega) rfl rfl ?_ | refine WL.store (v := .bool _) st.front4 ty_one4 rfl rfl rfl (by first | decide | omega) rfl rfl ?_ | refine WL.store (v := _) st.front4 ty_one4 rfl rfl rfl (by first | decide | omega) rfl rfl ?_ | refine WL.store (v := .bool _) st.front5 ty_one4 rfl rfl rfl (by first | decide | omega) rfl rfl ?_ | refine WL.store (v := _) st.front5 ty_one4 rfl rfl rfl (by first | decide | omega) rfl rfl ?_ | refine WL.store (v := .bool _) st.front6 ty_one4 rfl rfl rfl (by first | decide | omega) rfl rfl ?_ | refine WL.store (v := _) st.front6 ty_one4 rfl rfl rfl (by first | decide | omega) rfl rfl ?_ | refine WL.store (v := .bool _) st.front7 ty_one4 rfl rfl rfl (by first | decide | omega) rfl rfl ?_ | refine WL.store (v := _) st.front7 ty_one4 rfl rfl rfl (by first | decide | omega) rfl rfl ?_ | refine WL.store (v := .bool _) st.front8 ty_one4 rfl rfl rfl (by first | decide | omega) rfl rfl ?_ | refine WL.store (v := _) st.front8 ty_one4 rfl rfl rfl (by first | decide | omega) rfl rfl ?_
      intro w st
      refine WL.fin hK2752 (fun _ _ h => h) ?_
      -- region 25
      refine WC.region ?_
      -- R25.0 85 := graph.go:30 binOp
      refine WL.v (by first | exact r_add rfl rfl (wi64 (by omega) (by omega)) | exact r_add rfl rfl rfl) rfl rfl rfl ?_
      -- R25.1 59 := graph.go:30 move
      refine WL.v (by first | exact r_move (v := .int _ _) rfl | exact r_move rfl) rfl rfl rfl ?_
      refine WL.next hK6 (fun _ _ h => h) (c + 1) ⟨hc', stE (wsM_set ha' hc' (by rw [h1, h2]; rfl)) st⟩ (by omega) (by repeat (first | exact sub_nil _ | refine sub_cons rfl rfl ?_))
    refine WC.seq fun K2754 hK2754 => ?_
    -- region 22
    refine WC.region ?_
    -- R22.0 60 := graph.go:30 binOp
    refine WL.v (by first | exact r_lss rfl rfl (decide_eq_true (by omega)) | exact r_lss rfl rfl (decide_eq_false (by omega)) | exact r_lss rfl rfl rfl) rfl rfl rfl ?_
    refine WL.fin hK2754 (fun _ _ h => h) ?_
    refine WC.seq fun K2755 hK2755 => ?_
    refine WC.condT rfl rfl ?_
    refine WC.skipF hK2755 (fun _ _ h => h) ?_
    refine WC.seq fun K2756 hK2756 => ?_
    refine WC.block ?_
    refine WC.seq fun K2757 hK2757 => ?_
    -- region 23
    refine WC.region ?_
    -- R23.0 61 := graph.go:30 move
    refine WL.v (by first | exact r_move (v := .int _ _) rfl | exact r_move rfl) rfl rfl rfl ?_
    -- R23.1 10 := graph.go:30 assign
    refine WL.v (by first | exact r_assign (v := .int _ _) rfl | exact r_assign rfl) rfl rfl rfl ?_
    refine WL.fin hK2757 (fun _ _ h => h) ?_
    -- region 24 (draws)
    refine WC.tailS 23 st ty_mixed (by kernel_rfl) fun w st Kq hKq => ?_
    -- R24.0 62 := graph.go:31 move
    refine SL.v (by first | exact r_move (v := .int _ _) rfl | exact r_move rfl) rfl rfl rfl ?_
    -- R24.1 63 := graph.go:31 move
    refine SL.v (by first | exact r_move (v := .int _ _) rfl | exact r_move rfl) rfl rfl rfl ?_
    -- R24.2 64 := graph.go:31 move
    refine SL.v (by first | exact r_move (v := .int _ _) rfl | exact r_move rfl) rfl rfl rfl ?_
    -- R24.3 65 := graph.go:31 move
    refine SL.v (by first | exact r_move (v := .int _ _) rfl | exact r_move rfl) rfl rfl rfl ?_
    -- R24.4 66 := graph.go:31 indexAddr
    refine SL.v (by exact r_indexA (j := a) ty_ar89 rfl rfl rfl ha') rfl rfl rfl ?_
    -- R24.5 67 := graph.go:31 indexAddr
    refine SL.v (by exact r_indexA (j := c) ty_ar86 rfl rfl rfl hc') rfl rfl rfl ?_
    -- R24.6 68 := graph.go:31 load
    refine SL.v (by exact r_load1 (v := .bool false) ty_one4 rfl ((c_gB List.mem_cons_self ha' hc' (by omega) st).trans (by rw [wsM_here, h1]))) rfl rfl rfl ?_
    -- R24.7 69 := graph.go:31 move
    refine SL.v (by first | exact r_move (v := .bool _) rfl | exact r_move rfl) rfl rfl rfl ?_
    -- R24.8 70 := graph.go:31 move
    refine SL.v (by first | exact r_move (v := .int _ _) rfl | exact r_move rfl) rfl rfl rfl ?_
    -- R24.9 71 := graph.go:31 move
    refine SL.v (by first | exact r_move (v := .int _ _) rfl | exact r_move rfl) rfl rfl rfl ?_
    -- R24.10 72 := graph.go:31 indexAddr
    refine SL.v (by exact r_indexA (j := a) ty_ar89 rfl rfl rfl ha') rfl rfl rfl ?_
    -- R24.11 73 := graph.go:31 indexAddr
    refine SL.v (by exact r_indexA (j := v) ty_ar86 rfl rfl rfl hv') rfl rfl rfl ?_
    -- R24.12 74 := graph.go:31 load
    refine SL.v (by exact r_load1 (v := .bool true) ty_one4 rfl ((c_gB List.mem_cons_self ha' hv' (by omega) st).trans (by rw [wsM_col, h2]))) rfl rfl rfl ?_
    -- R24.13 75 := graph.go:31 move
    refine SL.v (by first | exact r_move (v := .bool _) rfl | exact r_move rfl) rfl rfl rfl ?_
    -- R24.14 76 := graph.go:31 move
    refine SL.v (by first | exact r_move (v := .int _ _) rfl | exact r_move rfl) rfl rfl rfl ?_
    -- R24.15 77 := graph.go:31 move
    refine SL.v (by first | exact r_move (v := .int _ _) rfl | exact r_move rfl) rfl rfl rfl ?_
    -- R24.16 78 := graph.go:31 indexAddr
    refine SL.v (by exact r_indexA (j := v) ty_ar89 rfl rfl rfl hv') rfl rfl rfl ?_
    -- R24.17 79 := graph.go:31 indexAddr
    refine SL.v (by exact r_indexA (j := c) ty_ar86 rfl rfl rfl hc') rfl rfl rfl ?_
    -- R24.18 80 := graph.go:31 load
    refine SL.v (by exact r_load1 (v := .bool (Q v c)) ty_one4 rfl ((c_gB List.mem_cons_self hv' hc' (by omega) st).trans (by rw [wsM_row]))) rfl rfl rfl ?_
    -- R24.19 81 := graph.go:31 pick
    refine SL.v (by first | exact r_pickT (v := .bool _) rfl rfl | exact r_pickF (v := .bool _) rfl rfl) rfl rfl rfl ?_
    -- R24.20 82 := graph.go:31 pick
    refine SL.v (by first | exact r_pickT (v := .bool _) rfl rfl | exact r_pickF (v := .bool _) rfl rfl) rfl rfl rfl ?_
    -- R24.21 83 := graph.go:31 indexAddr
    refine SL.v (by exact r_indexA (j := a) ty_ar89 rfl rfl rfl ha') rfl rfl rfl ?_
    -- R24.22 84 := graph.go:31 indexAddr
    refine SL.v (by exact r_indexA (j := c) ty_ar86 rfl rfl rfl hc') rfl rfl rfl ?_
    refine SL.fin hKq ?_
    -- R24.23 None := graph.go:31 store
    first | refine WL.store (v := .bool _) st ty_one4 rfl rfl rfl (by first | decide | omega) rfl rfl ?_ | refine WL.store (v := _) st ty_one4 rfl rfl rfl (by first | decide | omega) rfl rfl ?_ | refine WL.store (v := .bool _) st.front1 ty_one4 rfl rfl rfl (by first | decide | omega) rfl rfl ?_ | refine WL.store (v := _) st.front1 ty_one4 rfl rfl rfl (by first | decide | omega) rfl rfl ?_ | refine WL.store (v := .bool _) st.front2 ty_one4 rfl rfl rfl (by first | decide | omega) rfl rfl ?_ | refine WL.store (v := _) st.front2 ty_one4 rfl rfl rfl (by first | decide | omega) rfl rfl ?_ | refine WL.store (v := .bool _) st.front3 ty_one4 rfl rfl rfl (by first | decide | omega) rfl rfl ?_ | refine WL.store (v := _) st.front3 ty_one4 rfl rfl rfl (by first | decide | omega) rfl rfl ?_ | refine WL.store (v := .bool _) st.front4 ty_one4 rfl rfl rfl (by first | decide | omega) rfl rfl ?_ | refine WL.store (v := _) st.front4 ty_one4 rfl rfl rfl (by first | decide | omega) rfl rfl ?_ | refine WL.store (v := .bool _) st.front5 ty_one4 rfl rfl rfl (by first | decide | omega) rfl rfl ?_ | refine WL.store (v := _) st.front5 ty_one4 rfl rfl rfl (by first | decide | omega) rfl rfl ?_ | refine WL.store (v := .bool _) st.front6 ty_one4 rfl rfl rfl (by first | decide | omega) rfl rfl ?_ | refine WL.store (v := _) st.front6 ty_one4 rfl rfl rfl (by first | decide | omega) rfl rfl ?_ | refine WL.store (v := .bool _) st.front7 ty_one4 rfl rfl rfl (by first | decide | omega) rfl rfl ?_ | refine WL.store (v := _) st.front7 ty_one4 rfl rfl rfl (by first | decide | omega) rfl rfl ?_ | refine WL.store (v := .bool _) st.front8 ty_one4 rfl rfl rfl (by first | decide | omega) rfl rfl ?_ | refine WL.store (v := _) st.front8 ty_one4 rfl rfl rfl (by first | decide | omega) rfl rfl ?_
    intro w st
    refine WL.fin hK2756 (fun _ _ h => h) ?_
    -- region 25
    refine WC.region ?_
    -- R25.0 85 := graph.go:30 binOp
    refine WL.v (by first | exact r_add rfl rfl (wi64 (by omega) (by omega)) | exact r_add rfl rfl rfl) rfl rfl rfl ?_
    -- R25.1 59 := graph.go:30 move
    refine WL.v (by first | exact r_move (v := .int _ _) rfl | exact r_move rfl) rfl rfl rfl ?_
    refine WL.next hK6 (fun _ _ h => h) (c + 1) ⟨hc', stE (wsM_set ha' hc' (by rw [h1, h2]; simp)) st⟩ (by omega) (by repeat (first | exact sub_nil _ | refine sub_cons rfl rfl ?_))
  subst hv16
  refine WC.seq fun K2758 hK2758 => ?_
  -- region 16
  refine WC.region ?_
  -- R16.0 54 := graph.go:28 binOp
  refine WL.v (by first | exact r_lss rfl rfl (decide_eq_true (by omega)) | exact r_lss rfl rfl (decide_eq_false (by omega)) | exact r_lss rfl rfl rfl) rfl rfl rfl ?_
  refine WL.fin hK2758 (fun _ _ h => h) ?_
  refine WC.seq fun K2759 hK2759 => ?_
  refine WC.condF rfl rfl ?_
  refine WC.exitF hK2730 (fun _ _ h => h) ?_
  refine WC.seq fun K2760 hK2760 => ?_
  -- region 28
  refine WC.region ?_
  -- R28.0 11 := graph.go:35 assign
  refine WL.v (by first | exact r_assign (v := .int _ _) rfl | exact r_assign rfl) rfl rfl rfl ?_
  refine WL.fin hK2760 (fun _ _ h => h) ?_
  refine WC.seq fun K2761 hK2761 => ?_
  refine WC.seq fun K2762 hK2762 => ?_
  -- region 29
  refine WC.region ?_
  -- R29.0 88 := graph.go:36 move
  refine WL.v (by first | exact r_move (v := .int _ _) rfl | exact r_move rfl) rfl rfl rfl ?_
  refine WL.fin hK2762 (fun _ _ h => h) ?_
  refine WC.block ?_
  refine WC.loop (ι := Nat) (fun k => [(0, .pointer (some ⟨b, 0, none⟩)), (3, .pointer (some ⟨b3, 0, none⟩)), (11, .int .u16 (cycM s.held s.queue k : Nat)), (88, .int .i64 (k : Nat))])
    (fun k w' => k ≤ 16 ∧ S0 w0 ((b3, Row 89 256 (gB (wsN R 16))) :: l) w') (fun k => 16 - k) 0 ⟨Nat.zero_le _, st⟩ ?_ ?_
  · skip
    repeat (first | exact sub_nil _ | refine sub_cons rfl rfl ?_)
  clear st
  rintro k w ⟨hk, st⟩ K7 hK7
  by_cases hk16 : k = 16
  · subst hk16
    refine WC.seq fun K2763 hK2763 => ?_
    -- region 30
    refine WC.region ?_
    -- R30.0 89 := graph.go:36 binOp
    refine WL.v (by first | exact r_lss rfl rfl (decide_eq_true (by omega)) | exact r_lss rfl rfl (decide_eq_false (by omega)) | exact r_lss rfl rfl rfl) rfl rfl rfl ?_
    refine WL.fin hK2763 (fun _ _ h => h) ?_
    refine WC.seq fun K2764 hK2764 => ?_
    refine WC.condF rfl rfl ?_
    refine WC.exitF hK2761 (fun _ _ h => h) ?_
    refine WC.seq fun K2765 hK2765 => ?_
    -- region 35
    refine WC.region ?_
    -- R35.0 101 := graph.go:41 move
    refine WL.v (by first | exact r_move (v := .int _ _) rfl | exact r_move rfl) rfl rfl rfl ?_
    -- R35.1 2 := graph.go:41 assign
    refine WL.v (by first | exact r_assign (v := .int _ _) rfl | exact r_assign rfl) rfl rfl rfl ?_
    refine WL.fin hK2765 (fun _ _ h => h) ?_
    refine WC.ret1 Tryz.results26 (fun _ _ h => h) rfl ?_
    exact ⟨_, rfl, rfl, st.drop⟩
  have hk' : k < 16 := by omega
  have hlt : cycM s.held s.queue k < 65536 := maskP_lt _ k (by omega)
  have e : cycM s.held s.queue (k + 1) = if wsN R 16 k k then cycM s.held s.queue k ||| 2 ^ k else cycM s.held s.queue k := by rw [hRd]; rfl
  rcases h1 : wsN R 16 k k with _ | _
  · rw [h1] at e
    have e : cycM s.held s.queue (k + 1) = cycM s.held s.queue k := e
    refine WC.seq fun K2766 hK2766 => ?_
    -- region 30
    refine WC.region ?_
    -- R30.0 89 := graph.go:36 binOp
    refine WL.v (by first | exact r_lss rfl rfl (decide_eq_true (by omega)) | exact r_lss rfl rfl (decide_eq_false (by omega)) | exact r_lss rfl rfl rfl) rfl rfl rfl ?_
    refine WL.fin hK2766 (fun _ _ h => h) ?_
    refine WC.seq fun K2767 hK2767 => ?_
    refine WC.condT rfl rfl ?_
    refine WC.skipF hK2767 (fun _ _ h => h) ?_
    refine WC.seq fun K2768 hK2768 => ?_
    refine WC.block ?_
    refine WC.seq fun K2769 hK2769 => ?_
    -- region 31
    refine WC.region ?_
    -- R31.0 90 := graph.go:36 move
    refine WL.v (by first | exact r_move (v := .int _ _) rfl | exact r_move rfl) rfl rfl rfl ?_
    -- R31.1 12 := graph.go:36 assign
    refine WL.v (by first | exact r_assign (v := .int _ _) rfl | exact r_assign rfl) rfl rfl rfl ?_
    refine WL.fin hK2769 (fun _ _ h => h) ?_
    refine WC.seq fun K2770 hK2770 => ?_
    -- region 32
    refine WC.region ?_
    -- R32.0 91 := graph.go:37 move
    refine WL.v (by first | exact r_move (v := .int _ _) rfl | exact r_move rfl) rfl rfl rfl ?_
    -- R32.1 92 := graph.go:37 move
    refine WL.v (by first | exact r_move (v := .int _ _) rfl | exact r_move rfl) rfl rfl rfl ?_
    -- R32.2 93 := graph.go:37 indexAddr
    refine WL.v (by exact r_indexA (j := k) ty_ar89 rfl rfl rfl hk') rfl rfl rfl ?_
    -- R32.3 94 := graph.go:37 indexAddr
    refine WL.v (by exact r_indexA (j := k) ty_ar86 rfl rfl rfl hk') rfl rfl rfl ?_
    -- R32.4 95 := graph.go:37 load
    refine WL.v (by exact r_load1 (v := .bool false) ty_one4 rfl ((c_gB List.mem_cons_self hk' hk' (by omega) st).trans (by rw [h1]))) rfl rfl rfl ?_
    refine WL.fin hK2770 (fun _ _ h => h) ?_
    refine WC.condF rfl rfl ?_
    refine WC.skipF hK2768 (fun _ _ h => h) ?_
    -- region 34
    refine WC.region ?_
    -- R34.0 100 := graph.go:36 binOp
    refine WL.v (by first | exact r_add rfl rfl (wi64 (by omega) (by omega)) | exact r_add rfl rfl rfl) rfl rfl rfl ?_
    -- R34.1 88 := graph.go:36 move
    refine WL.v (by first | exact r_move (v := .int _ _) rfl | exact r_move rfl) rfl rfl rfl ?_
    refine WL.next hK7 (fun _ _ h => h) (k + 1) ⟨hk', st⟩ (by omega) (by rw [e]; repeat (first | exact sub_nil _ | refine sub_cons rfl rfl ?_))
  · rw [h1] at e
    have e : cycM s.held s.queue (k + 1) = cycM s.held s.queue k ||| 2 ^ k := e
    refine WC.seq fun K2771 hK2771 => ?_
    -- region 30
    refine WC.region ?_
    -- R30.0 89 := graph.go:36 binOp
    refine WL.v (by first | exact r_lss rfl rfl (decide_eq_true (by omega)) | exact r_lss rfl rfl (decide_eq_false (by omega)) | exact r_lss rfl rfl rfl) rfl rfl rfl ?_
    refine WL.fin hK2771 (fun _ _ h => h) ?_
    refine WC.seq fun K2772 hK2772 => ?_
    refine WC.condT rfl rfl ?_
    refine WC.skipF hK2772 (fun _ _ h => h) ?_
    refine WC.seq fun K2773 hK2773 => ?_
    refine WC.block ?_
    refine WC.seq fun K2774 hK2774 => ?_
    -- region 31
    refine WC.region ?_
    -- R31.0 90 := graph.go:36 move
    refine WL.v (by first | exact r_move (v := .int _ _) rfl | exact r_move rfl) rfl rfl rfl ?_
    -- R31.1 12 := graph.go:36 assign
    refine WL.v (by first | exact r_assign (v := .int _ _) rfl | exact r_assign rfl) rfl rfl rfl ?_
    refine WL.fin hK2774 (fun _ _ h => h) ?_
    refine WC.seq fun K2775 hK2775 => ?_
    -- region 32
    refine WC.region ?_
    -- R32.0 91 := graph.go:37 move
    refine WL.v (by first | exact r_move (v := .int _ _) rfl | exact r_move rfl) rfl rfl rfl ?_
    -- R32.1 92 := graph.go:37 move
    refine WL.v (by first | exact r_move (v := .int _ _) rfl | exact r_move rfl) rfl rfl rfl ?_
    -- R32.2 93 := graph.go:37 indexAddr
    refine WL.v (by exact r_indexA (j := k) ty_ar89 rfl rfl rfl hk') rfl rfl rfl ?_
    -- R32.3 94 := graph.go:37 indexAddr
    refine WL.v (by exact r_indexA (j := k) ty_ar86 rfl rfl rfl hk') rfl rfl rfl ?_
    -- R32.4 95 := graph.go:37 load
    refine WL.v (by exact r_load1 (v := .bool true) ty_one4 rfl ((c_gB List.mem_cons_self hk' hk' (by omega) st).trans (by rw [h1]))) rfl rfl rfl ?_
    refine WL.fin hK2775 (fun _ _ h => h) ?_
    refine WC.condT rfl rfl ?_
    -- region 33
    refine WC.region ?_
    -- R33.0 96 := graph.go:38 move
    refine WL.v (by first | exact r_move (v := .int _ _) rfl | exact r_move rfl) rfl rfl rfl ?_
    -- R33.1 97 := graph.go:38 move
    refine WL.v (by first | exact r_move (v := .int _ _) rfl | exact r_move rfl) rfl rfl rfl ?_
    -- R33.2 98 := graph.go:38 call
    refine WL.call (r_call ty_call30 rfl) rfl rfl rfl (bit_ok hk' st) ?_
    rintro _ w ⟨rfl, st⟩
    -- R33.3 99 := graph.go:38 binOp
    refine WL.v (by exact r_or (r := ((cycM s.held s.queue k ||| 2 ^ k : Nat) : Int)) rfl rfl (or16 hlt (pow16 hk'))) rfl rfl rfl ?_
    -- R33.4 11 := graph.go:38 assign
    refine WL.v (by first | exact r_assign (v := .int _ _) rfl | exact r_assign rfl) rfl rfl rfl ?_
    refine WL.fin hK2773 (fun _ _ h => h) ?_
    -- region 34
    refine WC.region ?_
    -- R34.0 100 := graph.go:36 binOp
    refine WL.v (by first | exact r_add rfl rfl (wi64 (by omega) (by omega)) | exact r_add rfl rfl rfl) rfl rfl rfl ?_
    -- R34.1 88 := graph.go:36 move
    refine WL.v (by first | exact r_move (v := .int _ _) rfl | exact r_move rfl) rfl rfl rfl ?_
    refine WL.next hK7 (fun _ _ h => h) (k + 1) ⟨hk', st⟩ (by omega) (by rw [e]; repeat (first | exact sub_nil _ | refine sub_cons rfl rfl ?_))
end Go.Proofs.Qxb6500834aGreatDoor

