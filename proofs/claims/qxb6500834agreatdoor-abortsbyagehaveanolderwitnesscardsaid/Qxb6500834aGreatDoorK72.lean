import Derived.Test.Qxb6500834aGreatDoorK71
set_option linter.unusedVariables false
set_option linter.unusedSimpArgs false
set_option maxRecDepth 20000
namespace Go.Proofs.Qxb6500834aGreatDoor
open Go.RowKit Go.E1 Go.Kern
theorem ty_ar91 : arT Tryz.prog 91 = some (16, 90, 2) := by kernel_rfl
theorem ty_fld90_0 : fldOff Tryz.prog 90 0 = some 0 := by kernel_rfl
theorem ty_fld90_1 : fldOff Tryz.prog 90 1 = some 1 := by kernel_rfl
variable {w0 : World} {l X : List HI} {w : World} {s s' s0 : KS} {t r N n : Nat} {qv qv' : Nat → Value}
variable {held claim : Nat → Nat → Nat} {queue : Nat → List (Nat × Nat)}

/-! Holt's reduction of a flat state. -/
def wnF (W : Nat → Nat × Nat) (i : Nat) : Value := if i % 2 = 0 then .int .i64 ((W (i / 2)).1 : Nat) else .int .i64 ((W (i / 2)).2 : Nat)
theorem wn_one {W : Nat → Nat × Nat} : ∀ k, k < 32 → (wnF W k).oneCell' = true := fun k _ => by unfold wnF; split <;> rfl
theorem wn_set {W : Nat → Nat × Nat} {t r u : Nat} (ht : t < 16) : ∀ k, k < 32 → upd (upd (wnF W) (0 + t * 2 + 0) (.int .i64 (r : Nat))) (0 + t * 2 + 1) (.int .i64 (u : Nat)) k = wnF (updN W t (r, u)) k := fun k hk => by
  rw [upd_eq, upd_eq]
  unfold wnF updN
  by_cases h1 : k = 0 + t * 2 + 1
  · rw [if_pos h1, if_neg (by omega), if_pos (by omega)]
  · rw [if_neg h1]
    by_cases h2 : k = 0 + t * 2 + 0
    · rw [if_pos h2, if_pos (by omega), if_pos (by omega)]
    · rw [if_neg h2]
      by_cases h3 : k % 2 = 0
      · rw [if_pos h3, if_pos h3, if_neg (by omega)]
      · rw [if_neg h3, if_neg h3, if_neg (by omega)]
/-- An entry that has been looked at. -/
def Seen (queue : Nat → List (Nat × Nat)) (r k r' : Nat) (q : Nat × Nat) : Prop := r' < r ∧ q ∈ queue r' ∨ r' = r ∧ q ∈ (queue r).take k
structure WnI (queue : Nat → List (Nat × Nat)) (r k : Nat) (W : Nat → Nat × Nat) : Prop where
  y : ∀ r' q, Seen queue r k r' q → W q.1 = (r', q.2)
  n : ∀ t, (∀ r' q, Seen queue r k r' q → q.1 ≠ t) → W t = (0, 0)
theorem once_in (ho : Once queue) {k : Nat} {p q : Nat × Nat} (hr : r < 20) (hq : (queue r)[k]? = some q) (hp : p ∈ (queue r).take k) (e : p.1 = q.1) : False := by
  have h1 : (queue r).take (k + 1) = (queue r).take k ++ [q] := by rw [List.take_add_one, hq]; rfl
  have h2 : ((queue r).take (k + 1)).countP (fun x => x.1 == q.1) ≤ (queue r).countP fun x => x.1 == q.1 := List.Sublist.countP_le (List.take_sublist _ _)
  have h3 : 1 ≤ ((queue r).take k).countP fun x => x.1 == q.1 := List.countP_pos_iff.2 ⟨p, hp, by simp [e]⟩
  rw [h1, List.countP_append] at h2
  have h4 : [q].countP (fun x => x.1 == q.1) = 1 := by simp
  have h5 := sumP_ge (f := fun a => (queue a).countP fun x => x.1 == q.1) 20 hr
  have h6 := ho q.1
  unfold cntP at h6
  omega
theorem WnI.step {W : Nat → Nat × Nat} {k : Nat} {q : Nat × Nat} (ho : Once queue) (hr : r < 20) (hq : (queue r)[k]? = some q) (h : WnI queue r k W) : WnI queue r (k + 1) (updN W q.1 (r, q.2)) := by
  have ht : (queue r).take (k + 1) = (queue r).take k ++ [q] := by rw [List.take_add_one, hq]; rfl
  have hqm : q ∈ queue r := List.mem_of_getElem? hq
  refine ⟨fun r' p hp => ?_, fun t hn => ?_⟩
  · have key : Seen queue r k r' p ∨ (r' = r ∧ p = q) := by
      rcases hp with hp | ⟨h1, h2⟩
      · exact .inl (.inl hp)
      · rw [ht] at h2
        rcases List.mem_append.1 h2 with h2 | h2
        · exact .inl (.inr ⟨h1, h2⟩)
        · exact .inr ⟨h1, List.mem_singleton.1 h2⟩
    rcases key with hp | ⟨h1, h2⟩
    · by_cases e : p.1 = q.1
      · exfalso
        rcases hp with ⟨h3, h4⟩ | ⟨h3, h4⟩
        · have := once_same ho (by omega) hr h4 hqm e; omega
        · exact once_in ho hr hq h4 e
      · rw [updN_ne e]; exact h.y r' p hp
    · rw [h2, updN_same, h1]
  · have e : t ≠ q.1 := fun e => hn r q (.inr ⟨rfl, by rw [ht]; simp⟩) e.symm
    rw [updN_ne e]
    refine h.n t fun r' p hp => hn r' p ?_
    rcases hp with hp | ⟨h1, h2⟩
    · exact .inl hp
    · exact .inr ⟨h1, by rw [ht]; exact List.mem_append_left _ h2⟩
theorem seen_next {r' : Nat} {q : Nat × Nat} : Seen queue r (queue r).length r' q ↔ Seen queue (r + 1) 0 r' q := by
  unfold Seen
  rw [List.take_length]
  constructor
  · rintro (h | ⟨h1, h2⟩)
    · exact .inl ⟨by omega, h.2⟩
    · exact .inl ⟨by omega, by rw [h1]; exact h2⟩
  · rintro (⟨h1, h2⟩ | h)
    · by_cases e : r' = r
      · exact .inr ⟨e, by rw [← e]; exact h2⟩
      · exact .inl ⟨by omega, h2⟩
    · simp at h
theorem WnI.next {W : Nat → Nat × Nat} (h : WnI queue r (queue r).length W) : WnI queue (r + 1) 0 W := ⟨fun r' q hs => h.y r' q (seen_next.2 hs), fun t hn => h.n t fun r' q hs => hn r' q (seen_next.1 hs)⟩
theorem WnI.fits {W : Nat → Nat × Nat} {a : Nat → Bool} (h : WnI queue 20 0 W) (hs : ∀ r, sumP (fun t => held t r) 16 ≤ totP r) : (W t).1 < 20 ∧ ((((W t).2 : Nat) : Int) ≤ fuB held (W t).1 a ↔ wantF held queue a t) := by
  cases hp : waitP queue t with
  | none =>
    have e := h.n t fun r' q hq => by
      rcases hq with hq | hq
      · exact waitF_none 20 0 hp r' (by omega) (by omega) q hq.2
      · simp at hq
    rw [e]
    refine ⟨by decide, ⟨fun _ p k => (by rw [hp] at k; cases k), fun _ => ?_⟩⟩
    have := fuB_ge (held := held) (a := a) (hs 0)
    simpa using this
  | some p =>
    obtain ⟨g1, g2, g3⟩ := waitP_mem hp
    have e := h.y p.1 p.2 (.inl ⟨g1, g2⟩)
    rw [g3] at e
    rw [e]
    refine ⟨g1, ⟨fun k q hq => ?_, fun k => k p hp⟩⟩
    rw [hp] at hq
    cases hq
    exact k
theorem zeroW : zeroL Tryz.prog 91 = some ((List.range 32).map (wnF fun _ => (0, 0))) := by kernel_rfl
set_option maxHeartbeats 8000000 in
theorem stuckL_ok {b : Nat} (hD : gD w0) (ho : Once s.queue) (hi : INV s) (hh : ∀ t r, s.held t r ≤ 16) (hu : ∀ r p, p ∈ s.queue r → p.2 ≤ 16) (hm : sI b s qv ∈ l) (hq : ∀ r, r < 20 → ∃ X, QL0 (qv r) (s.queue r) X ∧ X ⊆ l) (st : S0 w0 l w) :
    Calls Tryz.prog 27 #[.pointer (some ⟨b, 0, none⟩)] w (Ret fun v w' => ∃ m : Nat, v = .int .u16 (m : Nat) ∧ m < 65536 ∧ (∀ t, t < 16 → (m.testBit t = true ↔ ¬ Red (wantF s.held s.queue) t)) ∧ S0 w0 l w') := by
  refine enter [.pointer (some ⟨b, 0, none⟩)] Tryz.func27 rfl Tryz.ntmps27 rfl ?_
  show WC _ _ _ 68 [] [(0, .pointer (some ⟨b, 0, none⟩))] _
  refine WC.seq fun K2776 hK2776 => ?_
  -- region 0
  refine WC.region ?_
  -- R0.0 2 := graph.go:45 assign
  refine WL.v (by first | exact r_assign (v := .int _ _) rfl | exact r_assign rfl) rfl rfl rfl ?_
  refine WL.fin hK2776 (fun _ _ h => h) ?_
  refine WC.seq fun K2777 hK2777 => ?_
  -- region 1
  refine WC.region ?_
  -- R1.0 3 := graph.go:46 alloc
  refine WL.allocN (m := 32) st zeroW rfl rfl ?_
  intro b3 w st
  refine WL.fin hK2777 (fun _ _ h => h) ?_
  refine WC.seq fun K2778 hK2778 => ?_
  refine WC.seq fun K2779 hK2779 => ?_
  -- region 2
  refine WC.region ?_
  -- R2.0 11 := graph.go:47 move
  refine WL.v (by first | exact r_move (v := .int _ _) rfl | exact r_move rfl) rfl rfl rfl ?_
  refine WL.fin hK2779 (fun _ _ h => h) ?_
  refine WC.block ?_
  refine WC.loop (ι := Nat × (Nat → Nat × Nat)) (fun y => [(0, .pointer (some ⟨b, 0, none⟩)), (3, .pointer (some ⟨b3, 0, none⟩)), (11, .int .i64 (y.1 : Nat))])
    (fun y w' => y.1 ≤ 20 ∧ WnI s.queue y.1 0 y.2 ∧ S0 w0 ((b3, Row 91 32 (wnF (y.2))) :: l) w') (fun y => 20 - y.1) (0, fun _ => (0, 0)) ⟨Nat.zero_le _, ⟨fun r' q hp => by rcases hp with hp | hp <;> simp at hp, fun _ _ => rfl⟩, st⟩ ?_ ?_
  · skip
    repeat (first | exact sub_nil _ | refine sub_cons rfl rfl ?_)
  clear st
  rintro ⟨r, W⟩ w ⟨hr, hR, st⟩ K1 hK1
  dsimp only at hr hR st ⊢
  by_cases h20 : r = 20
  rotate_left
  · have hr' : r < 20 := by omega
    obtain ⟨X1, hX1, hXs⟩ := hq r hr'
    obtain ⟨aq, cq, bq, hvq, hq1, hq2, hqa, hqcell⟩ := hX1.form
    refine WC.seq fun K2780 hK2780 => ?_
    -- region 3
    refine WC.region ?_
    -- R3.0 12 := graph.go:47 binOp
    refine WL.v (by first | exact r_lss rfl rfl (decide_eq_true (by omega)) | exact r_lss rfl rfl (decide_eq_false (by omega)) | exact r_lss rfl rfl rfl) rfl rfl rfl ?_
    refine WL.fin hK2780 (fun _ _ h => h) ?_
    refine WC.seq fun K2781 hK2781 => ?_
    refine WC.condT rfl rfl ?_
    refine WC.skipF hK2781 (fun _ _ h => h) ?_
    refine WC.seq fun K2782 hK2782 => ?_
    refine WC.block ?_
    refine WC.seq fun K2783 hK2783 => ?_
    -- region 4
    refine WC.region ?_
    -- R4.0 13 := graph.go:47 move
    refine WL.v (by first | exact r_move (v := .int _ _) rfl | exact r_move rfl) rfl rfl rfl ?_
    -- R4.1 4 := graph.go:47 assign
    refine WL.v (by first | exact r_assign (v := .int _ _) rfl | exact r_assign rfl) rfl rfl rfl ?_
    refine WL.fin hK2783 (fun _ _ h => h) ?_
    refine WC.seq fun K2784 hK2784 => ?_
    -- region 5
    refine WC.region ?_
    -- R5.0 14 := graph.go:48 move
    refine WL.v (by first | exact r_move (v := .pointer _) rfl | exact r_move rfl) rfl rfl rfl ?_
    -- R5.1 15 := graph.go:48 move
    refine WL.v (by first | exact r_move (v := .int _ _) rfl | exact r_move rfl) rfl rfl rfl ?_
    -- R5.2 16 := graph.go:48 nilCheck
    refine WL.v (by exact r_nilCheck rfl) rfl rfl rfl ?_
    -- R5.3 17 := graph.go:48 fieldAddr
    refine WL.v (by exact r_field ty_fld50_6 rfl) rfl rfl rfl ?_
    -- R5.4 18 := graph.go:48 indexAddr
    refine WL.v (by exact r_indexA (j := r) ty_ar47 rfl rfl rfl hr') rfl rfl rfl ?_
    -- R5.5 19 := graph.go:48 load
    refine WL.v (by exact r_load1 (v := .slice aq (s.queue r).length cq) ty_one46 rfl (by rw [← hvq]; exact c_sQ (List.mem_cons_of_mem _ hm) hr' (by omega) st)) rfl rfl rfl ?_
    -- R5.6 20 := graph.go:48 call
    refine WL.v (by exact r_len ty_usl46 rfl) rfl rfl rfl ?_
    -- R5.7 21 := graph.go:48 move
    refine WL.v (by first | exact r_move (v := .int _ _) rfl | exact r_move rfl) rfl rfl rfl ?_
    refine WL.fin hK2784 (fun _ _ h => h) ?_
    refine WC.block ?_
    refine WC.loop (ι := Nat × (Nat → Nat × Nat)) (fun y => [(0, .pointer (some ⟨b, 0, none⟩)), (3, .pointer (some ⟨b3, 0, none⟩)), (11, .int .i64 (r : Nat)), (4, .int .i64 (r : Nat)), (19, .slice aq (s.queue r).length cq), (20, .int .i64 ((s.queue r).length : Nat)), (21, .int .i64 (y.1 : Nat))])
      (fun y w' => y.1 ≤ (s.queue r).length ∧ WnI s.queue r y.1 y.2 ∧ S0 w0 ((b3, Row 91 32 (wnF (y.2))) :: l) w') (fun y => (s.queue r).length - y.1) (0, W) ⟨Nat.zero_le _, hR, st⟩ ?_ ?_
    · skip
      repeat (first | exact sub_nil _ | refine sub_cons rfl rfl ?_)
    clear st hR
    rintro ⟨k, W⟩ w ⟨hk, hR, st⟩ K2 hK2
    dsimp only at hk hR st ⊢
    by_cases hkl : k = (s.queue r).length
    · subst hkl
      refine WC.seq fun K2785 hK2785 => ?_
      -- region 6
      refine WC.region ?_
      -- R6.0 22 := graph.go:48 binOp
      refine WL.v (by first | exact r_lss rfl rfl (decide_eq_true (by omega)) | exact r_lss rfl rfl (decide_eq_false (by omega)) | exact r_lss rfl rfl rfl) rfl rfl rfl ?_
      refine WL.fin hK2785 (fun _ _ h => h) ?_
      refine WC.seq fun K2786 hK2786 => ?_
      refine WC.condF rfl rfl ?_
      refine WC.exitF hK2782 (fun _ _ h => h) ?_
      -- region 10
      refine WC.region ?_
      -- R10.0 37 := graph.go:47 binOp
      refine WL.v (by first | exact r_add rfl rfl (wi64 (by omega) (by omega)) | exact r_add rfl rfl rfl) rfl rfl rfl ?_
      -- R10.1 11 := graph.go:47 move
      refine WL.v (by first | exact r_move (v := .int _ _) rfl | exact r_move rfl) rfl rfl rfl ?_
      refine WL.next hK1 (fun _ _ h => h) (r + 1, W) ⟨hr', hR.next, st⟩ (by show 20 - (r + 1) < 20 - r; omega) (by repeat (first | exact sub_nil _ | refine sub_cons rfl rfl ?_))
    have hkl' : k < (s.queue r).length := by omega
    obtain ⟨q, he⟩ : ∃ e, (s.queue r)[k]? = some e := ⟨(s.queue r)[k], List.getElem?_eq_getElem hkl'⟩
    have hq16' := (hi.qt r q (List.mem_of_getElem? he)).2.1
    have hstep := hR.step ho hr' he
    have hae := hqa (by omega)
    have hce := fun j hj => hqcell st (fun x hx => List.mem_cons_of_mem _ (hXs hx)) k q he j hj
    refine WC.seq fun K2787 hK2787 => ?_
    -- region 6
    refine WC.region ?_
    -- R6.0 22 := graph.go:48 binOp
    refine WL.v (by first | exact r_lss rfl rfl (decide_eq_true (by omega)) | exact r_lss rfl rfl (decide_eq_false (by omega)) | exact r_lss rfl rfl rfl) rfl rfl rfl ?_
    refine WL.fin hK2787 (fun _ _ h => h) ?_
    refine WC.seq fun K2788 hK2788 => ?_
    refine WC.condT rfl rfl ?_
    refine WC.skipF hK2788 (fun _ _ h => h) ?_
    refine WC.seq fun K2789 hK2789 => ?_
    refine WC.block ?_
    refine WC.seq fun K2790 hK2790 => ?_
    -- region 7
    refine WC.region ?_
    -- R7.0 23 := graph.go:48 indexAddr
    refine WL.v (by exact r_indexS (j := k) ty_sl46 (congrArg (fun x => Value.slice x (s.queue r).length cq) hae) rfl rfl (by omega)) rfl rfl rfl ?_
    -- R7.1 24 := graph.go:48 load
    refine WL.v (by exact r_loadL (vs := [.int .i64 (q.1 : Nat), .int .i64 (q.2 : Nat)]) ty_agg61 rfl ⟨by rw [Nat.zero_add]; exact hce 0 (by decide), by rw [Nat.zero_add]; exact hce 1 (by decide), trivial⟩) rfl rfl rfl ?_
    -- R7.2 6 := graph.go:48 alloc
    refine WL.alloc (m := 2) st ty_zero61 rfl rfl rfl ?_
    intro b6 w st
    -- R7.3 None := graph.go:48 store
    first | refine WL.storeW (vs := [_, _]) st ty_agg61 rfl rfl rfl rfl rfl rfl ?_ | refine WL.storeL (vs := [_, _]) st ty_agg61 rfl rfl rfl rfl (by first | decide | omega) rfl rfl ?_ | refine WL.storeW (vs := [_, _]) st.front1 ty_agg61 rfl rfl rfl rfl rfl rfl ?_ | refine WL.storeL (vs := [_, _]) st.front1 ty_agg61 rfl rfl rfl rfl (by first | decide | omega) rfl rfl ?_ | refine WL.storeW (vs := [_, _]) st.front2 ty_agg61 rfl rfl rfl rfl rfl rfl ?_ | refine WL.storeL (vs := [_, _]) st.front2 ty_agg61 rfl rfl rfl rfl (by first | decide | omega) rfl rfl ?_ | refine WL.storeW (vs := [_, _]) st.front3 ty_agg61 rfl rfl rfl rfl rfl rfl ?_ | refine WL.storeL (vs := [_, _]) st.front3 ty_agg61 rfl rfl rfl rfl (by first | decide | omega) rfl rfl ?_ | refine WL.storeW (vs := [_, _]) st.front4 ty_agg61 rfl rfl rfl rfl rfl rfl ?_ | refine WL.storeL (vs := [_, _]) st.front4 ty_agg61 rfl rfl rfl rfl (by first | decide | omega) rfl rfl ?_ | refine WL.storeW (vs := [_, _]) st.front5 ty_agg61 rfl rfl rfl rfl rfl rfl ?_ | refine WL.storeL (vs := [_, _]) st.front5 ty_agg61 rfl rfl rfl rfl (by first | decide | omega) rfl rfl ?_ | refine WL.storeW (vs := [_, _]) st.front6 ty_agg61 rfl rfl rfl rfl rfl rfl ?_ | refine WL.storeL (vs := [_, _]) st.front6 ty_agg61 rfl rfl rfl rfl (by first | decide | omega) rfl rfl ?_ | refine WL.storeW (vs := [_, _]) st.front7 ty_agg61 rfl rfl rfl rfl rfl rfl ?_ | refine WL.storeL (vs := [_, _]) st.front7 ty_agg61 rfl rfl rfl rfl (by first | decide | omega) rfl rfl ?_ | refine WL.storeW (vs := [_, _]) st.front8 ty_agg61 rfl rfl rfl rfl rfl rfl ?_ | refine WL.storeL (vs := [_, _]) st.front8 ty_agg61 rfl rfl rfl rfl (by first | decide | omega) rfl rfl ?_
    intro w st
    refine WL.fin hK2790 (fun _ _ h => h) ?_
    -- region 8 (draws)
    have st := st.front1
    refine WC.heldS [10, 11, 12] [0, 1, 2, 3, 4, 5, 6, 7, 8] [9, 10, 11, 12] st (st.drop) ty_mixed (by kernel_rfl) fun w st Kq hKq => ?_
    -- R8.0 25 := graph.go:49 fieldAddr
    refine HL.v (fun w st => by exact r_field ty_fld61_0 rfl) rfl rfl rfl ?_
    -- R8.1 26 := graph.go:49 load
    refine HL.v (fun w st => by exact r_load1 (v := .int .i64 (q.1 : Nat)) ty_one31 rfl (st.c0 (by decide))) rfl rfl rfl ?_
    -- R8.2 27 := graph.go:49 fieldAddr
    refine HL.v (fun w st => by exact r_field ty_fld61_0 rfl) rfl rfl rfl ?_
    -- R8.3 28 := graph.go:49 load
    refine HL.v (fun w st => by exact r_load1 (v := .int .i64 (q.1 : Nat)) ty_one31 rfl (st.c0 (by decide))) rfl rfl rfl ?_
    -- R8.4 29 := graph.go:49 move
    refine HL.v (fun w st => by first | exact r_move (v := .int _ _) rfl | exact r_move rfl) rfl rfl rfl ?_
    -- R8.5 30 := graph.go:49 fieldAddr
    refine HL.v (fun w st => by exact r_field ty_fld61_1 rfl) rfl rfl rfl ?_
    -- R8.6 31 := graph.go:49 load
    refine HL.v (fun w st => by exact r_load1 (v := .int .i64 (q.2 : Nat)) ty_one3 rfl (st.c0 (by decide))) rfl rfl rfl ?_
    -- R8.7 32 := graph.go:49 indexAddr
    refine HL.v (fun w st => by exact r_indexA (j := q.1) ty_ar91 rfl rfl rfl hq16') rfl rfl rfl ?_
    -- R8.8 33 := graph.go:49 fieldAddr
    refine HL.v (fun w st => by exact r_field ty_fld90_0 rfl) rfl rfl rfl ?_
    refine HL.fin hKq ?_
    refine TL.at ?_
    -- R8.9 None := graph.go:49 store
    refine WL.store (v := .int .i64 (r : Nat)) st ty_one3 rfl rfl rfl (by omega) rfl rfl ?_
    intro w st
    refine TL.nxt (st.drop) ?_
    refine TL.at ?_
    -- R8.10 34 := graph.go:49 indexAddr
    refine WL.v (by exact r_indexA (j := q.1) ty_ar91 rfl rfl rfl hq16') rfl rfl rfl ?_
    refine TL.nxt' rfl ?_
    refine TL.at ?_
    -- R8.11 35 := graph.go:49 fieldAddr
    refine WL.v (by exact r_field ty_fld90_1 rfl) rfl rfl rfl ?_
    refine TL.nxt' rfl ?_
    refine TL.at ?_
    -- R8.12 None := graph.go:49 store
    refine WL.store (v := .int .i64 (q.2 : Nat)) st ty_one3 rfl rfl rfl (by omega) rfl rfl ?_
    intro w st
    refine TL.nxt' rfl ?_
    refine TL.wl ?_
    refine WL.fin hK2789 (fun _ _ h => h) ?_
    -- region 9
    refine WC.region ?_
    -- R9.0 36 := graph.go:48 binOp
    refine WL.v (by first | exact r_add rfl rfl (wi64 (by omega) (by omega)) | exact r_add rfl rfl rfl) rfl rfl rfl ?_
    -- R9.1 21 := graph.go:48 move
    refine WL.v (by first | exact r_move (v := .int _ _) rfl | exact r_move rfl) rfl rfl rfl ?_
    refine WL.next hK2 (fun _ _ h => h) (k + 1, updN W q.1 (r, q.2)) ⟨hkl', hstep, (stE (wn_set hq16') st).drop1⟩ (by show (s.queue r).length - (k + 1) < (s.queue r).length - k; omega) (by repeat (first | exact sub_nil _ | refine sub_cons rfl rfl ?_))
  subst h20
  have hfit := fun (t : Nat) (a : Nat → Bool) => WnI.fits (held := s.held) (t := t) (a := a) hR hi.su
  clear hR
  refine WC.seq fun K2791 hK2791 => ?_
  -- region 3
  refine WC.region ?_
  -- R3.0 12 := graph.go:47 binOp
  refine WL.v (by first | exact r_lss rfl rfl (decide_eq_true (by omega)) | exact r_lss rfl rfl (decide_eq_false (by omega)) | exact r_lss rfl rfl rfl) rfl rfl rfl ?_
  refine WL.fin hK2791 (fun _ _ h => h) ?_
  refine WC.seq fun K2792 hK2792 => ?_
  refine WC.condF rfl rfl ?_
  refine WC.exitF hK2778 (fun _ _ h => h) ?_
  refine WC.seq fun K2793 hK2793 => ?_
  -- region 11
  refine WC.region ?_
  -- R11.0 7 := graph.go:52 assign
  refine WL.v (by first | exact r_assign (v := .int _ _) rfl | exact r_assign rfl) rfl rfl rfl ?_
  refine WL.fin hK2793 (fun _ _ h => h) ?_
  refine WC.seq fun K2794 hK2794 => ?_
  refine WC.seq fun K2795 hK2795 => ?_
  -- region 12
  refine WC.region ?_
  -- R12.0 8 := graph.go:53 assign
  refine WL.v (by first | exact r_assign (v := .bool _) rfl | exact r_assign rfl) rfl rfl rfl ?_
  refine WL.fin hK2795 (fun _ _ h => h) ?_
  refine WC.block ?_
  refine WC.loop (ι := Nat × Bool) (fun y => [(0, .pointer (some ⟨b, 0, none⟩)), (3, .pointer (some ⟨b3, 0, none⟩)), (7, .int .u16 (y.1 : Nat)), (8, .bool y.2)])
    (fun y w' => y.1 < 65536 ∧ (∀ t, t < 16 → y.1.testBit t = true → Red (wantF s.held s.queue) t) ∧ (y.2 = false → ∀ t, t < 16 → y.1.testBit t = false → ¬ wantF s.held s.queue y.1.testBit t) ∧ S0 w0 ((b3, Row 91 32 (wnF (W))) :: l) w') (fun y => (65536 - y.1) * 2 + (if y.2 then 1 else 0)) (0, true) ⟨by decide, (fun t _ k => by rw [Nat.zero_testBit] at k; cases k), (fun k => by cases k), st⟩ ?_ ?_
  · skip
    repeat (first | exact sub_nil _ | refine sub_cons rfl rfl ?_)
  clear st
  rintro ⟨g, ch⟩ w ⟨hg, hred, hcl, st⟩ K3 hK3
  dsimp only at hg hred hcl st ⊢
  rcases ch with _ | _
  · skip
    refine WC.seq fun K2796 hK2796 => ?_
    refine WC.seq fun K2797 hK2797 => ?_
    -- region 13
    refine WC.region ?_
    -- R13.0 38 := graph.go:53 move
    refine WL.v (by first | exact r_move (v := .bool _) rfl | exact r_move rfl) rfl rfl rfl ?_
    refine WL.fin hK2797 (fun _ _ h => h) ?_
    refine WC.condF rfl rfl ?_
    refine WC.exitF hK2794 (fun _ _ h => h) ?_
    refine WC.seq fun K2798 hK2798 => ?_
    -- region 22
    refine WC.region ?_
    -- R22.0 66 := graph.go:62 move
    refine WL.v (by first | exact r_move (v := .int _ _) rfl | exact r_move rfl) rfl rfl rfl ?_
    -- R22.1 67 := graph.go:62 unOp
    refine WL.v (by exact r_compl16 rfl hg) rfl rfl rfl ?_
    -- R22.2 2 := graph.go:62 assign
    refine WL.v (by first | exact r_assign (v := .int _ _) rfl | exact r_assign rfl) rfl rfl rfl ?_
    refine WL.fin hK2798 (fun _ _ h => h) ?_
    refine WC.ret1 Tryz.results27 (fun _ _ h => h) rfl ?_
    refine ⟨_, rfl, 65535 - g, rfl, by omega, fun t ht => ?_, st.drop⟩
    rw [compl16_bit hg ht]
    constructor
    · intro hb hr
      have := Red.closed (a := g.testBit) (hcl rfl) hr
      rw [this] at hb; cases hb
    · intro hr
      cases hx : g.testBit t with
      | false => rfl
      | true => exact absurd (hred t ht hx) hr
  clear hcl
  refine WC.seq fun K2799 hK2799 => ?_
  refine WC.seq fun K2800 hK2800 => ?_
  -- region 13
  refine WC.region ?_
  -- R13.0 38 := graph.go:53 move
  refine WL.v (by first | exact r_move (v := .bool _) rfl | exact r_move rfl) rfl rfl rfl ?_
  refine WL.fin hK2800 (fun _ _ h => h) ?_
  refine WC.condT rfl rfl ?_
  refine WC.skipF hK2799 (fun _ _ h => h) ?_
  refine WC.block ?_
  refine WC.seq fun K2801 hK2801 => ?_
  -- region 14
  refine WC.region ?_
  -- R14.0 8 := graph.go:54 assign
  refine WL.v (by first | exact r_assign (v := .bool _) rfl | exact r_assign rfl) rfl rfl rfl ?_
  refine WL.fin hK2801 (fun _ _ h => h) ?_
  refine WC.seq fun K2802 hK2802 => ?_
  -- region 15
  refine WC.region ?_
  -- R15.0 39 := graph.go:55 move
  refine WL.v (by first | exact r_move (v := .int _ _) rfl | exact r_move rfl) rfl rfl rfl ?_
  -- R15.1 40 := graph.go:55 unOp
  refine WL.v (by exact r_compl16 rfl hg) rfl rfl rfl ?_
  -- R15.2 41 := graph.go:55 call
  refine WL.call (r_call ty_call31 rfl) rfl rfl rfl (tasks_ok hD (show 65535 - g < 65536 by omega) st) ?_
  rintro _ w ⟨XT, hXT, st⟩
  obtain ⟨Ts, hTs⟩ : ∃ Ts, Ts = tasksP (65535 - g) := ⟨_, rfl⟩
  have hT16 : ∀ o, o ∈ Ts → o < 16 := fun o h => by rw [hTs] at h; exact tasksP_lt h
  have hTl : Ts.length ≤ 16 := by rw [hTs]; exact tasksP_len
  rw [← hTs] at hXT
  obtain ⟨at', ct, bt, rfl, hct1, hct2, hat', htcell⟩ := hXT.form
  -- R15.3 42 := graph.go:55 call
  refine WL.v (by exact r_len ty_usl54 rfl) rfl rfl rfl ?_
  -- R15.4 43 := graph.go:55 move
  refine WL.v (by first | exact r_move (v := .int _ _) rfl | exact r_move rfl) rfl rfl rfl ?_
  refine WL.fin hK2802 (fun _ _ h => h) ?_
  refine WC.block ?_
  refine WC.loop (ι := Nat × Nat × Bool) (fun y => [(0, .pointer (some ⟨b, 0, none⟩)), (3, .pointer (some ⟨b3, 0, none⟩)), (7, .int .u16 (y.2.1 : Nat)), (8, .bool y.2.2), (41, .slice at' Ts.length ct), (42, .int .i64 (Ts.length : Nat)), (43, .int .i64 (y.1 : Nat))])
    (fun y w' => y.1 ≤ Ts.length ∧ y.2.1 < 65536 ∧ (∀ t, t < 16 → y.2.1.testBit t = true → Red (wantF s.held s.queue) t) ∧ (y.2.2 = true → g < y.2.1) ∧ (y.2.2 = false → y.2.1 = g ∧ ∀ j t, j < y.1 → Ts[j]? = some t → ¬ wantF s.held s.queue g.testBit t) ∧ g ≤ y.2.1 ∧ S0 w0 ((b3, Row 91 32 (wnF (W))) :: (XT ++ l)) w') (fun y => Ts.length - y.1) (0, g, false) ⟨Nat.zero_le _, hg, hred, (fun k => by cases k), fun _ => ⟨rfl, fun j t hj => absurd hj (Nat.not_lt_zero _)⟩, Nat.le_refl _, st.perm (by classical exact List.perm_iff_count.2 fun x => by simp only [List.count_append, List.count_cons, List.count_nil, List.append_eq, List.cons_append, List.nil_append, List.append_assoc, Nat.add_zero, Nat.zero_add] <;> ac_rfl)⟩ ?_ ?_
  · skip
    repeat (first | exact sub_nil _ | refine sub_cons rfl rfl ?_)
  clear st hred
  rintro ⟨k, g', ch⟩ w ⟨hk, hg', hred, hc1, hc2, hgg, st⟩ K4 hK4
  dsimp only at hk hg' hred hc1 hc2 hgg st ⊢
  by_cases hkl : k = Ts.length
  · have st := (st_dropL (st.perm (by classical exact List.perm_iff_count.2 fun x => by simp only [List.count_append, List.count_cons, List.count_nil, List.append_eq, List.cons_append, List.nil_append, List.append_assoc, Nat.add_zero, Nat.zero_add] <;> ac_rfl) : S0 w0 (XT ++ ((b3, Row 91 32 (wnF (W))) :: l)) _))
    rcases ch with _ | _
    · obtain ⟨e, hno⟩ := hc2 rfl
      subst e
      refine WC.seq fun K2803 hK2803 => ?_
      -- region 16
      refine WC.region ?_
      -- R16.0 44 := graph.go:55 binOp
      refine WL.v (by first | exact r_lss rfl rfl (decide_eq_true (by omega)) | exact r_lss rfl rfl (decide_eq_false (by omega)) | exact r_lss rfl rfl rfl) rfl rfl rfl ?_
      refine WL.fin hK2803 (fun _ _ h => h) ?_
      refine WC.seq fun K2804 hK2804 => ?_
      refine WC.condF rfl rfl ?_
      refine WC.exitN hK3 (fun _ _ h => h) (g', false) ⟨hg', hred, fun _ t ht hb => ?_, st⟩ (by show (65536 - g') * 2 + 0 < (65536 - g') * 2 + 1; omega) (by repeat (first | exact sub_nil _ | refine sub_cons rfl rfl ?_))
      have hmm : t ∈ Ts := by rw [hTs]; exact tasksP_mem.2 ⟨ht, by rw [compl16_bit hg ht, hb]; rfl⟩
      obtain ⟨j, hj⟩ := List.getElem?_of_mem hmm
      have hjl := (List.getElem?_eq_some_iff.1 hj).1
      exact hno j t (by omega) hj
    · have := hc1 rfl
      refine WC.seq fun K2805 hK2805 => ?_
      -- region 16
      refine WC.region ?_
      -- R16.0 44 := graph.go:55 binOp
      refine WL.v (by first | exact r_lss rfl rfl (decide_eq_true (by omega)) | exact r_lss rfl rfl (decide_eq_false (by omega)) | exact r_lss rfl rfl rfl) rfl rfl rfl ?_
      refine WL.fin hK2805 (fun _ _ h => h) ?_
      refine WC.seq fun K2806 hK2806 => ?_
      refine WC.condF rfl rfl ?_
      refine WC.exitN hK3 (fun _ _ h => h) (g', true) ⟨hg', hred, (fun k => by cases k), st⟩ (by show (65536 - g') * 2 + 1 < (65536 - g) * 2 + 1; omega) (by repeat (first | exact sub_nil _ | refine sub_cons rfl rfl ?_))
  have hkl' : k < Ts.length := by omega
  obtain ⟨t, hv⟩ : ∃ v, Ts[k]? = some v := ⟨Ts[k], List.getElem?_eq_getElem hkl'⟩
  have ht16 := hT16 t (List.mem_of_getElem? hv)
  obtain ⟨hW20, hWf⟩ := hfit t g'.testBit
  obtain rfl := hat' (by omega)
  have hce := htcell st (fun x hx => List.mem_cons_of_mem _ (List.mem_append_left _ hx)) k t hv 0 (by decide)
  have hcW0 : ∀ {w : World}, S0 w0 ((b3, Row 91 32 (wnF (W))) :: (XT ++ l)) w → w.cell? ⟨b3, 0 + t * 2 + 0, none⟩ = some (.int .i64 ((W t).1 : Nat)) := fun st => (st.c0 (by omega)).trans (by unfold wnF; rw [if_pos (by omega), show (0 + t * 2 + 0) / 2 = t by omega])
  have hcW1 : ∀ {w : World}, S0 w0 ((b3, Row 91 32 (wnF (W))) :: (XT ++ l)) w → w.cell? ⟨b3, 0 + t * 2 + 1, none⟩ = some (.int .i64 ((W t).2 : Nat)) := fun st => (st.c0 (by omega)).trans (by unfold wnF; rw [if_neg (by omega), show (0 + t * 2 + 1) / 2 = t by omega])
  by_cases hw : wantF s.held s.queue g'.testBit t
  · have hR := Red.step wantF_mono ht16 hred hw
    refine WC.seq fun K2807 hK2807 => ?_
    -- region 16
    refine WC.region ?_
    -- R16.0 44 := graph.go:55 binOp
    refine WL.v (by first | exact r_lss rfl rfl (decide_eq_true (by omega)) | exact r_lss rfl rfl (decide_eq_false (by omega)) | exact r_lss rfl rfl rfl) rfl rfl rfl ?_
    refine WL.fin hK2807 (fun _ _ h => h) ?_
    refine WC.seq fun K2808 hK2808 => ?_
    refine WC.condT rfl rfl ?_
    refine WC.skipF hK2808 (fun _ _ h => h) ?_
    refine WC.seq fun K2809 hK2809 => ?_
    refine WC.block ?_
    refine WC.seq fun K2810 hK2810 => ?_
    -- region 17
    refine WC.region ?_
    -- R17.0 45 := graph.go:55 indexAddr
    refine WL.v (by exact r_indexS (j := k) ty_sl54 rfl rfl rfl (by omega)) rfl rfl rfl ?_
    -- R17.1 46 := graph.go:55 load
    refine WL.v (by exact r_load1 (v := .int .i64 (t : Nat)) ty_one31 rfl (by rw [Nat.zero_add]; exact hce)) rfl rfl rfl ?_
    -- R17.2 10 := graph.go:55 assign
    refine WL.v (by first | exact r_assign (v := .int _ _) rfl | exact r_assign rfl) rfl rfl rfl ?_
    refine WL.fin hK2810 (fun _ _ h => h) ?_
    refine WC.seq fun K2811 hK2811 => ?_
    -- region 18 (draws)
    refine WC.quietS st ty_mixed (by kernel_rfl) fun Kq hKq => ?_
    -- R18.0 47 := graph.go:56 move
    refine QL.v (fun w st => by first | exact r_move (v := .int _ _) rfl | exact r_move rfl) rfl rfl rfl ?_
    -- R18.1 48 := graph.go:56 indexAddr
    refine QL.v (fun w st => by exact r_indexA (j := t) ty_ar91 rfl rfl rfl ht16) rfl rfl rfl ?_
    -- R18.2 49 := graph.go:56 fieldAddr
    refine QL.v (fun w st => by exact r_field ty_fld90_1 rfl) rfl rfl rfl ?_
    -- R18.3 50 := graph.go:56 load
    refine QL.v (fun w st => by exact r_load1 (v := .int .i64 ((W t).2 : Nat)) ty_one3 rfl (hcW1 st)) rfl rfl rfl ?_
    -- R18.4 51 := graph.go:56 move
    refine QL.v (fun w st => by first | exact r_move (v := .pointer _) rfl | exact r_move rfl) rfl rfl rfl ?_
    -- R18.5 52 := graph.go:56 nilCheck
    refine QL.v (fun w st => by exact r_nilCheck rfl) rfl rfl rfl ?_
    -- R18.6 53 := graph.go:56 fieldAddr
    refine QL.v (fun w st => by exact r_field ty_fld50_4 rfl) rfl rfl rfl ?_
    -- R18.7 54 := graph.go:56 move
    refine QL.v (fun w st => by first | exact r_move (v := .int _ _) rfl | exact r_move rfl) rfl rfl rfl ?_
    -- R18.8 55 := graph.go:56 indexAddr
    refine QL.v (fun w st => by exact r_indexA (j := t) ty_ar91 rfl rfl rfl ht16) rfl rfl rfl ?_
    -- R18.9 56 := graph.go:56 fieldAddr
    refine QL.v (fun w st => by exact r_field ty_fld90_0 rfl) rfl rfl rfl ?_
    -- R18.10 57 := graph.go:56 load
    refine QL.v (fun w st => by exact r_load1 (v := .int .i64 ((W t).1 : Nat)) ty_one3 rfl (hcW0 st)) rfl rfl rfl ?_
    -- R18.11 58 := graph.go:56 move
    refine QL.v (fun w st => by first | exact r_move (v := .int _ _) rfl | exact r_move rfl) rfl rfl rfl ?_
    -- R18.12 59 := graph.go:56 call
    refine QL.call (val := .int .i64 (fuB s.held (W t).1 g'.testBit)) (fun w st => r_call ty_call39 rfl) rfl rfl rfl (fun w st => freeUnits_ok (r := (W t).1) (gone := g') (held := s.held) hg' hW20 (fun t r => Nat.le_trans (hh t r) (by decide)) (matH (List.mem_cons_of_mem _ (List.mem_append_right _ hm))) st) ?_
    -- R18.13 60 := graph.go:56 binOp
    refine QL.v (fun w st => by exact r_leq rfl rfl (decide_eq_true (hWf.2 hw))) rfl rfl rfl ?_
    refine QL.wl hKq fun w st => ?_
    refine WL.fin hK2811 (fun _ _ h => h) ?_
    refine WC.condT rfl rfl ?_
    refine WC.seq fun K2812 hK2812 => ?_
    -- region 19
    refine WC.region ?_
    -- R19.0 61 := graph.go:57 move
    refine WL.v (by first | exact r_move (v := .int _ _) rfl | exact r_move rfl) rfl rfl rfl ?_
    -- R19.1 62 := graph.go:57 move
    refine WL.v (by first | exact r_move (v := .int _ _) rfl | exact r_move rfl) rfl rfl rfl ?_
    -- R19.2 63 := graph.go:57 call
    refine WL.call (r_call ty_call30 rfl) rfl rfl rfl (bit_ok ht16 st) ?_
    rintro _ w ⟨rfl, st⟩
    -- R19.3 64 := graph.go:57 binOp
    refine WL.v (by exact r_or (r := ((g' ||| 2 ^ t : Nat) : Int)) rfl rfl (or16 hg' (pow16 ht16))) rfl rfl rfl ?_
    -- R19.4 7 := graph.go:57 assign
    refine WL.v (by first | exact r_assign (v := .int _ _) rfl | exact r_assign rfl) rfl rfl rfl ?_
    refine WL.fin hK2812 (fun _ _ h => h) ?_
    -- region 20
    refine WC.region ?_
    -- R20.0 8 := graph.go:58 assign
    refine WL.v (by first | exact r_assign (v := .bool _) rfl | exact r_assign rfl) rfl rfl rfl ?_
    refine WL.fin hK2809 (fun _ _ h => h) ?_
    -- region 21
    refine WC.region ?_
    -- R21.0 65 := graph.go:55 binOp
    refine WL.v (by first | exact r_add rfl rfl (wi64 (by omega) (by omega)) | exact r_add rfl rfl rfl) rfl rfl rfl ?_
    -- R21.1 43 := graph.go:55 move
    refine WL.v (by first | exact r_move (v := .int _ _) rfl | exact r_move rfl) rfl rfl rfl ?_
    refine WL.next hK4 (fun _ _ h => h) (k + 1, g' ||| 2 ^ t, true) ⟨hkl', orlt hg' (pow16 ht16), (fun u hu hb => by have hb : (g' ||| 2 ^ t).testBit u = true := hb; rw [or_upd] at hb; unfold updN at hb; split at hb; · { rename_i e; rw [e]; exact hR }; · { exact hred u hu hb }), fun _ => ?_, (fun k => by cases k), Nat.le_trans hgg Nat.left_le_or, st⟩ (by show Ts.length - (k + 1) < Ts.length - k; omega) (by repeat (first | exact sub_nil _ | refine sub_cons rfl rfl ?_))
    show g < g' ||| 2 ^ t
    rcases ch with _ | _
    · obtain ⟨e, _⟩ := hc2 rfl
      rw [e]
      refine or_gt ?_
      have hmm := List.mem_of_getElem? hv
      rw [hTs] at hmm
      have := (tasksP_mem.1 hmm).2
      rw [compl16_bit hg ht16] at this
      simpa using this
    · exact Nat.lt_of_lt_of_le (hc1 rfl) Nat.left_le_or
  · skip
    refine WC.seq fun K2813 hK2813 => ?_
    -- region 16
    refine WC.region ?_
    -- R16.0 44 := graph.go:55 binOp
    refine WL.v (by first | exact r_lss rfl rfl (decide_eq_true (by omega)) | exact r_lss rfl rfl (decide_eq_false (by omega)) | exact r_lss rfl rfl rfl) rfl rfl rfl ?_
    refine WL.fin hK2813 (fun _ _ h => h) ?_
    refine WC.seq fun K2814 hK2814 => ?_
    refine WC.condT rfl rfl ?_
    refine WC.skipF hK2814 (fun _ _ h => h) ?_
    refine WC.seq fun K2815 hK2815 => ?_
    refine WC.block ?_
    refine WC.seq fun K2816 hK2816 => ?_
    -- region 17
    refine WC.region ?_
    -- R17.0 45 := graph.go:55 indexAddr
    refine WL.v (by exact r_indexS (j := k) ty_sl54 rfl rfl rfl (by omega)) rfl rfl rfl ?_
    -- R17.1 46 := graph.go:55 load
    refine WL.v (by exact r_load1 (v := .int .i64 (t : Nat)) ty_one31 rfl (by rw [Nat.zero_add]; exact hce)) rfl rfl rfl ?_
    -- R17.2 10 := graph.go:55 assign
    refine WL.v (by first | exact r_assign (v := .int _ _) rfl | exact r_assign rfl) rfl rfl rfl ?_
    refine WL.fin hK2816 (fun _ _ h => h) ?_
    refine WC.seq fun K2817 hK2817 => ?_
    -- region 18 (draws)
    refine WC.quietS st ty_mixed (by kernel_rfl) fun Kq hKq => ?_
    -- R18.0 47 := graph.go:56 move
    refine QL.v (fun w st => by first | exact r_move (v := .int _ _) rfl | exact r_move rfl) rfl rfl rfl ?_
    -- R18.1 48 := graph.go:56 indexAddr
    refine QL.v (fun w st => by exact r_indexA (j := t) ty_ar91 rfl rfl rfl ht16) rfl rfl rfl ?_
    -- R18.2 49 := graph.go:56 fieldAddr
    refine QL.v (fun w st => by exact r_field ty_fld90_1 rfl) rfl rfl rfl ?_
    -- R18.3 50 := graph.go:56 load
    refine QL.v (fun w st => by exact r_load1 (v := .int .i64 ((W t).2 : Nat)) ty_one3 rfl (hcW1 st)) rfl rfl rfl ?_
    -- R18.4 51 := graph.go:56 move
    refine QL.v (fun w st => by first | exact r_move (v := .pointer _) rfl | exact r_move rfl) rfl rfl rfl ?_
    -- R18.5 52 := graph.go:56 nilCheck
    refine QL.v (fun w st => by exact r_nilCheck rfl) rfl rfl rfl ?_
    -- R18.6 53 := graph.go:56 fieldAddr
    refine QL.v (fun w st => by exact r_field ty_fld50_4 rfl) rfl rfl rfl ?_
    -- R18.7 54 := graph.go:56 move
    refine QL.v (fun w st => by first | exact r_move (v := .int _ _) rfl | exact r_move rfl) rfl rfl rfl ?_
    -- R18.8 55 := graph.go:56 indexAddr
    refine QL.v (fun w st => by exact r_indexA (j := t) ty_ar91 rfl rfl rfl ht16) rfl rfl rfl ?_
    -- R18.9 56 := graph.go:56 fieldAddr
    refine QL.v (fun w st => by exact r_field ty_fld90_0 rfl) rfl rfl rfl ?_
    -- R18.10 57 := graph.go:56 load
    refine QL.v (fun w st => by exact r_load1 (v := .int .i64 ((W t).1 : Nat)) ty_one3 rfl (hcW0 st)) rfl rfl rfl ?_
    -- R18.11 58 := graph.go:56 move
    refine QL.v (fun w st => by first | exact r_move (v := .int _ _) rfl | exact r_move rfl) rfl rfl rfl ?_
    -- R18.12 59 := graph.go:56 call
    refine QL.call (val := .int .i64 (fuB s.held (W t).1 g'.testBit)) (fun w st => r_call ty_call39 rfl) rfl rfl rfl (fun w st => freeUnits_ok (r := (W t).1) (gone := g') (held := s.held) hg' hW20 (fun t r => Nat.le_trans (hh t r) (by decide)) (matH (List.mem_cons_of_mem _ (List.mem_append_right _ hm))) st) ?_
    -- R18.13 60 := graph.go:56 binOp
    refine QL.v (fun w st => by exact r_leq rfl rfl (decide_eq_false fun k => hw (hWf.1 k))) rfl rfl rfl ?_
    refine QL.wl hKq fun w st => ?_
    refine WL.fin hK2817 (fun _ _ h => h) ?_
    refine WC.condF rfl rfl ?_
    refine WC.skipF hK2815 (fun _ _ h => h) ?_
    -- region 21
    refine WC.region ?_
    -- R21.0 65 := graph.go:55 binOp
    refine WL.v (by first | exact r_add rfl rfl (wi64 (by omega) (by omega)) | exact r_add rfl rfl rfl) rfl rfl rfl ?_
    -- R21.1 43 := graph.go:55 move
    refine WL.v (by first | exact r_move (v := .int _ _) rfl | exact r_move rfl) rfl rfl rfl ?_
    refine WL.next hK4 (fun _ _ h => h) (k + 1, g', ch) ⟨hkl', hg', hred, hc1, fun hch => ⟨(hc2 hch).1, fun j u hj hu => ?_⟩, hgg, st⟩ (by show Ts.length - (k + 1) < Ts.length - k; omega) (by repeat (first | exact sub_nil _ | refine sub_cons rfl rfl ?_))
    by_cases ej : j = k
    · subst ej; rw [hv] at hu; cases hu
      have := (hc2 hch).1
      rw [this] at hw; exact hw
    · exact (hc2 hch).2 j u (by have hj : j < k + 1 := hj; omega) hu
end Go.Proofs.Qxb6500834aGreatDoor

