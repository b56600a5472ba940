import Derived.Test.Qxb6500834aGreatDoorK74
import Derived.Test.Qxb6500834aGreatDoorK72
import Derived.Test.Qxb6500834aGreatDoorK59
set_option linter.unusedVariables false
set_option linter.unusedSimpArgs false
set_option maxRecDepth 20000
namespace Go.Proofs.Qxb6500834aGreatDoor
open Go.RowKit Go.E1 Go.Kern
theorem ty_call25 : callT Tryz.prog 25 = true := by kernel_rfl
theorem ty_call26 : callT Tryz.prog 26 = true := by kernel_rfl
theorem ty_call27 : callT Tryz.prog 27 = true := by kernel_rfl
variable {w0 : World} {l X : List HI} {w : World} {s s' s0 : KS} {t r N n : Nat} {qv qv' : Nat → Value}
variable {held claim : Nat → Nat → Nat} {queue : Nat → List (Nat × Nat)}

/-! Law: victims lie on cycles. -/
def stM (held : Nat → Nat → Nat) (queue : Nat → List (Nat × Nat)) : Nat := maskP (fun t => (stuckP held queue).testBit t) 16
theorem eq16 {x y : Nat} (hx : x < 65536) (hy : y < 65536) (h : ∀ t, t < 16 → (x.testBit t = true ↔ y.testBit t = true)) : x = y := Nat.eq_of_testBit_eq fun j => by
  by_cases hj : j < 16
  · have := h j hj
    cases hx : x.testBit j <;> cases hy : y.testBit j <;> simp_all
  · have h2 : 2 ^ 16 ≤ 2 ^ j := Nat.pow_le_pow_right (by decide) (by omega)
    rw [Nat.testBit_lt_two_pow (by omega), Nat.testBit_lt_two_pow (by omega)]
theorem stM_lt : stM held queue < 65536 := maskP_lt _ 16 (Nat.le_refl _)
theorem cycM_lt : cycM held queue 16 < 65536 := maskP_lt _ 16 (Nat.le_refl _)
theorem stM_bit (ht : t < 16) : (stM held queue).testBit t = true ↔ ¬ Red (wantF held queue) t := by
  unfold stM
  rw [maskP_bit, Bool.and_eq_true]
  exact ⟨fun h => (stuckP_spec ht).1 h.2, fun h => ⟨decide_eq_true ht, (stuckP_spec ht).2 h⟩⟩
def dmM (held : Nat → Nat → Nat) (queue : Nat → List (Nat × Nat)) : Nat := cycM held queue 16 &&& stM held queue
theorem dmM_lt : dmM held queue < 65536 := andlt cycM_lt
theorem dm_tasks : tasksP (dmM held queue) = tasksP (cycleP (waitsP held queue) &&& stuckP held queue) := by
  unfold tasksP
  refine List.filter_congr fun t ht => ?_
  have ht := List.mem_range.1 ht
  unfold dmM
  rw [Nat.testBit_and, Nat.testBit_and]
  have h1 : (cycM held queue 16).testBit t = (cycleP (waitsP held queue)).testBit t := Bool.eq_iff_iff.2 ((cycM_bit ht).trans (cycleP_spec ht).symm)
  have h2 : (stM held queue).testBit t = (stuckP held queue).testBit t := Bool.eq_iff_iff.2 ((stM_bit ht).trans (stuckP_spec ht).symm)
  rw [h1, h2]
theorem vic_fold {work : Nat → Nat} : ∀ (Ts : List Nat) (v : Nat), Ts.Pairwise (· < ·) → (∀ u, u ∈ Ts → v < u) → ∃ n : Nat, Ts.foldl (vicF work) (v : Int) = n ∧ (n = v ∨ n ∈ Ts) ∧ (work n ≤ work v ∧ (work v = work n → v ≤ n)) ∧ ∀ u, u ∈ Ts → work n ≤ work u ∧ (work u = work n → u ≤ n)
  | [], v, _, _ => ⟨v, rfl, .inl rfl, ⟨Nat.le_refl _, fun _ => Nat.le_refl _⟩, fun u hu => by cases hu⟩
  | t :: Ts, v, hp, hv => by
    have hp' := List.pairwise_cons.1 hp
    have hvt := hv t List.mem_cons_self
    rw [List.foldl_cons]
    have e : vicF work (v : Int) t = if work t ≤ work v then (t : Int) else (v : Int) := by
      unfold vicF
      by_cases h : work t ≤ work v
      · rw [if_pos (.inr h), if_pos h]
      · rw [if_neg (c := (v : Int) = -1 ∨ work t ≤ work (v : Int).toNat) (fun k => k.elim (fun k => by omega) fun k => h k), if_neg h]
    rw [e]
    split
    · rename_i h
      obtain ⟨n, h1, h2, h3, h4⟩ := vic_fold Ts t hp'.2 hp'.1
      refine ⟨n, h1, .inr ?_, ⟨by omega, fun k => ?_⟩, fun u hu => ?_⟩
      · rcases h2 with k | k
        · rw [k]; exact List.mem_cons_self
        · exact List.mem_cons_of_mem _ k
      · have := h3.2 (by omega); omega
      · rcases List.mem_cons.1 hu with k | k
        · rw [k]; exact h3
        · exact h4 u k
    · rename_i h
      obtain ⟨n, h1, h2, h3, h4⟩ := vic_fold Ts v hp'.2 (fun u hu => hv u (List.mem_cons_of_mem _ hu))
      refine ⟨n, h1, ?_, h3, fun u hu => ?_⟩
      · rcases h2 with k | k
        · exact .inl k
        · exact .inr (List.mem_cons_of_mem _ k)
      · rcases List.mem_cons.1 hu with k | k
        · rw [k]; exact ⟨by omega, fun q => by omega⟩
        · exact h4 u k
theorem tasksP_sorted {m : Nat} : (tasksP m).Pairwise (· < ·) := by
  unfold tasksP
  exact List.pairwise_lt_range.filter _
theorem vic_none (h : victimP s = -1) : dmM s.held s.queue = 0 := by
  refine tasksP_nil dmM_lt ?_
  rw [dm_tasks]
  unfold victimP victimQ at h
  have hs := tasksP_sorted (m := cycleP (waitsP s.held s.queue) &&& stuckP s.held s.queue)
  revert h hs
  generalize tasksP (cycleP (waitsP s.held s.queue) &&& stuckP s.held s.queue) = Ts
  intro h hs
  cases Ts with
  | nil => rfl
  | cons t Ts =>
    exfalso
    have hp := List.pairwise_cons.1 hs
    obtain ⟨n, h1, _⟩ := vic_fold (work := fun i => (s.tk i).n) Ts t hp.2 hp.1
    rw [List.foldl_cons, show vicF (fun i => (s.tk i).n) (-1) t = (t : Int) from if_pos (.inl rfl), h1] at h
    omega
theorem vic_some {v : Nat} (h : victimP s = v) : v < 16 ∧ (dmM s.held s.queue).testBit v = true ∧ ∀ u, u ∈ tasksP (dmM s.held s.queue) → (s.tk v).n ≤ (s.tk u).n ∧ ((s.tk u).n = (s.tk v).n → u ≤ v) := by
  have hm := victim_mem h
  rw [← dm_tasks] at hm
  refine ⟨(tasksP_mem.1 hm).1, (tasksP_mem.1 hm).2, ?_⟩
  rw [dm_tasks]
  unfold victimP victimQ at h
  have hs := tasksP_sorted (m := cycleP (waitsP s.held s.queue) &&& stuckP s.held s.queue)
  revert h hs
  generalize tasksP (cycleP (waitsP s.held s.queue) &&& stuckP s.held s.queue) = Ts
  intro h hs
  cases Ts with
  | nil => exact fun u hu => by cases hu
  | cons t Ts =>
    have hp := List.pairwise_cons.1 hs
    obtain ⟨n, h1, h2, h3, h4⟩ := vic_fold (work := fun i => (s.tk i).n) Ts t hp.2 hp.1
    rw [List.foldl_cons, show vicF (fun i => (s.tk i).n) (-1) t = (t : Int) from if_pos (.inl rfl), h1] at h
    obtain rfl : n = v := by omega
    intro u hu
    rcases List.mem_cons.1 hu with k | k
    · rw [k]; exact h3
    · exact h4 u k
theorem detect_step {o : Kern.Op} (hk : o.kind = 11) (hi : INV s) (h0 : s.told = []) : (victimP s = -1 ∧ (stepP s o).2.1 = 2) ∨ ∃ v : Nat, v < 16 ∧ victimP s = v ∧ (stepP s o).2.1 = 0 ∧ (stepP s o).2.2 = v ∧ toldP (stepP s o).1.told 3 = 2 ^ v := by
  have e : stepP s o = detectP s := by unfold stepP; rw [hk]; rfl
  rw [e]
  unfold detectP
  rcases victimP_or (s := s) with h | ⟨v, hv, h⟩
  · rw [if_pos h]; exact .inl ⟨h, rfl⟩
  · rw [if_neg (by omega)]
    refine .inr ⟨v, hv, h, rfl, h, ?_⟩
    show toldP (wakeP (abortP s (victimP s).toNat)).told 3 = _
    rw [h, Int.toNat_natCast]
    have h2 := (RL.of (s := s) (W := [v]) h0 (by simp) (fun x hx => by rw [List.mem_singleton.1 hx]; exact hi.wl v (victim_waits hi h))).2
    refine Nat.eq_of_testBit_eq fun j => ?_
    have := h2 j
    rw [Nat.testBit_two_pow]
    refine Eq.trans this ?_
    simp [eq_comm]
theorem run_mode (op : Nat → Kern.Op) : ∀ i, (runP op i).mode < 4
  | 0 => by show 0 < 4; decide
  | i + 1 => by
    have key : ∀ {s s' : KS} {o : Kern.Op} {c k : Int}, StepR s o s' c k → s.mode < 4 → s'.mode < 4 := by
      intro s s' o c k hR h
      have cr : ∀ {FL : List (Nat × Nat × Nat)} {x y : KS}, Core FL x y → x.mode = s.mode → y.mode < 4 := fun hc e => by rw [hc.sm.mode, e]; exact h
      cases hR using StepR.elim with
      | refuse c h0' h1 h3 => exact h
      | mode hk m hm ha => exact hm
      | born hk t hs => exact h
      | declare hk t r u hA hB hC hc hr hu hh => exact h
      | take hk t r u hA hB hC h' hcl W hW ha hat => exact cr (FL := []) (y := woundS s W) (Core.wound (wound_lt hW)) rfl
      | pend hk t r u tim hA hB' hC ht0 htim h' hcl W hW hd' ha0 ha hat => rw [enq_mode]; exact cr (FL := []) (Core.wound (by rw [hW]; exact woundL_lt)) rfl
      | die hk t r u hA hB' hC h' hd' ha0 => exact cr (FL := []) (Core.wake (s := abortP s t)) rfl
      | release hk t r hA hB' hc hr hn => exact cr (FL := []) (Core.wake (s := { s with held := upd2 s.held t r 0 })) rfl
      | write hk t c hA hB hc hc12 hh hn => exact h
      | commit hk t hA hc => exact h
      | exit hk t hA hc => exact cr (FL := []) (Core.wake (s := exitS s t)) rfl
      | tick hk h16 => exact cr (Core.tick h16) rfl
      | detect hk v hv hv16 => exact cr (FL := []) (Core.wake (s := abortP s v)) rfl
    exact key (s' := (stepP (runP op i) (op i)).1) (step_R (o := op i) (run_KI op i).b (run_INV op i)) (run_mode op i)
theorem not_detect (op : Nat → Kern.Op) (i : Nat) (hm : (runP op i).mode ≠ 0) : victimP (runP op i) = -1 := by
  have h4 := run_mode op i
  by_cases h3 : (runP op i).mode = 3
  · exact bk_victim (run_BkS op i) h3
  · exact age_victim (run_AgeS op i) (by omega)
set_option maxHeartbeats 4000000 in
theorem victims1_ok {o : Kern.Op} {bB bA : Nat} {code task : Int} {ov : Value} {ans : List (Nat × Nat × Nat)}  (hD : gD w0) (h16 : ∀ a, a ∈ ans → a.1 < 16) (hi : INV s) (hh : ∀ t r, s.held t r ≤ 16) (hqu : ∀ r p, p ∈ s.queue r → p.2 ≤ 16) (hnb : ∀ t, (s.tk t).n ≤ 64) (h2 : o.kind ≠ 11 → code ≠ 2) (hdet : o.kind = 11 → (victimP s = -1 ∧ code = 2) ∨ ∃ v : Nat, v < 16 ∧ victimP s = v ∧ code = 0 ∧ task = v ∧ toldP ans 3 = 2 ^ v) (hm : s.mode ≠ 0 → victimP s = -1) (hck : CK s s' ans bB bA qv qv' ov l) (st : S0 w0 l w) :
    Calls Tryz.prog 25 #[.agg (stepL o bB bA code task ov).toArray] w (Ret fun v w' => v = .bool true ∧ S0 w0 l w') := by
  obtain ⟨XO, ho, hXO⟩ := hck.a
  obtain ⟨a, c, b, rfl, hc1, hc2, ha, hcell⟩ := ho.form
  obtain ⟨fs, hfs⟩ : ∃ fs : Nat → Value, fs = nth (stepL o bB bA code task (.slice a ans.length c)) := ⟨_, rfl⟩
  have f0 : fs 0 = .int .u8 (o.kind : Nat) := by rw [hfs]; rfl
  have f1 : fs 1 = .int .i64 o.A := by rw [hfs]; rfl
  have f2 : fs 2 = .int .i64 o.B := by rw [hfs]; rfl
  have f3 : fs 3 = .int .i64 o.C := by rw [hfs]; rfl
  have f4 : fs 4 = .int .u64 (o.X : Nat) := by rw [hfs]; rfl
  have f5 : fs 5 = .pointer (some ⟨bB, 0, none⟩) := by rw [hfs]; rfl
  have f6 : fs 6 = .pointer (some ⟨bA, 0, none⟩) := by rw [hfs]; rfl
  have f7 : fs 7 = .int .i64 code := by rw [hfs]; rfl
  have f8 : fs 8 = .int .i64 task := by rw [hfs]; rfl
  have f9 : fs 9 = .slice a ans.length c := by rw [hfs]; rfl
  have hckA := fun (a : HI) => hck.c (a := a)
  have ho : Once s.queue := fun t => by
    by_cases ht : t < 16
    · rw [hi.q t ht]; split <;> omega
    · refine Nat.le_trans (Nat.le_of_eq ?_) (Nat.zero_le 1)
      unfold cntP
      rw [sumP_congr (g := fun _ => 0) 20 fun r hr => ?_]
      · rfl
      · refine List.countP_eq_zero.2 fun p hp => ?_
        have := (hi.qt r p hp).2.1
        simp; omega
  by_cases hk : o.kind = 11
  rotate_left
  · have h2 := h2 hk
    refine enter [.agg (stepL o bB bA code task (.slice a ans.length c)).toArray] Tryz.func25 rfl Tryz.ntmps25 rfl ?_
    show WC _ _ _ 99 [] [(0, .agg (stepL o bB bA code task (.slice a ans.length c)).toArray)] _
    refine WC.seq fun K2850 hK2850 => ?_
    -- region 0
    refine WC.region ?_
    -- R0.0 1 := graph.go:75 box
    refine WL.box (m := 10) (vs := stepL o bB bA code task (.slice a ans.length c)) st rfl rfl rfl rfl rfl rfl ?_
    intro b1 w st
    have st : S0 w0 ((b1, Row 36 10 fs) :: l) w := by rw [hfs]; exact st
    -- R0.1 2 := graph.go:75 assign
    refine WL.v (by first | exact r_assign (v := .bool _) rfl | exact r_assign rfl) rfl rfl rfl ?_
    refine WL.fin hK2850 (fun _ _ h => h) ?_
    refine WC.seq fun K2851 hK2851 => ?_
    refine WC.seq fun K2852 hK2852 => ?_
    -- region 1
    refine WC.region ?_
    -- R1.0 9 := graph.go:76 fieldAddr
    refine WL.v (by exact r_field ty_fld36_0 rfl) rfl rfl rfl ?_
    -- R1.1 10 := graph.go:76 fieldAddr
    refine WL.v (by exact r_field ty_fld28_0 rfl) rfl rfl rfl ?_
    -- R1.2 11 := graph.go:76 load
    refine WL.v (by exact r_load1 (v := .int .u8 (o.kind : Nat)) ty_one25 rfl (by rw [← f0]; exact st.c0 (by decide))) rfl rfl rfl ?_
    -- R1.3 12 := graph.go:76 binOp
    refine WL.v (by exact r_neq rfl rfl (decide_eq_true (by omega))) rfl rfl rfl ?_
    refine WL.fin hK2852 (fun _ _ h => h) ?_
    refine WC.condT rfl rfl ?_
    refine WC.seq fun K2853 hK2853 => ?_
    -- region 2
    refine WC.region ?_
    -- R2.0 13 := graph.go:77 fieldAddr
    refine WL.v (by exact r_field ty_fld36_3 rfl) rfl rfl rfl ?_
    -- R2.1 14 := graph.go:77 fieldAddr
    refine WL.v (by exact r_field ty_fld34_0 rfl) rfl rfl rfl ?_
    -- R2.2 15 := graph.go:77 load
    refine WL.v (by exact r_load1 (v := .int .i64 code) ty_one30 rfl (by rw [← f7]; exact st.c0 (by decide))) rfl rfl rfl ?_
    -- R2.3 16 := graph.go:77 binOp
    refine WL.v (by exact r_neq rfl rfl (decide_eq_true h2)) rfl rfl rfl ?_
    -- R2.4 2 := graph.go:77 assign
    refine WL.v (by first | exact r_assign (v := .bool _) rfl | exact r_assign rfl) rfl rfl rfl ?_
    refine WL.fin hK2853 (fun _ _ h => h) ?_
    refine WC.ret1 Tryz.results25 (fun _ _ h => h) rfl ?_
    exact ⟨_, rfl, rfl, st.drop⟩
  have hdet := hdet hk
  obtain ⟨dm, hdm⟩ : ∃ dm, dm = dmM s.held s.queue := ⟨_, rfl⟩
  have hdl : dm < 65536 := by rw [hdm]; exact dmM_lt
  by_cases hm0 : s.mode = 0
  rotate_left
  · have hv := hm hm0
    have hc2 : code = 2 := by
      rcases hdet with k | ⟨v, hv16, k, _⟩
      · exact k.2
      · omega
    refine enter [.agg (stepL o bB bA code task (.slice a ans.length c)).toArray] Tryz.func25 rfl Tryz.ntmps25 rfl ?_
    show WC _ _ _ 99 [] [(0, .agg (stepL o bB bA code task (.slice a ans.length c)).toArray)] _
    refine WC.seq fun K2854 hK2854 => ?_
    -- region 0
    refine WC.region ?_
    -- R0.0 1 := graph.go:75 box
    refine WL.box (m := 10) (vs := stepL o bB bA code task (.slice a ans.length c)) st rfl rfl rfl rfl rfl rfl ?_
    intro b1 w st
    have st : S0 w0 ((b1, Row 36 10 fs) :: l) w := by rw [hfs]; exact st
    -- R0.1 2 := graph.go:75 assign
    refine WL.v (by first | exact r_assign (v := .bool _) rfl | exact r_assign rfl) rfl rfl rfl ?_
    refine WL.fin hK2854 (fun _ _ h => h) ?_
    refine WC.seq fun K2855 hK2855 => ?_
    refine WC.seq fun K2856 hK2856 => ?_
    -- region 1
    refine WC.region ?_
    -- R1.0 9 := graph.go:76 fieldAddr
    refine WL.v (by exact r_field ty_fld36_0 rfl) rfl rfl rfl ?_
    -- R1.1 10 := graph.go:76 fieldAddr
    refine WL.v (by exact r_field ty_fld28_0 rfl) rfl rfl rfl ?_
    -- R1.2 11 := graph.go:76 load
    refine WL.v (by exact r_load1 (v := .int .u8 (o.kind : Nat)) ty_one25 rfl (by rw [← f0]; exact st.c0 (by decide))) rfl rfl rfl ?_
    -- R1.3 12 := graph.go:76 binOp
    refine WL.v (by exact r_neq rfl rfl (decide_eq_false (by omega))) rfl rfl rfl ?_
    refine WL.fin hK2856 (fun _ _ h => h) ?_
    refine WC.condF rfl rfl ?_
    refine WC.skipF hK2855 (fun _ _ h => h) ?_
    refine WC.seq fun K2857 hK2857 => ?_
    -- region 3 (draws)
    refine WC.quietS st ty_mixed (by kernel_rfl) fun Kq hKq => ?_
    -- R3.0 17 := graph.go:79 fieldAddr
    refine QL.v (fun w st => by exact r_field ty_fld36_1 rfl) rfl rfl rfl ?_
    -- R3.1 18 := graph.go:79 load
    refine QL.v (fun w st => by exact r_load1 (v := .pointer (some ⟨bB, 0, none⟩)) ty_one29 rfl (by rw [← f5]; exact st.c0 (by decide))) rfl rfl rfl ?_
    -- R3.2 19 := graph.go:79 call
    refine QL.call (val := .int .u16 (cycM s.held s.queue 16 : Nat)) (fun w st => r_call ty_call26 rfl) rfl rfl rfl (fun w st => onCycleL_ok ho (fun r p hp => (hi.qt r p hp).2.1) (hckA _).B (hckA _).q st) ?_
    -- R3.3 20 := graph.go:79 fieldAddr
    refine QL.v (fun w st => by exact r_field ty_fld36_1 rfl) rfl rfl rfl ?_
    -- R3.4 21 := graph.go:79 load
    refine QL.v (fun w st => by exact r_load1 (v := .pointer (some ⟨bB, 0, none⟩)) ty_one29 rfl (by rw [← f5]; exact st.c0 (by decide))) rfl rfl rfl ?_
    -- R3.5 22 := graph.go:79 call
    refine QL.call (val := .int .u16 (stM s.held s.queue : Nat)) (fun w st => r_call ty_call27 rfl) rfl rfl rfl (fun w st => (stuckL_ok hD ho hi hh hqu (hckA _).B (hckA _).q st).mono (by rintro _ _ ⟨v, rfl, m, rfl, hml, hmb, st⟩; exact ⟨_, rfl, by rw [eq16 hml stM_lt fun t ht => (hmb t ht).trans (stM_bit ht).symm], st⟩)) ?_
    -- R3.6 23 := graph.go:79 binOp
    refine QL.v (fun w st => by exact r_and (r := (dm : Nat)) rfl rfl (by rw [hdm]; exact and16 cycM_lt stM_lt)) rfl rfl rfl ?_
    -- R3.7 3 := graph.go:79 assign
    refine QL.v (fun w st => by first | exact r_assign (v := .int _ _) rfl | exact r_assign rfl) rfl rfl rfl ?_
    refine QL.wl hKq fun w st => ?_
    refine WL.fin hK2857 (fun _ _ h => h) ?_
    refine WC.seq fun K2858 hK2858 => ?_
    refine WC.seq fun K2859 hK2859 => ?_
    -- region 4
    refine WC.region ?_
    -- R4.0 24 := graph.go:80 fieldAddr
    refine WL.v (by exact r_field ty_fld36_1 rfl) rfl rfl rfl ?_
    -- R4.1 25 := graph.go:80 load
    refine WL.v (by exact r_load1 (v := .pointer (some ⟨bB, 0, none⟩)) ty_one29 rfl (by rw [← f5]; exact st.c0 (by decide))) rfl rfl rfl ?_
    -- R4.2 26 := graph.go:80 nilCheck
    refine WL.v (by exact r_nilCheck rfl) rfl rfl rfl ?_
    -- R4.3 27 := graph.go:80 fieldAddr
    refine WL.v (by exact r_field ty_fld50_0 rfl) rfl rfl rfl ?_
    -- R4.4 28 := graph.go:80 load
    refine WL.v (by exact r_load1 (v := .int .i64 (s.mode : Nat)) ty_one40 rfl (c_s (hckA _).B (by decide) rfl st)) rfl rfl rfl ?_
    -- R4.5 29 := graph.go:80 binOp
    refine WL.v (by exact r_neq rfl rfl (decide_eq_true (by omega))) rfl rfl rfl ?_
    -- R4.6 30 := graph.go:80 move
    refine WL.v (by first | exact r_move (v := .bool _) rfl | exact r_move rfl) rfl rfl rfl ?_
    -- R4.7 31 := graph.go:80 move
    refine WL.no rfl rfl ?_
    -- R4.8 32 := graph.go:80 binOp
    refine WL.no rfl rfl ?_
    -- R4.9 33 := graph.go:80 pick
    refine WL.v (by first | exact r_pickT (v := .bool _) rfl rfl | exact r_pickF (v := .bool _) rfl rfl) rfl rfl rfl ?_
    refine WL.fin hK2859 (fun _ _ h => h) ?_
    refine WC.condT rfl rfl ?_
    refine WC.seq fun K2860 hK2860 => ?_
    -- region 5
    refine WC.region ?_
    -- R5.0 34 := graph.go:81 fieldAddr
    refine WL.v (by exact r_field ty_fld36_3 rfl) rfl rfl rfl ?_
    -- R5.1 35 := graph.go:81 fieldAddr
    refine WL.v (by exact r_field ty_fld34_0 rfl) rfl rfl rfl ?_
    -- R5.2 36 := graph.go:81 load
    refine WL.v (by exact r_load1 (v := .int .i64 code) ty_one30 rfl (by rw [← f7]; exact st.c0 (by decide))) rfl rfl rfl ?_
    -- R5.3 37 := graph.go:81 binOp
    refine WL.v (by exact r_eql rfl rfl (decide_eq_true hc2)) rfl rfl rfl ?_
    -- R5.4 2 := graph.go:81 assign
    refine WL.v (by first | exact r_assign (v := .bool _) rfl | exact r_assign rfl) rfl rfl rfl ?_
    refine WL.fin hK2860 (fun _ _ h => h) ?_
    refine WC.ret1 Tryz.results25 (fun _ _ h => h) rfl ?_
    exact ⟨_, rfl, rfl, st.drop⟩
  rcases hdet with ⟨hv, hc2⟩ | ⟨v, hv16, hv, hc0, htk, htold⟩
  · have e0 : dm = 0 := by rw [hdm]; exact vic_none hv
    refine enter [.agg (stepL o bB bA code task (.slice a ans.length c)).toArray] Tryz.func25 rfl Tryz.ntmps25 rfl ?_
    show WC _ _ _ 99 [] [(0, .agg (stepL o bB bA code task (.slice a ans.length c)).toArray)] _
    refine WC.seq fun K2861 hK2861 => ?_
    -- region 0
    refine WC.region ?_
    -- R0.0 1 := graph.go:75 box
    refine WL.box (m := 10) (vs := stepL o bB bA code task (.slice a ans.length c)) st rfl rfl rfl rfl rfl rfl ?_
    intro b1 w st
    have st : S0 w0 ((b1, Row 36 10 fs) :: l) w := by rw [hfs]; exact st
    -- R0.1 2 := graph.go:75 assign
    refine WL.v (by first | exact r_assign (v := .bool _) rfl | exact r_assign rfl) rfl rfl rfl ?_
    refine WL.fin hK2861 (fun _ _ h => h) ?_
    refine WC.seq fun K2862 hK2862 => ?_
    refine WC.seq fun K2863 hK2863 => ?_
    -- region 1
    refine WC.region ?_
    -- R1.0 9 := graph.go:76 fieldAddr
    refine WL.v (by exact r_field ty_fld36_0 rfl) rfl rfl rfl ?_
    -- R1.1 10 := graph.go:76 fieldAddr
    refine WL.v (by exact r_field ty_fld28_0 rfl) rfl rfl rfl ?_
    -- R1.2 11 := graph.go:76 load
    refine WL.v (by exact r_load1 (v := .int .u8 (o.kind : Nat)) ty_one25 rfl (by rw [← f0]; exact st.c0 (by decide))) rfl rfl rfl ?_
    -- R1.3 12 := graph.go:76 binOp
    refine WL.v (by exact r_neq rfl rfl (decide_eq_false (by omega))) rfl rfl rfl ?_
    refine WL.fin hK2863 (fun _ _ h => h) ?_
    refine WC.condF rfl rfl ?_
    refine WC.skipF hK2862 (fun _ _ h => h) ?_
    refine WC.seq fun K2864 hK2864 => ?_
    -- region 3 (draws)
    refine WC.quietS st ty_mixed (by kernel_rfl) fun Kq hKq => ?_
    -- R3.0 17 := graph.go:79 fieldAddr
    refine QL.v (fun w st => by exact r_field ty_fld36_1 rfl) rfl rfl rfl ?_
    -- R3.1 18 := graph.go:79 load
    refine QL.v (fun w st => by exact r_load1 (v := .pointer (some ⟨bB, 0, none⟩)) ty_one29 rfl (by rw [← f5]; exact st.c0 (by decide))) rfl rfl rfl ?_
    -- R3.2 19 := graph.go:79 call
    refine QL.call (val := .int .u16 (cycM s.held s.queue 16 : Nat)) (fun w st => r_call ty_call26 rfl) rfl rfl rfl (fun w st => onCycleL_ok ho (fun r p hp => (hi.qt r p hp).2.1) (hckA _).B (hckA _).q st) ?_
    -- R3.3 20 := graph.go:79 fieldAddr
    refine QL.v (fun w st => by exact r_field ty_fld36_1 rfl) rfl rfl rfl ?_
    -- R3.4 21 := graph.go:79 load
    refine QL.v (fun w st => by exact r_load1 (v := .pointer (some ⟨bB, 0, none⟩)) ty_one29 rfl (by rw [← f5]; exact st.c0 (by decide))) rfl rfl rfl ?_
    -- R3.5 22 := graph.go:79 call
    refine QL.call (val := .int .u16 (stM s.held s.queue : Nat)) (fun w st => r_call ty_call27 rfl) rfl rfl rfl (fun w st => (stuckL_ok hD ho hi hh hqu (hckA _).B (hckA _).q st).mono (by rintro _ _ ⟨v, rfl, m, rfl, hml, hmb, st⟩; exact ⟨_, rfl, by rw [eq16 hml stM_lt fun t ht => (hmb t ht).trans (stM_bit ht).symm], st⟩)) ?_
    -- R3.6 23 := graph.go:79 binOp
    refine QL.v (fun w st => by exact r_and (r := (dm : Nat)) rfl rfl (by rw [hdm]; exact and16 cycM_lt stM_lt)) rfl rfl rfl ?_
    -- R3.7 3 := graph.go:79 assign
    refine QL.v (fun w st => by first | exact r_assign (v := .int _ _) rfl | exact r_assign rfl) rfl rfl rfl ?_
    refine QL.wl hKq fun w st => ?_
    refine WL.fin hK2864 (fun _ _ h => h) ?_
    refine WC.seq fun K2865 hK2865 => ?_
    refine WC.seq fun K2866 hK2866 => ?_
    -- region 4
    refine WC.region ?_
    -- R4.0 24 := graph.go:80 fieldAddr
    refine WL.v (by exact r_field ty_fld36_1 rfl) rfl rfl rfl ?_
    -- R4.1 25 := graph.go:80 load
    refine WL.v (by exact r_load1 (v := .pointer (some ⟨bB, 0, none⟩)) ty_one29 rfl (by rw [← f5]; exact st.c0 (by decide))) rfl rfl rfl ?_
    -- R4.2 26 := graph.go:80 nilCheck
    refine WL.v (by exact r_nilCheck rfl) rfl rfl rfl ?_
    -- R4.3 27 := graph.go:80 fieldAddr
    refine WL.v (by exact r_field ty_fld50_0 rfl) rfl rfl rfl ?_
    -- R4.4 28 := graph.go:80 load
    refine WL.v (by exact r_load1 (v := .int .i64 (s.mode : Nat)) ty_one40 rfl (c_s (hckA _).B (by decide) rfl st)) rfl rfl rfl ?_
    -- R4.5 29 := graph.go:80 binOp
    refine WL.v (by exact r_neq rfl rfl (decide_eq_false (by omega))) rfl rfl rfl ?_
    -- R4.6 30 := graph.go:80 move
    refine WL.v (by first | exact r_move (v := .bool _) rfl | exact r_move rfl) rfl rfl rfl ?_
    -- R4.7 31 := graph.go:80 move
    refine WL.v (by first | exact r_move (v := .int _ _) rfl | exact r_move rfl) rfl rfl rfl ?_
    -- R4.8 32 := graph.go:80 binOp
    refine WL.v (by exact r_eql rfl rfl (decide_eq_true (by rw [e0]; rfl))) rfl rfl rfl ?_
    -- R4.9 33 := graph.go:80 pick
    refine WL.v (by first | exact r_pickT (v := .bool _) rfl rfl | exact r_pickF (v := .bool _) rfl rfl) rfl rfl rfl ?_
    refine WL.fin hK2866 (fun _ _ h => h) ?_
    refine WC.condT rfl rfl ?_
    refine WC.seq fun K2867 hK2867 => ?_
    -- region 5
    refine WC.region ?_
    -- R5.0 34 := graph.go:81 fieldAddr
    refine WL.v (by exact r_field ty_fld36_3 rfl) rfl rfl rfl ?_
    -- R5.1 35 := graph.go:81 fieldAddr
    refine WL.v (by exact r_field ty_fld34_0 rfl) rfl rfl rfl ?_
    -- R5.2 36 := graph.go:81 load
    refine WL.v (by exact r_load1 (v := .int .i64 code) ty_one30 rfl (by rw [← f7]; exact st.c0 (by decide))) rfl rfl rfl ?_
    -- R5.3 37 := graph.go:81 binOp
    refine WL.v (by exact r_eql rfl rfl (decide_eq_true hc2)) rfl rfl rfl ?_
    -- R5.4 2 := graph.go:81 assign
    refine WL.v (by first | exact r_assign (v := .bool _) rfl | exact r_assign rfl) rfl rfl rfl ?_
    refine WL.fin hK2867 (fun _ _ h => h) ?_
    refine WC.ret1 Tryz.results25 (fun _ _ h => h) rfl ?_
    exact ⟨_, rfl, rfl, st.drop⟩
  obtain ⟨_, hvb, hvm⟩ := vic_some hv
  rw [← hdm] at hvb hvm
  have hd0 : dm ≠ 0 := fun e => by rw [e, Nat.zero_testBit] at hvb; cases hvb
  refine enter [.agg (stepL o bB bA code task (.slice a ans.length c)).toArray] Tryz.func25 rfl Tryz.ntmps25 rfl ?_
  show WC _ _ _ 99 [] [(0, .agg (stepL o bB bA code task (.slice a ans.length c)).toArray)] _
  refine WC.seq fun K2868 hK2868 => ?_
  -- region 0
  refine WC.region ?_
  -- R0.0 1 := graph.go:75 box
  refine WL.box (m := 10) (vs := stepL o bB bA code task (.slice a ans.length c)) st rfl rfl rfl rfl rfl rfl ?_
  intro b1 w st
  have st : S0 w0 ((b1, Row 36 10 fs) :: l) w := by rw [hfs]; exact st
  -- R0.1 2 := graph.go:75 assign
  refine WL.v (by first | exact r_assign (v := .bool _) rfl | exact r_assign rfl) rfl rfl rfl ?_
  refine WL.fin hK2868 (fun _ _ h => h) ?_
  refine WC.seq fun K2869 hK2869 => ?_
  refine WC.seq fun K2870 hK2870 => ?_
  -- region 1
  refine WC.region ?_
  -- R1.0 9 := graph.go:76 fieldAddr
  refine WL.v (by exact r_field ty_fld36_0 rfl) rfl rfl rfl ?_
  -- R1.1 10 := graph.go:76 fieldAddr
  refine WL.v (by exact r_field ty_fld28_0 rfl) rfl rfl rfl ?_
  -- R1.2 11 := graph.go:76 load
  refine WL.v (by exact r_load1 (v := .int .u8 (o.kind : Nat)) ty_one25 rfl (by rw [← f0]; exact st.c0 (by decide))) rfl rfl rfl ?_
  -- R1.3 12 := graph.go:76 binOp
  refine WL.v (by exact r_neq rfl rfl (decide_eq_false (by omega))) rfl rfl rfl ?_
  refine WL.fin hK2870 (fun _ _ h => h) ?_
  refine WC.condF rfl rfl ?_
  refine WC.skipF hK2869 (fun _ _ h => h) ?_
  refine WC.seq fun K2871 hK2871 => ?_
  -- region 3 (draws)
  refine WC.quietS st ty_mixed (by kernel_rfl) fun Kq hKq => ?_
  -- R3.0 17 := graph.go:79 fieldAddr
  refine QL.v (fun w st => by exact r_field ty_fld36_1 rfl) rfl rfl rfl ?_
  -- R3.1 18 := graph.go:79 load
  refine QL.v (fun w st => by exact r_load1 (v := .pointer (some ⟨bB, 0, none⟩)) ty_one29 rfl (by rw [← f5]; exact st.c0 (by decide))) rfl rfl rfl ?_
  -- R3.2 19 := graph.go:79 call
  refine QL.call (val := .int .u16 (cycM s.held s.queue 16 : Nat)) (fun w st => r_call ty_call26 rfl) rfl rfl rfl (fun w st => onCycleL_ok ho (fun r p hp => (hi.qt r p hp).2.1) (hckA _).B (hckA _).q st) ?_
  -- R3.3 20 := graph.go:79 fieldAddr
  refine QL.v (fun w st => by exact r_field ty_fld36_1 rfl) rfl rfl rfl ?_
  -- R3.4 21 := graph.go:79 load
  refine QL.v (fun w st => by exact r_load1 (v := .pointer (some ⟨bB, 0, none⟩)) ty_one29 rfl (by rw [← f5]; exact st.c0 (by decide))) rfl rfl rfl ?_
  -- R3.5 22 := graph.go:79 call
  refine QL.call (val := .int .u16 (stM s.held s.queue : Nat)) (fun w st => r_call ty_call27 rfl) rfl rfl rfl (fun w st => (stuckL_ok hD ho hi hh hqu (hckA _).B (hckA _).q st).mono (by rintro _ _ ⟨v, rfl, m, rfl, hml, hmb, st⟩; exact ⟨_, rfl, by rw [eq16 hml stM_lt fun t ht => (hmb t ht).trans (stM_bit ht).symm], st⟩)) ?_
  -- R3.6 23 := graph.go:79 binOp
  refine QL.v (fun w st => by exact r_and (r := (dm : Nat)) rfl rfl (by rw [hdm]; exact and16 cycM_lt stM_lt)) rfl rfl rfl ?_
  -- R3.7 3 := graph.go:79 assign
  refine QL.v (fun w st => by first | exact r_assign (v := .int _ _) rfl | exact r_assign rfl) rfl rfl rfl ?_
  refine QL.wl hKq fun w st => ?_
  refine WL.fin hK2871 (fun _ _ h => h) ?_
  refine WC.seq fun K2872 hK2872 => ?_
  refine WC.seq fun K2873 hK2873 => ?_
  -- region 4
  refine WC.region ?_
  -- R4.0 24 := graph.go:80 fieldAddr
  refine WL.v (by exact r_field ty_fld36_1 rfl) rfl rfl rfl ?_
  -- R4.1 25 := graph.go:80 load
  refine WL.v (by exact r_load1 (v := .pointer (some ⟨bB, 0, none⟩)) ty_one29 rfl (by rw [← f5]; exact st.c0 (by decide))) rfl rfl rfl ?_
  -- R4.2 26 := graph.go:80 nilCheck
  refine WL.v (by exact r_nilCheck rfl) rfl rfl rfl ?_
  -- R4.3 27 := graph.go:80 fieldAddr
  refine WL.v (by exact r_field ty_fld50_0 rfl) rfl rfl rfl ?_
  -- R4.4 28 := graph.go:80 load
  refine WL.v (by exact r_load1 (v := .int .i64 (s.mode : Nat)) ty_one40 rfl (c_s (hckA _).B (by decide) rfl st)) rfl rfl rfl ?_
  -- R4.5 29 := graph.go:80 binOp
  refine WL.v (by exact r_neq rfl rfl (decide_eq_false (by omega))) rfl rfl rfl ?_
  -- R4.6 30 := graph.go:80 move
  refine WL.v (by first | exact r_move (v := .bool _) rfl | exact r_move rfl) rfl rfl rfl ?_
  -- R4.7 31 := graph.go:80 move
  refine WL.v (by first | exact r_move (v := .int _ _) rfl | exact r_move rfl) rfl rfl rfl ?_
  -- R4.8 32 := graph.go:80 binOp
  refine WL.v (by exact r_eql rfl rfl (decide_eq_false (by omega))) rfl rfl rfl ?_
  -- R4.9 33 := graph.go:80 pick
  refine WL.v (by first | exact r_pickT (v := .bool _) rfl rfl | exact r_pickF (v := .bool _) rfl rfl) rfl rfl rfl ?_
  refine WL.fin hK2873 (fun _ _ h => h) ?_
  refine WC.condF rfl rfl ?_
  refine WC.skipF hK2872 (fun _ _ h => h) ?_
  refine WC.seq fun K2874 hK2874 => ?_
  -- region 6
  refine WC.region ?_
  -- R6.0 38 := graph.go:83 fieldAddr
  refine WL.v (by exact r_field ty_fld36_3 rfl) rfl rfl rfl ?_
  -- R6.1 39 := graph.go:83 fieldAddr
  refine WL.v (by exact r_field ty_fld34_1 rfl) rfl rfl rfl ?_
  -- R6.2 40 := graph.go:83 load
  refine WL.v (by exact r_load1 (v := .int .i64 (v : Nat)) ty_one31 rfl (by rw [← htk, ← f8]; exact st.c0 (by decide))) rfl rfl rfl ?_
  -- R6.3 4 := graph.go:83 assign
  refine WL.v (by first | exact r_assign (v := .int _ _) rfl | exact r_assign rfl) rfl rfl rfl ?_
  refine WL.fin hK2874 (fun _ _ h => h) ?_
  refine WC.seq fun K2875 hK2875 => ?_
  refine WC.seq fun K2876 hK2876 => ?_
  -- region 7
  refine WC.region ?_
  -- R7.0 41 := graph.go:84 fieldAddr
  refine WL.v (by exact r_field ty_fld36_3 rfl) rfl rfl rfl ?_
  -- R7.1 42 := graph.go:84 fieldAddr
  refine WL.v (by exact r_field ty_fld34_0 rfl) rfl rfl rfl ?_
  -- R7.2 43 := graph.go:84 load
  refine WL.v (by exact r_load1 (v := .int .i64 code) ty_one30 rfl (by rw [← f7]; exact st.c0 (by decide))) rfl rfl rfl ?_
  -- R7.3 44 := graph.go:84 binOp
  refine WL.v (by exact r_neq rfl rfl (decide_eq_false (by omega))) rfl rfl rfl ?_
  -- R7.4 45 := graph.go:84 move
  refine WL.v (by first | exact r_move (v := .bool _) rfl | exact r_move rfl) rfl rfl rfl ?_
  -- R7.5 46 := graph.go:84 move
  refine WL.v (by first | exact r_move (v := .int _ _) rfl | exact r_move rfl) rfl rfl rfl ?_
  -- R7.6 47 := graph.go:84 binOp
  refine WL.v (by exact r_eql rfl rfl (decide_eq_false (by omega))) rfl rfl rfl ?_
  -- R7.7 48 := graph.go:84 pick
  refine WL.v (by first | exact r_pickT (v := .bool _) rfl rfl | exact r_pickF (v := .bool _) rfl rfl) rfl rfl rfl ?_
  -- R7.8 49 := graph.go:84 move
  refine WL.v (by first | exact r_move (v := .bool _) rfl | exact r_move rfl) rfl rfl rfl ?_
  -- R7.9 50 := graph.go:84 move
  refine WL.v (by first | exact r_move (v := .int _ _) rfl | exact r_move rfl) rfl rfl rfl ?_
  -- R7.10 51 := graph.go:84 move
  refine WL.v (by first | exact r_move (v := .int _ _) rfl | exact r_move rfl) rfl rfl rfl ?_
  -- R7.11 52 := graph.go:84 call
  refine WL.call (r_call ty_call28 rfl) rfl rfl rfl (has_ok hdl hv16 st) ?_
  rintro _ w ⟨he, st⟩
  rw [hvb] at he
  subst he
  -- R7.12 53 := graph.go:84 unOp
  refine WL.v (by first | exact r_notT rfl | exact r_notF rfl | exact r_not rfl) rfl rfl rfl ?_
  -- R7.13 54 := graph.go:84 pick
  refine WL.v (by first | exact r_pickT (v := .bool _) rfl rfl | exact r_pickF (v := .bool _) rfl rfl) rfl rfl rfl ?_
  -- R7.14 55 := graph.go:84 move
  refine WL.v (by first | exact r_move (v := .bool _) rfl | exact r_move rfl) rfl rfl rfl ?_
  -- R7.15 56 := graph.go:84 load
  refine WL.v (by exact r_loadL (vs := stepL o bB bA code task (.slice a ans.length c)) ty_agg36 rfl ⟨(st.c0 (by decide)).trans (congrArg some f0), (st.c0 (by decide)).trans (congrArg some f1), (st.c0 (by decide)).trans (congrArg some f2), (st.c0 (by decide)).trans (congrArg some f3), (st.c0 (by decide)).trans (congrArg some f4), (st.c0 (by decide)).trans (congrArg some f5), (st.c0 (by decide)).trans (congrArg some f6), (st.c0 (by decide)).trans (congrArg some f7), (st.c0 (by decide)).trans (congrArg some f8), (st.c0 (by decide)).trans (congrArg some f9), trivial⟩) rfl rfl rfl ?_
  -- R7.16 57 := graph.go:84 call
  refine WL.call (r_call ty_call29 rfl) rfl rfl rfl (told_ok (o := o) (cd := 3) (hck.c) h16 st) ?_
  rintro _ w ⟨rfl, st⟩
  -- R7.17 58 := graph.go:84 move
  refine WL.v (by first | exact r_move (v := .int _ _) rfl | exact r_move rfl) rfl rfl rfl ?_
  -- R7.18 59 := graph.go:84 call
  refine WL.call (r_call ty_call30 rfl) rfl rfl rfl (bit_ok hv16 st) ?_
  rintro _ w ⟨rfl, st⟩
  -- R7.19 60 := graph.go:84 binOp
  refine WL.v (by exact r_neq rfl rfl (decide_eq_false (by rw [htold]; simp))) rfl rfl rfl ?_
  -- R7.20 61 := graph.go:84 pick
  refine WL.v (by first | exact r_pickT (v := .bool _) rfl rfl | exact r_pickF (v := .bool _) rfl rfl) rfl rfl rfl ?_
  refine WL.fin hK2876 (fun _ _ h => h) ?_
  refine WC.condF rfl rfl ?_
  refine WC.skipF hK2875 (fun _ _ h => h) ?_
  refine WC.seq fun K2877 hK2877 => ?_
  refine WC.seq fun K2878 hK2878 => ?_
  -- region 9
  refine WC.region ?_
  -- R9.0 62 := graph.go:87 move
  refine WL.v (by first | exact r_move (v := .int _ _) rfl | exact r_move rfl) rfl rfl rfl ?_
  -- R9.1 63 := graph.go:87 call
  refine WL.call (r_call ty_call31 rfl) rfl rfl rfl (tasks_ok hD (hdl) st) ?_
  rintro _ w ⟨XT, hXT, st⟩
  obtain ⟨Ts, hTs⟩ : ∃ Ts, Ts = tasksP (dm) := ⟨_, rfl⟩
  have hT16 : ∀ o, o ∈ Ts → o < 16 := fun o h => by rw [hTs] at h; exact tasksP_lt h
  have hTl : Ts.length ≤ 16 := by rw [hTs]; exact tasksP_len
  rw [← hTs] at hXT
  obtain ⟨at', ct, bt, rfl, hct1, hct2, hat', htcell⟩ := hXT.form
  -- R9.2 64 := graph.go:87 call
  refine WL.v (by exact r_len ty_usl54 rfl) rfl rfl rfl ?_
  -- R9.3 65 := graph.go:87 move
  refine WL.v (by first | exact r_move (v := .int _ _) rfl | exact r_move rfl) rfl rfl rfl ?_
  refine WL.fin hK2878 (fun _ _ h => h) ?_
  refine WC.block ?_
  refine WC.loop (ι := Nat) (fun k => [(1, .pointer (some ⟨b1, 0, none⟩)), (3, .int .u16 (dm : Nat)), (4, .int .i64 (v : Nat)), (63, .slice at' Ts.length ct), (64, .int .i64 (Ts.length : Nat)), (65, .int .i64 (k : Nat))])
    (fun k w' => k ≤ Ts.length ∧ S0 w0 (XT ++ ((b1, Row 36 10 fs) :: l)) w') (fun k => Ts.length - k) 0 ⟨Nat.zero_le _, st⟩ ?_ ?_
  · skip
    repeat (first | exact sub_nil _ | refine sub_cons rfl rfl ?_)
  clear st
  rintro k w ⟨hkl, st⟩ K1 hK1
  by_cases hke : k = Ts.length
  · subst hke
    refine WC.seq fun K2879 hK2879 => ?_
    -- region 10
    refine WC.region ?_
    -- R10.0 66 := graph.go:87 binOp
    refine WL.v (by first | exact r_lss rfl rfl (decide_eq_true (by omega)) | exact r_lss rfl rfl (decide_eq_false (by omega)) | exact r_lss rfl rfl rfl) rfl rfl rfl ?_
    refine WL.fin hK2879 (fun _ _ h => h) ?_
    refine WC.seq fun K2880 hK2880 => ?_
    refine WC.condF rfl rfl ?_
    refine WC.exitF hK2877 (fun _ _ h => h) ?_
    refine WC.seq fun K2881 hK2881 => ?_
    -- region 16
    refine WC.region ?_
    -- R16.0 2 := graph.go:93 assign
    refine WL.v (by first | exact r_assign (v := .bool _) rfl | exact r_assign rfl) rfl rfl rfl ?_
    refine WL.fin hK2881 (fun _ _ h => h) ?_
    refine WC.ret1 Tryz.results25 (fun _ _ h => h) rfl ?_
    exact ⟨_, rfl, rfl, (st_dropL st).drop⟩
  have hkl' : k < Ts.length := by omega
  obtain ⟨u, hu⟩ : ∃ v, Ts[k]? = some v := ⟨Ts[k], List.getElem?_eq_getElem hkl'⟩
  have hum : u ∈ Ts := List.mem_of_getElem? hu
  have hu16 := hT16 u hum
  have hmin := hvm u (by rw [← hTs]; exact hum)
  have hn1 := hnb u
  have hn2 := hnb v
  obtain rfl := hat' (by omega)
  have hce := htcell st (fun x hx => List.mem_append_left _ hx) k u hu 0 (by decide)
  have hckT : CK s s' ans bB bA qv qv' (.slice a ans.length c) (XT ++ ((b1, Row 36 10 fs) :: l)) := hck.mono fun _ hx => List.mem_append_right _ (List.mem_cons_of_mem _ hx)
  have c1 : ∀ {w : World} {x : Value} {i : Nat}, i < 10 → fs i = x → S0 w0 (XT ++ ((b1, Row 36 10 fs) :: l)) w → w.cell? ⟨b1, i, none⟩ = some x := fun hi e st => by rw [← e]; exact st.cell (List.mem_append_right _ List.mem_cons_self) hi
  by_cases he : (s.tk u).n = (s.tk v).n
  · have hle := hmin.2 he
    refine WC.seq fun K2882 hK2882 => ?_
    -- region 10
    refine WC.region ?_
    -- R10.0 66 := graph.go:87 binOp
    refine WL.v (by first | exact r_lss rfl rfl (decide_eq_true (by omega)) | exact r_lss rfl rfl (decide_eq_false (by omega)) | exact r_lss rfl rfl rfl) rfl rfl rfl ?_
    refine WL.fin hK2882 (fun _ _ h => h) ?_
    refine WC.seq fun K2883 hK2883 => ?_
    refine WC.condT rfl rfl ?_
    refine WC.skipF hK2883 (fun _ _ h => h) ?_
    refine WC.seq fun K2884 hK2884 => ?_
    refine WC.block ?_
    refine WC.seq fun K2885 hK2885 => ?_
    -- region 11
    refine WC.region ?_
    -- R11.0 67 := graph.go:87 indexAddr
    refine WL.v (by exact r_indexS (j := k) ty_sl54 rfl rfl rfl (by omega)) rfl rfl rfl ?_
    -- R11.1 68 := graph.go:87 load
    refine WL.v (by exact r_load1 (v := .int .i64 (u : Nat)) ty_one31 rfl (by rw [Nat.zero_add]; exact hce)) rfl rfl rfl ?_
    -- R11.2 6 := graph.go:87 assign
    refine WL.v (by first | exact r_assign (v := .int _ _) rfl | exact r_assign rfl) rfl rfl rfl ?_
    refine WL.fin hK2885 (fun _ _ h => h) ?_
    refine WC.seq fun K2886 hK2886 => ?_
    -- region 12 (draws)
    refine WC.quietS st ty_mixed (by kernel_rfl) fun Kq hKq => ?_
    -- R12.0 69 := graph.go:88 fieldAddr
    refine QL.v (fun w st => by exact r_field ty_fld36_1 rfl) rfl rfl rfl ?_
    -- R12.1 70 := graph.go:88 load
    refine QL.v (fun w st => by exact r_load1 (v := .pointer (some ⟨bB, 0, none⟩)) ty_one29 rfl (c1 (by decide) f5 st)) rfl rfl rfl ?_
    -- R12.2 71 := graph.go:88 move
    refine QL.v (fun w st => by first | exact r_move (v := .int _ _) rfl | exact r_move rfl) rfl rfl rfl ?_
    -- R12.3 72 := graph.go:88 nilCheck
    refine QL.v (fun w st => by exact r_nilCheck rfl) rfl rfl rfl ?_
    -- R12.4 73 := graph.go:88 fieldAddr
    refine QL.v (fun w st => by exact r_field ty_fld50_3 rfl) rfl rfl rfl ?_
    -- R12.5 74 := graph.go:88 indexAddr
    refine QL.v (fun w st => by exact r_indexA (j := u) ty_ar43 rfl rfl rfl hu16) rfl rfl rfl ?_
    -- R12.6 75 := graph.go:88 fieldAddr
    refine QL.v (fun w st => by exact r_field ty_fld42_5 rfl) rfl rfl rfl ?_
    -- R12.7 76 := graph.go:88 load
    refine QL.v (fun w st => by exact r_load1 (v := .int .i64 ((s.tk u).n : Nat)) ty_one3 rfl (c_sT hckT.B hu16 (j := 5) (by decide) (by omega) st)) rfl rfl rfl ?_
    -- R12.8 77 := graph.go:88 fieldAddr
    refine QL.v (fun w st => by exact r_field ty_fld36_1 rfl) rfl rfl rfl ?_
    -- R12.9 78 := graph.go:88 load
    refine QL.v (fun w st => by exact r_load1 (v := .pointer (some ⟨bB, 0, none⟩)) ty_one29 rfl (c1 (by decide) f5 st)) rfl rfl rfl ?_
    -- R12.10 79 := graph.go:88 move
    refine QL.v (fun w st => by first | exact r_move (v := .int _ _) rfl | exact r_move rfl) rfl rfl rfl ?_
    -- R12.11 80 := graph.go:88 nilCheck
    refine QL.v (fun w st => by exact r_nilCheck rfl) rfl rfl rfl ?_
    -- R12.12 81 := graph.go:88 fieldAddr
    refine QL.v (fun w st => by exact r_field ty_fld50_3 rfl) rfl rfl rfl ?_
    -- R12.13 82 := graph.go:88 indexAddr
    refine QL.v (fun w st => by exact r_indexA (j := v) ty_ar43 rfl rfl rfl hv16) rfl rfl rfl ?_
    -- R12.14 83 := graph.go:88 fieldAddr
    refine QL.v (fun w st => by exact r_field ty_fld42_5 rfl) rfl rfl rfl ?_
    -- R12.15 84 := graph.go:88 load
    refine QL.v (fun w st => by exact r_load1 (v := .int .i64 ((s.tk v).n : Nat)) ty_one3 rfl (c_sT hckT.B hv16 (j := 5) (by decide) (by omega) st)) rfl rfl rfl ?_
    -- R12.16 7 := graph.go:88 assign
    refine QL.v (fun w st => by first | exact r_assign (v := .int _ _) rfl | exact r_assign rfl) rfl rfl rfl ?_
    -- R12.17 8 := graph.go:88 assign
    refine QL.v (fun w st => by first | exact r_assign (v := .int _ _) rfl | exact r_assign rfl) rfl rfl rfl ?_
    refine QL.wl hKq fun w st => ?_
    refine WL.fin hK2886 (fun _ _ h => h) ?_
    refine WC.seq fun K2887 hK2887 => ?_
    -- region 13
    refine WC.region ?_
    -- R13.0 85 := graph.go:89 move
    refine WL.v (by first | exact r_move (v := .int _ _) rfl | exact r_move rfl) rfl rfl rfl ?_
    -- R13.1 86 := graph.go:89 move
    refine WL.v (by first | exact r_move (v := .int _ _) rfl | exact r_move rfl) rfl rfl rfl ?_
    -- R13.2 87 := graph.go:89 binOp
    refine WL.v (by exact r_lss rfl rfl (decide_eq_false (by omega))) rfl rfl rfl ?_
    -- R13.3 88 := graph.go:89 move
    refine WL.v (by first | exact r_move (v := .bool _) rfl | exact r_move rfl) rfl rfl rfl ?_
    -- R13.4 89 := graph.go:89 move
    refine WL.v (by first | exact r_move (v := .int _ _) rfl | exact r_move rfl) rfl rfl rfl ?_
    -- R13.5 90 := graph.go:89 move
    refine WL.v (by first | exact r_move (v := .int _ _) rfl | exact r_move rfl) rfl rfl rfl ?_
    -- R13.6 91 := graph.go:89 binOp
    refine WL.v (by exact r_eql rfl rfl (decide_eq_true (by omega))) rfl rfl rfl ?_
    -- R13.7 92 := graph.go:89 move
    refine WL.v (by first | exact r_move (v := .bool _) rfl | exact r_move rfl) rfl rfl rfl ?_
    -- R13.8 93 := graph.go:89 move
    refine WL.v (by first | exact r_move (v := .int _ _) rfl | exact r_move rfl) rfl rfl rfl ?_
    -- R13.9 94 := graph.go:89 move
    refine WL.v (by first | exact r_move (v := .int _ _) rfl | exact r_move rfl) rfl rfl rfl ?_
    -- R13.10 95 := graph.go:89 binOp
    refine WL.v (by exact r_gtr rfl rfl (decide_eq_false (by omega))) rfl rfl rfl ?_
    -- R13.11 96 := graph.go:89 pick
    refine WL.v (by first | exact r_pickT (v := .bool _) rfl rfl | exact r_pickF (v := .bool _) rfl rfl) rfl rfl rfl ?_
    -- R13.12 97 := graph.go:89 pick
    refine WL.v (by first | exact r_pickT (v := .bool _) rfl rfl | exact r_pickF (v := .bool _) rfl rfl) rfl rfl rfl ?_
    refine WL.fin hK2887 (fun _ _ h => h) ?_
    refine WC.condF rfl rfl ?_
    refine WC.skipF hK2884 (fun _ _ h => h) ?_
    -- region 15
    refine WC.region ?_
    -- R15.0 98 := graph.go:87 binOp
    refine WL.v (by first | exact r_add rfl rfl (wi64 (by omega) (by omega)) | exact r_add rfl rfl rfl) rfl rfl rfl ?_
    -- R15.1 65 := graph.go:87 move
    refine WL.v (by first | exact r_move (v := .int _ _) rfl | exact r_move rfl) rfl rfl rfl ?_
    refine WL.next hK1 (fun _ _ h => h) (k + 1) ⟨hkl', st⟩ (by omega) (by repeat (first | exact sub_nil _ | refine sub_cons rfl rfl ?_))
  · skip
    refine WC.seq fun K2888 hK2888 => ?_
    -- region 10
    refine WC.region ?_
    -- R10.0 66 := graph.go:87 binOp
    refine WL.v (by first | exact r_lss rfl rfl (decide_eq_true (by omega)) | exact r_lss rfl rfl (decide_eq_false (by omega)) | exact r_lss rfl rfl rfl) rfl rfl rfl ?_
    refine WL.fin hK2888 (fun _ _ h => h) ?_
    refine WC.seq fun K2889 hK2889 => ?_
    refine WC.condT rfl rfl ?_
    refine WC.skipF hK2889 (fun _ _ h => h) ?_
    refine WC.seq fun K2890 hK2890 => ?_
    refine WC.block ?_
    refine WC.seq fun K2891 hK2891 => ?_
    -- region 11
    refine WC.region ?_
    -- R11.0 67 := graph.go:87 indexAddr
    refine WL.v (by exact r_indexS (j := k) ty_sl54 rfl rfl rfl (by omega)) rfl rfl rfl ?_
    -- R11.1 68 := graph.go:87 load
    refine WL.v (by exact r_load1 (v := .int .i64 (u : Nat)) ty_one31 rfl (by rw [Nat.zero_add]; exact hce)) rfl rfl rfl ?_
    -- R11.2 6 := graph.go:87 assign
    refine WL.v (by first | exact r_assign (v := .int _ _) rfl | exact r_assign rfl) rfl rfl rfl ?_
    refine WL.fin hK2891 (fun _ _ h => h) ?_
    refine WC.seq fun K2892 hK2892 => ?_
    -- region 12 (draws)
    refine WC.quietS st ty_mixed (by kernel_rfl) fun Kq hKq => ?_
    -- R12.0 69 := graph.go:88 fieldAddr
    refine QL.v (fun w st => by exact r_field ty_fld36_1 rfl) rfl rfl rfl ?_
    -- R12.1 70 := graph.go:88 load
    refine QL.v (fun w st => by exact r_load1 (v := .pointer (some ⟨bB, 0, none⟩)) ty_one29 rfl (c1 (by decide) f5 st)) rfl rfl rfl ?_
    -- R12.2 71 := graph.go:88 move
    refine QL.v (fun w st => by first | exact r_move (v := .int _ _) rfl | exact r_move rfl) rfl rfl rfl ?_
    -- R12.3 72 := graph.go:88 nilCheck
    refine QL.v (fun w st => by exact r_nilCheck rfl) rfl rfl rfl ?_
    -- R12.4 73 := graph.go:88 fieldAddr
    refine QL.v (fun w st => by exact r_field ty_fld50_3 rfl) rfl rfl rfl ?_
    -- R12.5 74 := graph.go:88 indexAddr
    refine QL.v (fun w st => by exact r_indexA (j := u) ty_ar43 rfl rfl rfl hu16) rfl rfl rfl ?_
    -- R12.6 75 := graph.go:88 fieldAddr
    refine QL.v (fun w st => by exact r_field ty_fld42_5 rfl) rfl rfl rfl ?_
    -- R12.7 76 := graph.go:88 load
    refine QL.v (fun w st => by exact r_load1 (v := .int .i64 ((s.tk u).n : Nat)) ty_one3 rfl (c_sT hckT.B hu16 (j := 5) (by decide) (by omega) st)) rfl rfl rfl ?_
    -- R12.8 77 := graph.go:88 fieldAddr
    refine QL.v (fun w st => by exact r_field ty_fld36_1 rfl) rfl rfl rfl ?_
    -- R12.9 78 := graph.go:88 load
    refine QL.v (fun w st => by exact r_load1 (v := .pointer (some ⟨bB, 0, none⟩)) ty_one29 rfl (c1 (by decide) f5 st)) rfl rfl rfl ?_
    -- R12.10 79 := graph.go:88 move
    refine QL.v (fun w st => by first | exact r_move (v := .int _ _) rfl | exact r_move rfl) rfl rfl rfl ?_
    -- R12.11 80 := graph.go:88 nilCheck
    refine QL.v (fun w st => by exact r_nilCheck rfl) rfl rfl rfl ?_
    -- R12.12 81 := graph.go:88 fieldAddr
    refine QL.v (fun w st => by exact r_field ty_fld50_3 rfl) rfl rfl rfl ?_
    -- R12.13 82 := graph.go:88 indexAddr
    refine QL.v (fun w st => by exact r_indexA (j := v) ty_ar43 rfl rfl rfl hv16) rfl rfl rfl ?_
    -- R12.14 83 := graph.go:88 fieldAddr
    refine QL.v (fun w st => by exact r_field ty_fld42_5 rfl) rfl rfl rfl ?_
    -- R12.15 84 := graph.go:88 load
    refine QL.v (fun w st => by exact r_load1 (v := .int .i64 ((s.tk v).n : Nat)) ty_one3 rfl (c_sT hckT.B hv16 (j := 5) (by decide) (by omega) st)) rfl rfl rfl ?_
    -- R12.16 7 := graph.go:88 assign
    refine QL.v (fun w st => by first | exact r_assign (v := .int _ _) rfl | exact r_assign rfl) rfl rfl rfl ?_
    -- R12.17 8 := graph.go:88 assign
    refine QL.v (fun w st => by first | exact r_assign (v := .int _ _) rfl | exact r_assign rfl) rfl rfl rfl ?_
    refine QL.wl hKq fun w st => ?_
    refine WL.fin hK2892 (fun _ _ h => h) ?_
    refine WC.seq fun K2893 hK2893 => ?_
    -- region 13
    refine WC.region ?_
    -- R13.0 85 := graph.go:89 move
    refine WL.v (by first | exact r_move (v := .int _ _) rfl | exact r_move rfl) rfl rfl rfl ?_
    -- R13.1 86 := graph.go:89 move
    refine WL.v (by first | exact r_move (v := .int _ _) rfl | exact r_move rfl) rfl rfl rfl ?_
    -- R13.2 87 := graph.go:89 binOp
    refine WL.v (by exact r_lss rfl rfl (decide_eq_false (by omega))) rfl rfl rfl ?_
    -- R13.3 88 := graph.go:89 move
    refine WL.v (by first | exact r_move (v := .bool _) rfl | exact r_move rfl) rfl rfl rfl ?_
    -- R13.4 89 := graph.go:89 move
    refine WL.v (by first | exact r_move (v := .int _ _) rfl | exact r_move rfl) rfl rfl rfl ?_
    -- R13.5 90 := graph.go:89 move
    refine WL.v (by first | exact r_move (v := .int _ _) rfl | exact r_move rfl) rfl rfl rfl ?_
    -- R13.6 91 := graph.go:89 binOp
    refine WL.v (by exact r_eql rfl rfl (decide_eq_false (by omega))) rfl rfl rfl ?_
    -- R13.7 92 := graph.go:89 move
    refine WL.v (by first | exact r_move (v := .bool _) rfl | exact r_move rfl) rfl rfl rfl ?_
    -- R13.8 93 := graph.go:89 move
    refine WL.no rfl rfl ?_
    -- R13.9 94 := graph.go:89 move
    refine WL.no rfl rfl ?_
    -- R13.10 95 := graph.go:89 binOp
    refine WL.no rfl rfl ?_
    -- R13.11 96 := graph.go:89 pick
    refine WL.v (by first | exact r_pickT (v := .bool _) rfl rfl | exact r_pickF (v := .bool _) rfl rfl) rfl rfl rfl ?_
    -- R13.12 97 := graph.go:89 pick
    refine WL.v (by first | exact r_pickT (v := .bool _) rfl rfl | exact r_pickF (v := .bool _) rfl rfl) rfl rfl rfl ?_
    refine WL.fin hK2893 (fun _ _ h => h) ?_
    refine WC.condF rfl rfl ?_
    refine WC.skipF hK2890 (fun _ _ h => h) ?_
    -- region 15
    refine WC.region ?_
    -- R15.0 98 := graph.go:87 binOp
    refine WL.v (by first | exact r_add rfl rfl (wi64 (by omega) (by omega)) | exact r_add rfl rfl rfl) rfl rfl rfl ?_
    -- R15.1 65 := graph.go:87 move
    refine WL.v (by first | exact r_move (v := .int _ _) rfl | exact r_move rfl) rfl rfl rfl ?_
    refine WL.next hK1 (fun _ _ h => h) (k + 1) ⟨hkl', st⟩ (by omega) (by repeat (first | exact sub_nil _ | refine sub_cons rfl rfl ?_))
theorem victims_ok_law (a : Option Addr) (sb so n c : Nat) (op : Nat → Kern.Op) (hD : gD w) (hS : Scr w sb so n op) (hn63 : n ≤ 140737488355328) (ha : 0 < n → a = some ⟨sb, so, none⟩) :
    Calls Tryz.prog 3 #[.slice a n c] w (Ret fun v w' => v = .bool true ∧ S0 w [] w') := by
  have st : S0 w [] w := St.init w _
  by_cases hn : n ≤ 65536
  · have hC : CheckOK w 25 #[] op n fun _ LI => LI = [] := by
      refine check_pure fun i hi bB bA qv qv' ov l w' hck st' => ?_
      have hK := run_KI op i
      have hI := run_INV op i
      have hpn := (pend_step (o := op i) hK.b hI hK.told).1
      have h16 : ∀ a, a ∈ (stepP (runP op i) (op i)).1.told → a.1 < 16 := fun a ha => by
        obtain ⟨k, hk⟩ := List.getElem?_of_mem ha
        exact (PA_at hpn k a hk).1
      exact victims1_ok (s := runP op i) (s' := runP op (i + 1)) hD h16 hI hK.b.held (fun r p hp => (hK.b.qt r p hp).2) hK.b.n codes_of.2.2.2.2.1 (fun hk => detect_step hk hI hK.told) (not_detect op i) hck st'
    refine enter [.slice a n c] Tryz.func3 rfl Tryz.ntmps3 rfl ?_
    show WC _ _ _ 8 [] [(0, .slice a n c)] _
    refine WC.seq fun K2894 hK2894 => ?_
    -- region 0
    refine WC.region ?_
    -- R0.0 2 := graph.go:70 assign
    refine WL.v (by first | exact r_assign (v := .bool _) rfl | exact r_assign rfl) rfl rfl rfl ?_
    refine WL.fin hK2894 (fun _ _ h => h) ?_
    refine WC.seq fun K2895 hK2895 => ?_
    refine WC.seq fun K2896 hK2896 => ?_
    -- region 1
    refine WC.region ?_
    -- R1.0 3 := graph.go:71 move
    refine WL.v (by first | exact r_move (v := .slice _ _ _) rfl | exact r_move rfl) rfl rfl rfl ?_
    -- R1.1 4 := graph.go:71 call
    refine WL.call (r_call ty_call23 rfl) rfl rfl rfl (zzSmall1_ok a n c st) ?_
    rintro _ w' ⟨he, st⟩
    rw [decide_eq_true hn] at he
    subst he
    -- R1.2 5 := graph.go:71 unOp
    refine WL.v (by first | exact r_notT rfl | exact r_notF rfl | exact r_not rfl) rfl rfl rfl ?_
    refine WL.fin hK2896 (fun _ _ h => h) ?_
    refine WC.condF rfl rfl ?_
    refine WC.skipF hK2895 (fun _ _ h => h) ?_
    refine WC.seq fun K2897 hK2897 => ?_
    -- region 3
    refine WC.region ?_
    -- R3.0 6 := graph.go:75 move
    refine WL.v (by first | exact r_move (v := .slice _ _ _) rfl | exact r_move rfl) rfl rfl rfl ?_
    -- R3.1 7 := graph.go:75 call
    refine WL.call (r_call ty_call24 rfl) rfl rfl rfl (play_ok (LI := []) (l := []) ty_call25 hD hS hn ha hC rfl st) ?_
    rintro _ w'' ⟨rfl, LI', rfl, st⟩
    -- R3.2 2 := graph.go:75 assign
    refine WL.v (by first | exact r_assign (v := .bool _) rfl | exact r_assign rfl) rfl rfl rfl ?_
    refine WL.fin hK2897 (fun _ _ h => h) ?_
    refine WC.ret1 Tryz.results3 (fun _ _ h => h) rfl ?_
    exact ⟨_, rfl, rfl, st⟩
  · skip
    refine enter [.slice a n c] Tryz.func3 rfl Tryz.ntmps3 rfl ?_
    show WC _ _ _ 8 [] [(0, .slice a n c)] _
    refine WC.seq fun K2898 hK2898 => ?_
    -- region 0
    refine WC.region ?_
    -- R0.0 2 := graph.go:70 assign
    refine WL.v (by first | exact r_assign (v := .bool _) rfl | exact r_assign rfl) rfl rfl rfl ?_
    refine WL.fin hK2898 (fun _ _ h => h) ?_
    refine WC.seq fun K2899 hK2899 => ?_
    refine WC.seq fun K2900 hK2900 => ?_
    -- region 1
    refine WC.region ?_
    -- R1.0 3 := graph.go:71 move
    refine WL.v (by first | exact r_move (v := .slice _ _ _) rfl | exact r_move rfl) rfl rfl rfl ?_
    -- R1.1 4 := graph.go:71 call
    refine WL.call (r_call ty_call23 rfl) rfl rfl rfl (zzSmall1_ok a n c st) ?_
    rintro _ w' ⟨he, st⟩
    rw [decide_eq_false hn] at he
    subst he
    -- R1.2 5 := graph.go:71 unOp
    refine WL.v (by first | exact r_notT rfl | exact r_notF rfl | exact r_not rfl) rfl rfl rfl ?_
    refine WL.fin hK2900 (fun _ _ h => h) ?_
    refine WC.condT rfl rfl ?_
    refine WC.seq fun K2901 hK2901 => ?_
    -- region 2
    refine WC.region ?_
    -- R2.0 2 := graph.go:72 assign
    refine WL.v (by first | exact r_assign (v := .bool _) rfl | exact r_assign rfl) rfl rfl rfl ?_
    refine WL.fin hK2901 (fun _ _ h => h) ?_
    refine WC.ret1 Tryz.results3 (fun _ _ h => h) rfl ?_
    exact ⟨_, rfl, rfl, st⟩
end Go.Proofs.Qxb6500834aGreatDoor

