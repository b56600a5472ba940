import Derived.Test.Qxb6500834aGreatDoorK52
set_option linter.unusedVariables false
set_option linter.unusedSimpArgs false
set_option maxRecDepth 20000
namespace Go.Proofs.Qxb6500834aGreatDoor
open Go.RowKit Go.E1 Go.Kern
variable {w0 : World} {l X : List HI} {w : World} {s s' s0 : KS} {t r N n : Nat} {qv qv' : Nat → Value}

/-! Whom a request wounds, plainly. -/
theorem judgeF_bits {mode : Nat} {birth : Nat → Nat} {i : Nat} : ∀ (L : List Nat) (p : Bool × Nat),
    ((L.foldl (jStep mode birth t) p).1 = true ↔ p.1 = true ∨ mode = 1 ∧ ∃ o, o ∈ L ∧ birth o < birth t) ∧
    ((L.foldl (jStep mode birth t) p).2.testBit i = true ↔ p.2.testBit i = true ∨ mode = 2 ∧ i ∈ L ∧ birth t < birth i)
  | [], p => by simp
  | o :: L, p => by
    have h := judgeF_bits (mode := mode) (birth := birth) (i := i) L (jStep mode birth t p o)
    rw [List.foldl_cons, h.1, h.2]
    unfold jStep
    by_cases h1 : mode = 1 ∧ birth o < birth t
    · rw [if_pos h1]
      refine ⟨⟨fun _ => .inr ⟨h1.1, o, List.mem_cons_self, h1.2⟩, fun _ => .inl rfl⟩, ⟨fun k => ?_, fun k => ?_⟩⟩
      · rcases k with k | k
        · exact .inl k
        · exact .inr ⟨k.1, List.mem_cons_of_mem _ k.2.1, k.2.2⟩
      · rcases k with k | k
        · exact .inl k
        · omega
    · rw [if_neg h1]
      by_cases h2 : mode = 2 ∧ birth t < birth o
      · rw [if_pos h2]
        refine ⟨⟨fun k => ?_, fun k => ?_⟩, ⟨fun k => ?_, fun k => ?_⟩⟩
        · rcases k with k | k
          · exact .inl k
          · omega
        · rcases k with k | k
          · exact .inl k
          · omega
        · rcases k with k | k
          · have k : (p.2 ||| 2 ^ o).testBit i = true := k
            rw [Nat.testBit_or, Nat.testBit_two_pow, Bool.or_eq_true] at k
            rcases k with k | k
            · exact .inl k
            · have e : o = i := by simpa using k
              subst e
              exact .inr ⟨h2.1, List.mem_cons_self, h2.2⟩
          · exact .inr ⟨k.1, List.mem_cons_of_mem _ k.2.1, k.2.2⟩
        · show (p.2 ||| 2 ^ o).testBit i = true ∨ _
          rw [Nat.testBit_or, Nat.testBit_two_pow, Bool.or_eq_true]
          rcases k with k | k
          · exact .inl (.inl k)
          · rcases List.mem_cons.1 k.2.1 with e | e
            · exact .inl (.inr (by simp [e]))
            · exact .inr ⟨k.1, e, k.2.2⟩
      · rw [if_neg h2]
        refine ⟨⟨fun k => ?_, fun k => ?_⟩, ⟨fun k => ?_, fun k => ?_⟩⟩
        · rcases k with k | ⟨k, o', ho, hb⟩
          · exact .inl k
          · exact .inr ⟨k, o', List.mem_cons_of_mem _ ho, hb⟩
        · rcases k with k | ⟨k, o', ho, hb⟩
          · exact .inl k
          · rcases List.mem_cons.1 ho with e | e
            · subst e; exact absurd ⟨k, hb⟩ h1
            · exact .inr ⟨k, o', e, hb⟩
        · rcases k with k | k
          · exact .inl k
          · exact .inr ⟨k.1, List.mem_cons_of_mem _ k.2.1, k.2.2⟩
        · rcases k with k | k
          · exact .inl k
          · rcases List.mem_cons.1 k.2.1 with e | e
            · subst e; exact absurd ⟨k.1, k.2.2⟩ h2
            · exact .inr ⟨k.1, e, k.2.2⟩
theorem compl_bit {i : Nat} (hi : i < 16) (ht : t < 16) : (65535 - 2 ^ t).testBit i = !decide (t = i) := by
  have h : 2 ^ t < 2 ^ 16 := Nat.pow_lt_pow_right (by decide) ht
  have := Nat.testBit_two_pow_sub_succ (n := 16) h i
  rw [show 65535 - 2 ^ t = 2 ^ 16 - (2 ^ t + 1) by omega, this, Nat.testBit_two_pow]
  simp [hi]
theorem rivals_bit {i : Nat} (ht : t < 16) (hi : i < 16) : (rivalsP s t r).testBit i = true ↔ i ≠ t ∧ (0 < s.held i r ∨ ∃ q, q ∈ s.queue r ∧ q.1 = i) := by
  unfold rivalsP
  rw [Nat.testBit_and, compl_bit hi ht, Nat.testBit_or, Bool.and_eq_true, Bool.or_eq_true]
  unfold holdersP queuedP
  rw [maskP_bit, queuedF_bit]
  simp only [Nat.zero_testBit, Bool.false_or, List.any_eq_true, beq_iff_eq, Bool.not_eq_true', decide_eq_false_iff_not, Bool.and_eq_true, decide_eq_true_eq]
  constructor
  · rintro ⟨h1, h2⟩
    refine ⟨fun e => h2 e.symm, ?_⟩
    rcases h1 with h1 | ⟨q, hq, e⟩
    · exact .inl h1.2
    · exact .inr ⟨q, hq, e⟩
  · rintro ⟨h1, h2⟩
    refine ⟨?_, fun e => h1 e.symm⟩
    rcases h2 with h2 | ⟨q, hq, e⟩
    · exact .inl ⟨hi, h2⟩
    · exact .inr ⟨q, hq, e⟩
/-- A rival: one that holds the resource or is queued for it. -/
def Rival (s : KS) (t r i : Nat) : Prop := i < 16 ∧ i ≠ t ∧ (0 < s.held i r ∨ ∃ q, q ∈ s.queue r ∧ q.1 = i)
theorem rival_mem {i : Nat} (ht : t < 16) : i ∈ tasksP (rivalsP s t r) ↔ Rival s t r i := by
  rw [tasksP_mem]
  unfold Rival
  constructor
  · rintro ⟨h1, h2⟩; exact ⟨h1, (rivals_bit ht h1).1 h2⟩
  · rintro ⟨h1, h2⟩; exact ⟨h1, (rivals_bit ht h1).2 h2⟩
theorem woundL_mem {i : Nat} (ht : t < 16) : i ∈ woundL s t r ↔ s.mode = 2 ∧ Rival s t r i ∧ (s.tk t).birth < (s.tk i).birth := by
  unfold woundL judgeS judgeP judgeF
  rw [tasksP_mem, (judgeF_bits (i := i) _ _).2]
  simp only [Nat.zero_testBit, Bool.false_eq_true, false_or]
  rw [rival_mem ht]
  constructor
  · rintro ⟨h1, h2, h3, h4⟩; exact ⟨h2, h3, h4⟩
  · rintro ⟨h2, h3, h4⟩; exact ⟨h3.1, h2, h3, h4⟩
theorem dies_iff (ht : t < 16) : (judgeS s t r).1 = true ↔ s.mode = 1 ∧ ∃ o, Rival s t r o ∧ (s.tk o).birth < (s.tk t).birth := by
  unfold judgeS judgeP judgeF
  rw [(judgeF_bits (i := 0) _ _).1]
  simp only [Bool.false_eq_true, false_or]
  constructor
  · rintro ⟨h1, o, h2, h3⟩; exact ⟨h1, o, (rival_mem ht).1 h2, h3⟩
  · rintro ⟨h1, o, h2, h3⟩; exact ⟨h1, o, (rival_mem ht).2 h2, h3⟩
theorem rival_live {i : Nat} (hi : INV s) (h : Rival s t r i) : (s.tk i).live = true := by
  rcases h.2.2 with k | ⟨q, hq, e⟩
  · exact hi.hl i r (by omega)
  · rw [← e]; exact hi.wl _ (hi.wait hq)
/-! The rollbacks of several, plainly. -/
theorem aborts_row : ∀ (W : List Nat) {s : KS}, W.Nodup → ∀ t, (W.foldl abortP s).tk t = if t ∈ W then abT (s.tk t) else s.tk t
  | [], s, _, t => by simp
  | v :: W, s, hn, t => by
    rw [List.foldl_cons, aborts_row W (List.nodup_cons.1 hn).2, abort_tk]
    have hv := (List.nodup_cons.1 hn).1
    by_cases h : t ∈ W
    · have e : t ≠ v := fun e => hv (e ▸ h)
      rw [if_pos h, if_pos (List.mem_cons_of_mem _ h), updN_ne e]
    · by_cases e : t = v
      · subst e; rw [if_neg h, if_pos List.mem_cons_self, updN_same]
      · rw [if_neg h, if_neg (fun k => (List.mem_cons.1 k).elim e h), updN_ne e]
theorem aborts_held : ∀ (W : List Nat) {s : KS} {t r : Nat}, (W.foldl abortP s).held t r = if t ∈ W then 0 else s.held t r
  | [], s, t, r => by simp
  | v :: W, s, t, r => by
    rw [List.foldl_cons, aborts_held W]
    by_cases h : t ∈ W
    · rw [if_pos h, if_pos (List.mem_cons_of_mem _ h)]
    · rw [if_neg h, abort_held]
      unfold zapRow
      by_cases e : t = v
      · subst e; rw [if_pos rfl, if_pos List.mem_cons_self]
      · rw [if_neg e, if_neg (fun k => (List.mem_cons.1 k).elim e h)]
theorem aborts_queue : ∀ (W : List Nat) {s : KS} {r : Nat} {p : Nat × Nat}, p ∈ (W.foldl abortP s).queue r ↔ p ∈ s.queue r ∧ p.1 ∉ W
  | [], s, r, p => by simp
  | v :: W, s, r, p => by
    rw [List.foldl_cons, aborts_queue W, abort_queue]
    unfold withdrawP
    rw [List.mem_filter]
    simp only [Bool.not_eq_true', beq_eq_false_iff_ne, ne_eq, List.mem_cons, not_or, and_assoc]
theorem aborts_abB : ∀ (W : List Nat) {s : KS} {t : Nat}, abB (W.foldl abortP s) t = (abB s t || decide (t ∈ W))
  | [], s, t => by simp
  | v :: W, s, t => by
    rw [List.foldl_cons, aborts_abB W, abB_abort]
    by_cases h : t ∈ W
    · simp [h]
    · by_cases e : v = t
      · subst e; simp
      · have e2 : ¬ t = v := fun k => e k.symm
        simp [h, e, e2]
/-! What grants do. -/
def okB (s : KS) (t : Nat) : Bool := (toldP s.told 0).testBit t
theorem okB_ans {x : KS} {u e : Nat} (h : x.told = s.told ++ [(u, e, 0)]) : okB x t = (okB s t || decide (u = t)) := by
  unfold okB
  rw [h, toldP_snoc, toldF_hit (a := (u, e, 0)) (c := 0) rfl, Nat.testBit_or, Nat.testBit_two_pow]
structure GR (x y : KS) : Prop where
  l : ∀ t, (y.tk t).live = (x.tk t).live ∧ (y.tk t).birth = (x.tk t).birth ∧ (y.tk t).epoch = (x.tk t).epoch ∧ (y.tk t).n = (x.tk t).n
  q : ∀ t, NoQ x t → NoQ y t ∧ y.tk t = x.tk t ∧ ∀ r, y.held t r = x.held t r
  m : ∀ t r, x.held t r ≤ y.held t r
  g : ∀ t r, y.held t r ≠ x.held t r → okB y t = true
  a : ∀ t, abB y t = abB x t
  c : y.cells = x.cells
theorem GR.rfl' : GR s s := ⟨fun _ => ⟨rfl, rfl, rfl, rfl⟩, fun _ h => ⟨h, rfl, fun _ => rfl⟩, fun _ _ => Nat.le_refl _, fun _ _ h => absurd rfl h, fun _ => rfl, rfl⟩
theorem GR.wake : GR s (wakeP s) := wake_ind (P := fun y => GR s y) (fun y r q Q h hr hQ ha => by
  refine ⟨fun t => ?_, fun t hn => ?_, fun t b => ?_, fun t b k => ?_, fun t => ?_, h.c⟩
  · have := h.l t
    show (updN y.tk q.1 (anT (y.tk q.1)) t).live = _ ∧ (updN y.tk q.1 (anT (y.tk q.1)) t).birth = _ ∧ (updN y.tk q.1 (anT (y.tk q.1)) t).epoch = _ ∧ (updN y.tk q.1 (anT (y.tk q.1)) t).n = _
    unfold updN
    split
    · rename_i e; rw [e]; rw [e] at this; exact this
    · exact this
  · have h1 := h.q t hn
    have h2 := h1.1
    have hne : q.1 ≠ t := h2 r q hr (by rw [hQ]; exact List.mem_cons_self)
    refine ⟨(Nq.grant hr hQ h2).1, ?_, fun b => ?_⟩
    · show updN y.tk q.1 _ t = _
      rw [updN_ne (fun e => hne e.symm)]; exact h1.2.1
    · show upd2 y.held q.1 r _ t b = _
      unfold upd2
      rw [if_neg (fun e => hne e.1.symm)]
      exact h1.2.2 b
  · have := h.m t b
    show _ ≤ upd2 y.held q.1 r _ t b
    unfold upd2
    split
    · rename_i e; rw [← e.1, ← e.2]; omega
    · exact this
  · rw [okB_ans (s := y) (x := answerP (grantS y r q Q) q.1 0) rfl]
    by_cases e : q.1 = t
    · simp [e]
    · have k : upd2 y.held q.1 r _ t b ≠ _ := k
      unfold upd2 at k
      rw [if_neg (fun k => e k.1.symm)] at k
      rw [h.g t b k]; rfl
  · rw [abB_ans (s := y) (x := answerP (grantS y r q Q) q.1 0) rfl (by decide)]
    exact h.a t) GR.rfl'
/-- No rollback. -/
theorem tick1_abB {f : Nat × Nat × Nat} : abB (tick1 s f) t = abB s t := by
  unfold tick1
  split
  · rw [GR.wake.a, abB_ans (s := s) (x := answerP { s with queue := withdrawP s.queue f.2.2 } f.2.2 4) rfl (by decide)]
  · rfl
theorem ticks_abB : ∀ (F : List (Nat × Nat × Nat)) {s : KS}, abB (F.foldl tick1 s) t = abB s t
  | [], s => rfl
  | f :: F, s => by rw [List.foldl_cons, ticks_abB F, tick1_abB]
theorem ocR_zero {R : Nat → Nat} {a : Nat} (h : R a = 0) : ∀ n, ocR R n a = 0 := by
  have h1 : ∀ {R : Nat → Nat} {t : Nat}, R a = 0 → ocT R t a = 0 := by
    intro R t h
    unfold ocT
    by_cases e : t = a
    · subst e
      have e0 : tasksP (R t) = [] := by rw [h]; decide
      rw [e0]; exact h
    · generalize tasksP (R t) = Ts
      induction Ts generalizing R with
      | nil => exact h
      | cons v Ts ih => exact ih (by show updN R t (R t ||| R v) a = 0; rw [updN_ne (fun k => e k.symm)]; exact h)
  have h2 : ∀ {R : Nat → Nat}, R a = 0 → ∀ n, ocN R n a = 0 := by
    intro R h n
    induction n with
    | zero => exact h
    | succ n ih => exact h1 ih
  intro n
  induction n with
  | zero => exact h
  | succ n ih => exact h2 ih 16
theorem waitF_mem {queue : Nat → List (Nat × Nat)} : ∀ (n r : Nat) {p : Nat × Nat × Nat}, waitF queue t n r = some p → r ≤ p.1 ∧ p.1 < r + n ∧ p.2 ∈ queue p.1 ∧ p.2.1 = t
  | 0, r, p, h => by cases h
  | n + 1, r, p, h => by
    unfold waitF at h
    split at h
    · rename_i q hq
      obtain rfl := Option.some.inj h
      exact ⟨Nat.le_refl _, by show r < r + (n + 1); omega, List.mem_of_find?_eq_some hq, by simpa using List.find?_some hq⟩
    · have := waitF_mem n (r + 1) h
      exact ⟨by omega, by omega, this.2.2⟩
theorem waitP_mem {queue : Nat → List (Nat × Nat)} {p : Nat × Nat × Nat} (h : waitP queue t = some p) : p.1 < 20 ∧ p.2 ∈ queue p.1 ∧ p.2.1 = t := by
  have := waitF_mem 20 0 h
  exact ⟨by omega, this.2.2⟩
theorem victim_mem {v : Nat} (h : victimP s = v) : v ∈ tasksP (cycleP (waitsP s.held s.queue) &&& stuckP s.held s.queue) := by
  unfold victimP victimQ at h
  generalize tasksP (cycleP (waitsP s.held s.queue) &&& stuckP s.held s.queue) = Ts at h ⊢
  have key : ∀ (Ts : List Nat) (x : Int), Ts.foldl (vicF fun i => (s.tk i).n) x = v → v ∈ Ts ∨ x = v := by
    intro Ts
    induction Ts with
    | nil => exact fun x h => .inr h
    | cons a Ts ih =>
      intro x h
      rcases ih _ h with k | k
      · exact .inl (List.mem_cons_of_mem _ k)
      · unfold vicF at k
        split at k
        · exact .inl (by have : a = v := by omega
                         rw [this]; exact List.mem_cons_self)
        · exact .inr k
  rcases key Ts _ h with k | k
  · exact k
  · omega
theorem victim_waits {v : Nat} (hi : INV s) (h : victimP s = v) : (s.tk v).waiting = true := by
  have h1 := tasksP_mem.1 (victim_mem h)
  have h2 := h1.2
  rw [Nat.testBit_and, Bool.and_eq_true] at h2
  have h3 := h2.1
  unfold cycleP at h3
  rw [maskP_bit] at h3
  by_cases h0 : waitsP s.held s.queue v = 0
  · have := ocR_zero h0 16
    rw [this] at h3; simp at h3
  · unfold waitsP at h0
    split at h0
    · rename_i p hp
      have := waitP_mem hp
      rw [← this.2.2]
      exact hi.wait this.2.1
    · exact absurd rfl h0
/-! Law: a rollback leaves others alone, plainly. -/
structure RL (s s' : KS) (G : Nat → Prop) : Prop where
  cl : s'.claim = s.claim
  ab : ∀ t, t < 16 → abB s' t = true → (s.tk t).live = true ∧ (s'.tk t).live = true ∧ (s'.tk t).birth = (s.tk t).birth ∧ (s'.tk t).epoch = inc64 (s.tk t).epoch ∧ (s'.tk t).waiting = false ∧ (s'.tk t).deadline = 0 ∧ (s'.tk t).n = 0 ∧ ∀ r, s'.held t r = 0
  nt : ∀ t, t < 16 → abB s' t = false → (s'.tk t).n = (s.tk t).n ∧ (s'.tk t).epoch = (s.tk t).epoch ∧ (s'.tk t).live = (s.tk t).live ∧ (∀ r, s.held t r ≤ s'.held t r) ∧ (¬ G t → ∀ r, s'.held t r = s.held t r)
theorem RL.of (h0 : s.told = []) {W : List Nat} (hn : W.Nodup) (hl : ∀ t, t ∈ W → (s.tk t).live = true) : RL s (wakeP (W.foldl abortP s)) (fun t => okB (wakeP (W.foldl abortP s)) t = true) ∧ (∀ t, abB (wakeP (W.foldl abortP s)) t = decide (t ∈ W)) := by
  have hg := GR.wake (s := W.foldl abortP s)
  have ha : ∀ t, abB (wakeP (W.foldl abortP s)) t = decide (t ∈ W) := fun t => by rw [hg.a, aborts_abB, abB_nil h0, Bool.false_or]
  have hsm := ((Sm.aborts W (s := s)).trans Sm.wake).claim
  refine ⟨⟨hsm, fun t ht hb => ?_, fun t ht hb => ?_⟩, ha⟩
  · rw [ha] at hb
    have hm : t ∈ W := by simpa using hb
    have hq : NoQ (W.foldl abortP s) t := fun r p _ hp e => (aborts_queue W).1 hp |>.2 (e ▸ hm)
    obtain ⟨_, h2, h3⟩ := hg.q t hq
    have h4 := aborts_row W (s := s) hn t
    rw [if_pos hm] at h4
    rw [h2, h4]
    refine ⟨hl t hm, hl t hm, rfl, rfl, rfl, rfl, rfl, fun r => ?_⟩
    rw [h3, aborts_held, if_pos hm]
  · rw [ha] at hb
    have hm : t ∉ W := by simpa using hb
    have h4 := aborts_row W (s := s) hn t
    rw [if_neg hm] at h4
    have h5 := hg.l t
    rw [h4] at h5
    have h6 : ∀ r, (W.foldl abortP s).held t r = s.held t r := fun r => by rw [aborts_held, if_neg hm]
    refine ⟨h5.2.2.2, h5.2.2.1, h5.1, fun r => ?_, fun hG r => ?_⟩
    · rw [← h6]; exact hg.m t r
    · rw [← h6]
      exact Classical.byContradiction fun k => hG (hg.g t r k)
theorem rb_step {o : Kern.Op} (hB : KB N s) (hi : INV s) (h0 : s.told = []) (hb : ∃ t, abB (stepP s o).1 t = true) : RL s (stepP s o).1 (fun t => okB (stepP s o).1 t = true ∨ (cfB s o = true ∧ (stepP s o).2.1 = 0 ∧ o.A = t)) := by
  have key : ∀ {s' : KS} {c k : Int}, StepR s o s' c k → (∃ t, abB s' t = true) → RL s s' (fun t => okB s' t = true ∨ (cfB s o = true ∧ c = 0 ∧ o.A = t)) := by
    intro s' c k hR hb
    have no : ∀ {x : KS} {P : Prop}, (∃ t, abB x t = true) → (∀ t, abB x t = false) → P := fun hb h => by obtain ⟨t, ht⟩ := hb; rw [h t] at ht; cases ht
    have wk : ∀ {x : KS}, x.told = [] → ∀ t, abB (wakeP x) t = false := fun h t => by rw [GR.wake.a, abB_nil h]
    have mono : ∀ {x : KS} {G G' : Nat → Prop}, (∀ t, G t → G' t) → RL s x G → RL s x G' := fun h k => ⟨k.cl, k.ab, fun t ht hb => ⟨(k.nt t ht hb).1, (k.nt t ht hb).2.1, (k.nt t ht hb).2.2.1, (k.nt t ht hb).2.2.2.1, fun hG => (k.nt t ht hb).2.2.2.2 fun h' => hG (h t h')⟩⟩
    cases hR using StepR.elim with
    | refuse c h0' h1 h3 => exact no hb fun t => abB_nil h0
    | mode hk m hm ha => exact no hb fun t => abB_nil (s := { s with mode := m }) h0
    | born hk t hs => exact no hb fun t' => abB_nil (s := bornS s t) h0
    | declare hk t r u hA hB hC hc hr hu hh => exact no hb fun t' => abB_nil (s := { s with claim := _ }) h0
    | take hk t r u hA hB hC h' hcl W hW ha hat =>
      rcases hW with hW | ⟨hW, hWn, hk35, hat0, hd⟩
      · subst hW
        refine no hb fun t' => ?_
        have e : woundS s [] = s := if_pos rfl
        rw [e]
        exact abB_nil (s := grant1 s t r u) h0
      have e : woundS s W = wakeP (W.foldl abortP s) := if_neg hWn
      have hl : ∀ x, x ∈ W → (s.tk x).live = true := fun x hx => by rw [hW] at hx; exact rival_live hi ((woundL_mem h'.c.lt).1 hx).2.1
      have hnd : W.Nodup := by rw [hW]; exact tasksP_nodup _
      obtain ⟨h1, h2⟩ := RL.of (s := s) h0 hnd hl
      rw [← e] at h1 h2
      have htW : t ∉ W := fun hx => by rw [hW] at hx; exact ((woundL_mem h'.c.lt).1 hx).2.1.2.1 rfl
      refine ⟨h1.cl, fun a ha16 hab => ?_, fun a ha16 hab => ?_⟩
      · obtain ⟨q1, q2, q3, q4, q5, q6, q7, q8⟩ := h1.ab a ha16 hab
        refine ⟨q1, q2, q3, q4, q5, q6, q7, fun b => ?_⟩
        have hm : a ∈ W := by have := h2 a; rw [show abB (woundS s W) a = true from hab] at this; simpa using this.symm
        show upd2 (woundS s W).held t r _ a b = 0
        unfold upd2
        rw [if_neg (fun k => htW (by rw [← k.1]; exact hm))]
        exact q8 b
      · obtain ⟨q1, q2, q3, q4, q5⟩ := h1.nt a ha16 hab
        refine ⟨q1, q2, q3, fun b => ?_, fun hG b => ?_⟩
        · show _ ≤ upd2 (woundS s W).held t r _ a b
          unfold upd2
          split
          · rename_i k; rw [k.1, k.2]; have := q4 b; rw [k.1, k.2] at this; omega
          · exact q4 b
        · show upd2 (woundS s W).held t r _ a b = _
          unfold upd2
          split
          · rename_i k
            exact absurd (.inr ⟨cf_of (by omega) (by omega) hA h'.c, rfl, by rw [hA, k.1]⟩) hG
          · exact q5 (fun k => hG (.inl k)) b
    | pend hk t r u tim hA hB' hC ht0 htim h' hcl W hW hd' ha0 ha hat =>
      by_cases hWn : W = []
      · subst hWn
        refine no hb fun t' => ?_
        have e : woundS s [] = s := if_pos rfl
        rw [e]
        unfold abB
        rw [enq_told]
        exact abB_nil (s := s) h0
      have e : woundS s W = wakeP (W.foldl abortP s) := if_neg hWn
      have hl : ∀ x, x ∈ W → (s.tk x).live = true := fun x hx => by rw [hW] at hx; exact rival_live hi ((woundL_mem h'.c.lt).1 hx).2.1
      have hnd : W.Nodup := by rw [hW]; exact tasksP_nodup _
      obtain ⟨h1, h2⟩ := RL.of (s := s) h0 hnd hl
      rw [← e] at h1 h2
      have htW : t ∉ W := fun hx => by rw [hW] at hx; exact ((woundL_mem h'.c.lt).1 hx).2.1.2.1 rfl
      have eab : ∀ a, abB (enqP (woundS s W) t r u tim) a = abB (woundS s W) a := fun a => by unfold abB; rw [enq_told]
      have eok : ∀ a, okB (enqP (woundS s W) t r u tim) a = okB (woundS s W) a := fun a => by unfold okB; rw [enq_told]
      refine ⟨by rw [enq_claim]; exact h1.cl, fun a ha16 hab => ?_, fun a ha16 hab => ?_⟩
      · rw [eab] at hab
        have hm : a ∈ W := by have := h2 a; rw [hab] at this; simpa using this.symm
        rw [enq_tk, updN_ne (fun k => htW (by rw [← k]; exact hm)), enq_held]
        exact h1.ab a ha16 hab
      · rw [eab] at hab
        obtain ⟨q1, q2, q3, q4, q5⟩ := h1.nt a ha16 hab
        rw [enq_held]
        refine ⟨?_, ?_, ?_, q4, fun hG => q5 fun k => hG (.inl (by rw [eok]; exact k))⟩
        · rw [enq_tk, ← q1]; unfold updN; split
          · rename_i k; rw [k]; cases tim <;> rfl
          · rfl
        · rw [enq_tk, ← q2]; unfold updN; split
          · rename_i k; rw [k]; cases tim <;> rfl
          · rfl
        · rw [enq_tk, ← q3]; unfold updN; split
          · rename_i k; rw [k]; cases tim <;> rfl
          · rfl
    | die hk t r u hA hB hC h' hd' ha0 =>
      have := (RL.of (s := s) (W := [t]) h0 (by simp) (fun x hx => by rw [List.mem_singleton.1 hx]; exact h'.c.live)).1
      exact mono (fun _ h => .inl h) this
    | release hk t r hA hB hc hr hn => exact no hb (wk h0)
    | write hk t c hA hB hc hc12 hh hn => exact no hb fun t' => abB_nil (s := { s with tk := _, cells := _ }) h0
    | commit hk t hA hc => exact no hb fun t' => abB_nil (s := { s with tk := _ }) h0
    | exit hk t hA hc => exact no hb (wk h0)
    | tick hk h16 => exact no hb fun t' => by unfold tickP; rw [ticks_abB]; exact abB_nil (s := tick0 s) h0
    | detect hk v hv hv16 =>
      have := (RL.of (s := s) (W := [v]) h0 (by simp) (fun x hx => by rw [List.mem_singleton.1 hx]; exact hi.wl v (victim_waits hi hv))).1
      exact mono (fun _ h => .inl h) this
  exact key (step_R hB hi) hb
end Go.Proofs.Qxb6500834aGreatDoor

