import Derived.Test.Qxb6500834aGreatDoorK50
set_option linter.unusedVariables false
set_option linter.unusedSimpArgs false
set_option maxRecDepth 20000
namespace Go.Proofs.Qxb6500834aGreatDoor
open Go.RowKit Go.E1 Go.Kern
variable {w0 : World} {l X : List HI} {w : World} {s s' s0 : KS} {t r N n : Nat} {qv qv' : Nat → Value}

/-! Law: birth stamps, plainly. -/
structure BI (s : KS) : Prop where
  lo : ∀ t, t < 16 → (s.tk t).live = true → 1 ≤ (s.tk t).birth ∧ (s.tk t).birth ≤ s.births
  ne : ∀ t u, t < 16 → u < 16 → (s.tk t).live = true → (s.tk u).live = true → (s.tk t).birth = (s.tk u).birth → t = u
  vz : ∀ t, t < 16 → (s.tk t).live = false → (s.tk t).birth = 0
def KeepB (s s' : KS) : Prop := ∀ t, t < 16 → (s.tk t).live = true → (s'.tk t).live = true → (s.tk t).birth = (s'.tk t).birth
theorem BI.same (h : BI s) (h1 : ∀ t, t < 16 → (s'.tk t).live = (s.tk t).live ∧ (s'.tk t).birth = (s.tk t).birth ∨ (s'.tk t).live = false ∧ (s'.tk t).birth = 0) (h2 : s'.births = s.births) : BI s' ∧ KeepB s s' := by
  have h3 : ∀ t, t < 16 → (s'.tk t).live = true → (s.tk t).live = true ∧ (s'.tk t).birth = (s.tk t).birth := fun t ht hl => by
    rcases h1 t ht with k | k
    · exact ⟨by rw [← k.1]; exact hl, k.2⟩
    · rw [k.1] at hl; cases hl
  refine ⟨⟨fun t ht hl => ?_, fun t u ht hu hl hl2 e => ?_, fun t ht hl => ?_⟩, fun t ht hl hl2 => (h3 t ht hl2).2.symm⟩
  · have := h3 t ht hl
    rw [this.2, h2]; exact h.lo t ht this.1
  · have a1 := h3 t ht hl
    have a2 := h3 u hu hl2
    rw [a1.2, a2.2] at e
    exact h.ne t u ht hu a1.1 a2.1 e
  · rcases h1 t ht with k | k
    · rw [k.2]; exact h.vz t ht (by rw [← k.1]; exact hl)
    · exact k.2
theorem upd_lb {T : TK} (hl : T.live = (s.tk t).live) (hb : T.birth = (s.tk t).birth) (a : Nat) : (updN s.tk t T a).live = (s.tk a).live ∧ (updN s.tk t T a).birth = (s.tk a).birth := by
  unfold updN
  split
  · rename_i e; rw [e]; exact ⟨hl, hb⟩
  · exact ⟨rfl, rfl⟩
theorem birth_step {o : Kern.Op} (hB : KB N s) (hi : INV s) (h : BI s) : BI (stepP s o).1 ∧ KeepB s (stepP s o).1 := by
  have key : ∀ {s' : KS} {c k : Int}, StepR s o s' c k → BI s' ∧ KeepB s s' := by
    intro s' c k hR
    have core : ∀ {FL : List (Nat × Nat × Nat)} {s1 s2 : KS}, Core FL s1 s2 → (∀ t, t < 16 → (s1.tk t).live = (s.tk t).live ∧ (s1.tk t).birth = (s.tk t).birth ∨ (s1.tk t).live = false ∧ (s1.tk t).birth = 0) → s1.births = s.births → BI s2 ∧ KeepB s s2 := fun hc h1 h2 => h.same (fun t ht => by
      have := hc.lb t
      rw [this.b, this.l]
      exact h1 t ht) (by rw [hc.sm.births, h2])
    have triv : ∀ {s1 : KS}, (∀ t, (s1.tk t).live = (s.tk t).live ∧ (s1.tk t).birth = (s.tk t).birth) → s1.births = s.births → BI s1 ∧ KeepB s s1 := fun h1 h2 => h.same (fun t _ => .inl (h1 t)) h2
    cases hR using StepR.elim with
    | refuse c h0 h1 h3 => exact triv (fun _ => ⟨rfl, rfl⟩) rfl
    | mode hk m hm ha => exact triv (fun _ => ⟨rfl, rfl⟩) rfl
    | born hk t hs =>
      have hl : (s.tk t).live = false := by simpa using List.find?_some hs
      have e : ∀ a, a ≠ t → (bornS s t).tk a = s.tk a := fun a ha => updN_ne ha
      have e2 : (bornS s t).tk t = bornT s t := updN_same
      refine ⟨⟨fun a ha hla => ?_, fun a b ha hb hla hlb hab => ?_, fun a ha hla => ?_⟩, fun a ha hla hlb => ?_⟩
      · by_cases ea : a = t
        · rw [ea, e2]; exact ⟨Nat.succ_le_succ (Nat.zero_le _), Nat.le_refl _⟩
        · rw [e a ea] at hla ⊢
          have := h.lo a ha hla
          exact ⟨this.1, Nat.le_succ_of_le this.2⟩
      · by_cases ea : a = t <;> by_cases eb : b = t
        · rw [ea, eb]
        · rw [e b eb] at hlb hab
          rw [ea, e2] at hab
          have := (h.lo b hb hlb).2
          have hab : s.births + 1 = (s.tk b).birth := hab
          omega
        · rw [e a ea] at hla hab
          rw [eb, e2] at hab
          have := (h.lo a ha hla).2
          have hab : (s.tk a).birth = s.births + 1 := hab
          omega
        · rw [e a ea] at hla hab
          rw [e b eb] at hlb hab
          exact h.ne a b ha hb hla hlb hab
      · by_cases ea : a = t
        · rw [ea, e2] at hla; cases hla
        · rw [e a ea] at hla ⊢; exact h.vz a ha hla
      · by_cases ea : a = t
        · rw [ea, hl] at hla; cases hla
        · rw [e a ea]
    | declare hk t r u hA hB hC hc hr hu hh => exact triv (fun _ => ⟨rfl, rfl⟩) rfl
    | take hk t r u hA hB hC h hcl W hW ha hat =>
      have h1 := core (FL := []) (s1 := s) (s2 := woundS s W) (Core.wound (wound_lt hW)) (fun _ _ => .inl ⟨rfl, rfl⟩) rfl
      exact ⟨⟨h1.1.lo, h1.1.ne, h1.1.vz⟩, h1.2⟩
    | pend hk t r u tim hA hB hC ht0 htim h hcl W hW hd ha0 ha hat =>
      have hco := Core.wound (FL := []) (s := s) (W := W) (by rw [hW]; exact woundL_lt)
      refine triv (fun a => ?_) (by rw [enq_births]; exact hco.sm.births)
      have := hco.lb a
      rw [enq_tk, ← this.l, ← this.b]
      exact upd_lb (by cases tim <;> rfl) (by cases tim <;> rfl) a
    | die hk t r u hA hB hC h hd ha0 => exact core (FL := []) (s1 := s) ((Core.abort (.refl s) t h.c.lt).trans .wake) (fun _ _ => .inl ⟨rfl, rfl⟩) rfl
    | release hk t r hA hB hc hr hn => exact core (FL := []) .wake (fun _ _ => .inl ⟨rfl, rfl⟩) rfl
    | write hk t c hA hB hc hc12 hh hn => exact triv (upd_lb rfl rfl) rfl
    | commit hk t hA hc => exact triv (upd_lb rfl rfl) rfl
    | exit hk t hA hc =>
      refine core (FL := []) .wake (fun a _ => ?_) rfl
      show (updN s.tk t { tk0 with epoch := inc64 (s.tk t).epoch } a).live = _ ∧ (updN s.tk t { tk0 with epoch := inc64 (s.tk t).epoch } a).birth = _ ∨ (updN s.tk t { tk0 with epoch := inc64 (s.tk t).epoch } a).live = false ∧ (updN s.tk t { tk0 with epoch := inc64 (s.tk t).epoch } a).birth = 0
      unfold updN
      split
      · exact .inr ⟨rfl, rfl⟩
      · exact .inl ⟨rfl, rfl⟩
    | tick hk h16 => exact core (Core.tick h16) (fun _ _ => .inl ⟨rfl, rfl⟩) rfl
    | detect hk v hv hv16 => exact core (FL := []) (s1 := s) ((Core.abort (.refl s) v hv16).trans .wake) (fun _ _ => .inl ⟨rfl, rfl⟩) rfl
  exact key (step_R hB hi)
theorem run_BI (op : Nat → Kern.Op) : ∀ i, BI (runP op i)
  | 0 => ⟨(fun t _ h => by cases h), (fun t u _ _ h => by cases h), fun t _ _ => rfl⟩
  | i + 1 => by
    have h := (birth_step (o := op i) (run_KI op i).b (run_INV op i) (run_BI op i)).1
    exact ⟨h.lo, h.ne, h.vz⟩

/-! Law: timed waits, plainly. F: timers that have gone off and are not yet looked at. -/
structure TI (s : KS) (F : List (Nat × Nat × Nat)) : Prop where
  a : ∀ t, t < 16 → (s.tk t).timer ≠ 0 → ((s.tk t).timer, (s.tk t).deadline, t) ∈ s.timers ++ F
  d : ∀ p, p ∈ s.timers → (s.tk p.2.2).timer = p.1 ∧ (s.tk p.2.2).deadline = p.2.1
  z : ∀ t, (s.tk t).timer = 0 → (s.tk t).deadline = 0
  w : ∀ t, (s.tk t).waiting = false → (s.tk t).timer = 0
  i : ∀ p, p ∈ s.timers → p.1 ≠ 0
  u : ∀ p q, p ∈ s.timers ++ F → q ∈ s.timers ++ F → p.1 = q.1 → p = q
/-- A wait ends. -/
theorem TI.ans {F F' : List (Nat × Nat × Nat)} {v : Nat} {T : TK} (h : TI s F) (hv : v < 16) (h1 : s'.timers = if (s.tk v).timer = 0 then s.timers else cancelP s.timers (s.tk v).timer) (h2 : s'.tk = updN s.tk v T) (hT : T.timer = 0 ∧ T.deadline = 0) (hF : ∀ p, p ∈ F → p ∈ F' ∨ p.1 = (s.tk v).timer) (hF' : F' ⊆ F) : TI s' F' := by
  have hsub : ∀ p, p ∈ s'.timers → p ∈ s.timers ∧ ((s.tk v).timer ≠ 0 → p.1 ≠ (s.tk v).timer) := fun p hp => by
    rw [h1] at hp
    split at hp
    · rename_i e; exact ⟨hp, fun k => absurd e k⟩
    · have := List.mem_filter.1 hp
      exact ⟨this.1, fun _ => by simpa using this.2⟩
  have hsup : ∀ p, p ∈ s.timers → p.1 ≠ (s.tk v).timer → p ∈ s'.timers := fun p hp hn => by
    rw [h1]
    split
    · exact hp
    · exact List.mem_filter.2 ⟨hp, by simpa using hn⟩
  have hne : ∀ p, p ∈ s'.timers → p.2.2 ≠ v := fun p hp e => by
    have h3 := hsub p hp
    have h4 := (h.d p h3.1).1
    rw [e] at h4
    by_cases h5 : (s.tk v).timer = 0
    · exact h.i p h3.1 (by rw [← h4]; exact h5)
    · exact h3.2 h5 h4.symm
  have etk : ∀ a, a ≠ v → s'.tk a = s.tk a := fun a ha => by rw [h2]; exact updN_ne ha
  have etv : s'.tk v = T := by rw [h2]; exact updN_same
  have hmem : ∀ p, p ∈ s'.timers ++ F' → p ∈ s.timers ++ F := fun p hp => by
    rcases List.mem_append.1 hp with hp | hp
    · exact List.mem_append_left _ (hsub p hp).1
    · exact List.mem_append_right _ (hF' hp)
  refine ⟨fun t ht hn => ?_, fun p hp => ?_, fun t => ?_, fun t => ?_, fun p hp => h.i p (hsub p hp).1, fun p q hp hq => h.u p q (hmem p hp) (hmem q hq)⟩
  · by_cases e : t = v
    · rw [e, etv, hT.1] at hn; exact absurd rfl hn
    · rw [etk t e] at hn ⊢
      have h3 := h.a t ht hn
      have h4 : (s.tk t).timer ≠ (s.tk v).timer := fun k => by
        have h5 := h.a v hv (by rw [← k]; exact hn)
        have := h.u _ _ h3 h5 k
        simp only [Prod.mk.injEq] at this
        exact e this.2.2
      rcases List.mem_append.1 h3 with h3 | h3
      · exact List.mem_append_left _ (hsup _ h3 h4)
      · rcases hF _ h3 with h5 | h5
        · exact List.mem_append_right _ h5
        · exact absurd h5 h4
  · rw [etk _ (hne p hp)]; exact h.d p (hsub p hp).1
  · by_cases e : t = v
    · rw [e, etv]; exact fun _ => hT.2
    · rw [etk t e]; exact h.z t
  · by_cases e : t = v
    · rw [e, etv]; exact fun _ => hT.1
    · rw [etk t e]; exact h.w t
theorem TI.abort {F : List (Nat × Nat × Nat)} {v : Nat} (h : TI s F) (hv : v < 16) : TI (abortP s v) F := h.ans hv abort_timers abort_tk ⟨rfl, rfl⟩ (fun p hp => .inl hp) (fun _ h => h)
theorem TI.grant {F : List (Nat × Nat × Nat)} {q : Nat × Nat} {Q : List (Nat × Nat)} (h : TI s F) (hv : q.1 < 16) : TI (answerP (grantS s r q Q) q.1 0) F := h.ans (s' := answerP (grantS s r q Q) q.1 0) (T := anT (s.tk q.1)) hv rfl rfl ⟨rfl, rfl⟩ (fun p hp => .inl hp) (fun _ h => h)
theorem TI.wake {F : List (Nat × Nat × Nat)} (hi : INV s) (h : TI s F) : TI (wakeP s) F := wake_indI (P := fun x => TI x F) hi h fun x r q Q hI hx hr hQ ha => hx.grant (hI.qt r q (by rw [hQ]; exact List.mem_cons_self)).2.1
theorem TI.tick1 {F : List (Nat × Nat × Nat)} {f : Nat × Nat × Nat} (hi : INV s) (h16 : f.2.2 < 16) (h : TI s (f :: F)) : TI (tick1 s f) F := by
  unfold Go.Proofs.Qxb6500834aGreatDoor.tick1
  split
  · rename_i hw
    refine TI.wake (INV.step (.timeout s f.2.2 h16 hw.1) hi) (h.ans (T := anT (s.tk f.2.2)) h16 rfl rfl ⟨rfl, rfl⟩ (fun p hp => ?_) (fun _ h => List.mem_cons_of_mem _ h))
    rcases List.mem_cons.1 hp with e | hp
    · exact .inr (by rw [e, hw.2])
    · exact .inl hp
  · rename_i hw
    refine ⟨fun t ht hn => ?_, h.d, h.z, h.w, h.i, fun p q hp hq => h.u p q ?_ ?_⟩
    · rcases List.mem_append.1 (h.a t ht hn) with h1 | h1
      · exact List.mem_append_left _ h1
      · rcases List.mem_cons.1 h1 with e | h1
        · refine absurd ⟨?_, ?_⟩ hw
          · cases hx : (s.tk f.2.2).waiting with
            | true => rfl
            | false =>
              have := h.w _ hx
              rw [← e] at this
              exact absurd this hn
          · rw [← e]
        · exact List.mem_append_right _ h1
    · rcases List.mem_append.1 hp with hp | hp
      · exact List.mem_append_left _ hp
      · exact List.mem_append_right _ (List.mem_cons_of_mem _ hp)
    · rcases List.mem_append.1 hq with hp | hp
      · exact List.mem_append_left _ hp
      · exact List.mem_append_right _ (List.mem_cons_of_mem _ hp)
theorem TI.ticks : ∀ (F : List (Nat × Nat × Nat)) {s : KS}, INV s → (∀ f, f ∈ F → f.2.2 < 16) → TI s F → TI (F.foldl Go.Proofs.Qxb6500834aGreatDoor.tick1 s) []
  | [], s, _, _, h => h
  | f :: F, s, hi, h16, h => TI.ticks F ((tick1_trs (h16 f List.mem_cons_self)).inv (fun _ _ => INV.step) hi) (fun g hg => h16 g (List.mem_cons_of_mem _ hg)) (h.tick1 hi (h16 f List.mem_cons_self))
theorem fired_iff {f : Nat × Nat × Nat} : f ∈ firedP s ↔ f ∈ s.timers ∧ f.2.1 ≤ s.now + 1 := by
  unfold firedP
  rw [(sortT_perm _).mem_iff]
  unfold dueP
  rw [List.mem_filter]
  simp
/-- No timer is late. -/
def Due (s : KS) : Prop := ∀ p, p ∈ s.timers → s.now < p.2.1
theorem due_mono (h : Due s) (h1 : ∀ p, p ∈ s'.timers → p ∈ s.timers) (h2 : s'.now = s.now) : Due s' := fun p hp => by rw [h2]; exact h p (h1 p hp)
theorem ans_sub {v c : Nat} {q' : Nat → List (Nat × Nat)} {h' : Nat → Nat → Nat} : ∀ p, p ∈ (answerP { s with queue := q', held := h' } v c).timers → p ∈ s.timers := fun p hp => by
  have hp : p ∈ (if (s.tk v).timer = 0 then s.timers else cancelP s.timers (s.tk v).timer) := hp
  split at hp
  · exact hp
  · exact (List.mem_filter.1 hp).1
theorem Core.tsub {FL : List (Nat × Nat × Nat)} (h : Core FL s s') : ∀ p, p ∈ s'.timers → p ∈ s.timers := by
  induction h using Core.elim with
  | refl => exact fun _ h => h
  | abort h t ht ih =>
    refine fun p hp => ih p ?_
    rw [abort_timers] at hp
    split at hp
    · exact hp
    · exact (List.mem_filter.1 hp).1
  | grant h r q Q hr hQ ha ih => exact fun p hp => ih p (ans_sub p hp)
  | timeout h f hf hf16 hw ht ih => exact fun p hp => ih p (ans_sub (h' := _) p hp)
theorem Due.core {FL : List (Nat × Nat × Nat)} (h : Core FL s s') (hd : Due s) : Due s' := due_mono hd h.tsub h.sm.now
theorem TI.core (h : Core [] s s') (hi : INV s) (h0 : TI s []) : TI s' [] :=
  h.ind (P := fun x => TI x []) hi h0 (fun x t _ hx ht => hx.abort ht) (fun x r q Q hI hx hr hQ ha => hx.grant (hI.qt r q (by rw [hQ]; exact List.mem_cons_self)).2.1) (fun x f _ _ hf => by cases hf)
theorem TI.tk {F : List (Nat × Nat × Nat)} (h : TI s F) (h1 : s'.timers = s.timers) (h2 : ∀ t, (s'.tk t).timer = (s.tk t).timer ∧ (s'.tk t).deadline = (s.tk t).deadline) (h3 : ∀ t, (s'.tk t).waiting = false → (s.tk t).timer = 0) : TI s' F :=
  ⟨fun t ht hn => by rw [(h2 t).1] at hn ⊢; rw [(h2 t).2, h1]; exact h.a t ht hn, fun p hp => by rw [h1] at hp; rw [(h2 _).1, (h2 _).2]; exact h.d p hp, fun t => by rw [(h2 t).1, (h2 t).2]; exact h.z t, fun t hw => by rw [(h2 t).1]; exact h3 t hw, fun p hp => by rw [h1] at hp; exact h.i p hp, fun p q hp hq => by rw [h1] at hp hq; exact h.u p q hp hq⟩
theorem TI.enq {u : Nat} {tim : Option Nat} (h : TI s []) (hB : KB N s) (ht : t < 16) (hw : (s.tk t).waiting = false) (hl : (s.tk t).timer = 0) : TI (enqP s t r u tim) [] := by
  cases tim with
  | none =>
    refine h.tk rfl (fun a => ?_) (fun a k => ?_)
    · show (updN s.tk t _ a).timer = _ ∧ (updN s.tk t _ a).deadline = _
      unfold updN
      split
      · rename_i e; rw [e]; exact ⟨rfl, rfl⟩
      · exact ⟨rfl, rfl⟩
    · have k : (updN s.tk t { s.tk t with waiting := true } a).waiting = false := k
      unfold updN at k
      split at k
      · cases k
      · exact h.w a k
  | some k =>
    have e1 : (enqP s t r u (some k)).timers = s.timers ++ [(s.armed + 1, deadP s.now k, t)] := rfl
    have e2 : ∀ a, a ≠ t → (enqP s t r u (some k)).tk a = s.tk a := fun a ha => by rw [enq_tk]; exact updN_ne ha
    have e3 : (enqP s t r u (some k)).tk t = enT s t (some k) := by rw [enq_tk]; exact updN_same
    have hne : ∀ p, p ∈ s.timers → p.2.2 ≠ t := fun p hp e => by
      have := (h.d p hp).1
      rw [e, hl] at this
      exact h.i p hp this.symm
    refine ⟨fun a ha hn => ?_, fun p hp => ?_, fun a => ?_, fun a => ?_, fun p hp => ?_, fun p q hp hq e => ?_⟩
    · rw [List.append_nil, e1]
      by_cases e : a = t
      · rw [e, e3]; exact List.mem_append_right _ (List.mem_singleton.2 rfl)
      · rw [e2 a e] at hn ⊢
        have := h.a a ha hn
        rw [List.append_nil] at this
        exact List.mem_append_left _ this
    · rw [e1] at hp
      rcases List.mem_append.1 hp with hp | hp
      · rw [e2 _ (hne p hp)]; exact h.d p hp
      · obtain rfl := List.mem_singleton.1 hp
        show ((enqP s t r u (some k)).tk t).timer = _ ∧ ((enqP s t r u (some k)).tk t).deadline = _
        rw [e3]; exact ⟨rfl, rfl⟩
    · by_cases e : a = t
      · rw [e, e3]; exact fun k => absurd k (Nat.succ_ne_zero _)
      · rw [e2 a e]; exact h.z a
    · by_cases e : a = t
      · rw [e, e3]; intro k; cases k
      · rw [e2 a e]; exact h.w a
    · rw [e1] at hp
      rcases List.mem_append.1 hp with hp | hp
      · exact h.i p hp
      · obtain rfl := List.mem_singleton.1 hp
        exact Nat.succ_ne_zero _
    · rw [List.append_nil, e1] at hp hq
      rcases List.mem_append.1 hp with hp | hp <;> rcases List.mem_append.1 hq with hq | hq
      · exact h.u p q (List.mem_append_left _ hp) (List.mem_append_left _ hq) e
      · obtain rfl := List.mem_singleton.1 hq
        have := hB.ta p hp
        have e : p.1 = s.armed + 1 := e
        omega
      · obtain rfl := List.mem_singleton.1 hp
        have := hB.ta q hq
        have e : s.armed + 1 = q.1 := e
        omega
      · rw [List.mem_singleton.1 hp, List.mem_singleton.1 hq]
theorem Due.enq {u : Nat} {tim : Option Nat} (h : Due s) (hn : s.now < 18446744073709551615) (ht : tim ≠ some 0) : Due (enqP s t r u tim) := by
  cases tim with
  | none => exact h
  | some k =>
    intro p hp
    rcases List.mem_append.1 hp with hp | hp
    · exact h p hp
    · obtain rfl := List.mem_singleton.1 hp
      show s.now < deadP s.now k
      unfold deadP
      have hk : k ≠ 0 := fun e => ht (by rw [e])
      split <;> omega
theorem Core.kb {FL : List (Nat × Nat × Nat)} (h : Core FL s s') : (∃ N, KB N s) → ∃ N, KB N s' := by
  induction h using Core.elim with
  | refl => exact id
  | abort h t ht ih => exact fun k => let ⟨N, hb⟩ := ih k; ⟨_, hb.abort⟩
  | grant h r q Q hr hQ ha ih => exact fun k => let ⟨N, hb⟩ := ih k; ⟨_, hb.grantHead hr hQ ha⟩
  | timeout h f hf hf16 hw ht ih => exact fun k => let ⟨N, hb⟩ := ih k; ⟨_, (hb.withdraw (t := f.2.2)).answer⟩
theorem upd_td {T : TK} (hl : T.timer = (s.tk t).timer) (hb : T.deadline = (s.tk t).deadline) (a : Nat) : (updN s.tk t T a).timer = (s.tk a).timer ∧ (updN s.tk t T a).deadline = (s.tk a).deadline := by
  unfold updN
  split
  · rename_i e; rw [e]; exact ⟨hl, hb⟩
  · exact ⟨rfl, rfl⟩
theorem upd_w0 {T : TK} {P : Nat → Prop} (h : ∀ a, (s.tk a).waiting = false → P a) (hT : T.waiting = false → P t) : ∀ a, (updN s.tk t T a).waiting = false → P a := fun a k => by
  unfold updN at k
  split at k
  · rename_i e; rw [e]; exact hT k
  · exact h a k
/-- Timeouts are told only by a tick, of timers that went off. -/
theorem Core.to4 {FL : List (Nat × Nat × Nat)} (h : Core FL s s') (h0 : s.told = []) : ∀ a, a ∈ s'.told → a.2.2 = 4 → ∃ f, f ∈ FL ∧ f.2.2 = a.1 := by
  induction h using Core.elim with
  | refl => intro a ha; rw [h0] at ha; cases ha
  | abort h t ht ih =>
    intro a ha h4
    rw [abort_told] at ha
    rcases List.mem_append.1 ha with ha | ha
    · exact ih a ha h4
    · rw [List.mem_singleton.1 ha] at h4; cases h4
  | grant h r q Q hr hQ hq ih =>
    intro a ha h4
    rcases List.mem_append.1 ha with ha | ha
    · exact ih a ha h4
    · rw [List.mem_singleton.1 ha] at h4; cases h4
  | timeout h f hf hf16 hw ht ih =>
    intro a ha h4
    rcases List.mem_append.1 ha with ha | ha
    · exact ih a ha h4
    · exact ⟨f, hf, by rw [List.mem_singleton.1 ha]⟩
theorem timed_step {o : Kern.Op} (hB : KB N s) (hi : INV s) (hn : s.now < 18446744073709551614) (h0 : s.told = []) (h : TI s []) (hd : Due s) : TI (stepP s o).1 [] ∧ Due (stepP s o).1 ∧ ∀ a, a ∈ (stepP s o).1.told → a.2.2 = 4 → o.kind = 10 ∧ (s.tk a.1).deadline = (stepP s o).1.now := by
  have key : ∀ {s' : KS} {c k : Int}, StepR s o s' c k → TI s' [] ∧ Due s' ∧ ∀ a, a ∈ s'.told → a.2.2 = 4 → o.kind = 10 ∧ (s.tk a.1).deadline = s'.now := by
    intro s' c k hR
    have core : ∀ {s1 s2 : KS}, Core [] s1 s2 → INV s1 → TI s1 [] → Due s1 → s1.told = [] → TI s2 [] ∧ Due s2 ∧ ∀ a, a ∈ s2.told → a.2.2 = 4 → o.kind = 10 ∧ (s.tk a.1).deadline = s2.now := fun hc hi1 ht1 hd1 h01 =>
      ⟨ht1.core hc hi1, hd1.core hc, fun a ha h4 => by obtain ⟨f, hf, _⟩ := hc.to4 h01 a ha h4; cases hf⟩
    have triv : ∀ {s1 : KS}, TI s1 [] → Due s1 → s1.told = [] → TI s1 [] ∧ Due s1 ∧ ∀ a, a ∈ s1.told → a.2.2 = 4 → o.kind = 10 ∧ (s.tk a.1).deadline = s1.now := fun h1 h2 h3 => ⟨h1, h2, fun a ha => by rw [h3] at ha; cases ha⟩
    cases hR using StepR.elim with
    | refuse c h0 h1 h3 => exact triv h hd (by assumption)
    | mode hk m hm ha => exact triv (h.tk rfl (fun _ => ⟨rfl, rfl⟩) h.w) hd h0
    | born hk t hs =>
      have hl : (s.tk t).live = false := by simpa using List.find?_some hs
      have hw : (s.tk t).waiting = false := by
        cases hx : (s.tk t).waiting with
        | false => rfl
        | true => rw [hi.wl t hx] at hl; cases hl
      have h1 := h.w t hw
      exact triv (h.tk rfl (upd_td h1.symm (h.z t h1).symm) (upd_w0 h.w fun _ => h1)) hd h0
    | declare hk t r u hA hB hC hc hr hu hh => exact triv (h.tk rfl (fun _ => ⟨rfl, rfl⟩) h.w) hd h0
    | take hk t r u hA hB hC h' hcl W hW ha hat =>
      obtain ⟨h1, h2, h3⟩ := core (Core.wound (wound_lt hW)) hi h hd h0
      exact ⟨h1.tk rfl (fun _ => ⟨rfl, rfl⟩) h1.w, h2, h3⟩
    | pend hk t r u tim hA hB' hC ht0 htim h' hcl W hW hd' ha0 ha hat =>
      have hco := Core.wound (FL := []) (s := s) (W := W) (by rw [hW]; exact woundL_lt)
      obtain ⟨h1, h2, h3⟩ := core hco hi h hd h0
      obtain ⟨M, hM⟩ := hco.kb ⟨N, hB⟩
      refine ⟨h1.enq hM h'.c.lt ha.c.wait (h1.w _ ha.c.wait), h2.enq (by rw [hco.sm.now]; omega) ht0, fun a ha h4 => ?_⟩
      rw [enq_told] at ha
      rw [enq_now]
      exact h3 a ha h4
    | die hk t r u hA hB hC h' hd' ha0 => exact core ((Core.abort (.refl s) t h'.c.lt).trans .wake) hi h hd h0
    | release hk t r hA hB hc hr hn => exact core .wake (rel_INV hi hc hr hn) (h.tk rfl (fun _ => ⟨rfl, rfl⟩) h.w) hd h0
    | write hk t c hA hB hc hc12 hh hn => exact triv (h.tk rfl (upd_td rfl rfl) (upd_w0 h.w fun k => h.w t k)) hd h0
    | commit hk t hA hc => exact triv (h.tk rfl (upd_td rfl rfl) (upd_w0 h.w fun k => h.w t k)) hd h0
    | exit hk t hA hc =>
      have h1 := h.w t hc.wait
      exact core .wake (exit_INV hi hc) (h.tk rfl (upd_td h1.symm (h.z t h1).symm) (upd_w0 h.w fun _ => h1)) hd h0
    | tick hk h16 =>
      have hT0 : TI (tick0 s) (firedP s) := by
        have hm : ∀ p, p ∈ (tick0 s).timers ++ firedP s ↔ p ∈ s.timers := fun p => by
          rw [List.mem_append, fired_iff]
          show p ∈ restP s.timers (s.now + 1) ∨ _ ↔ _
          unfold restP
          rw [List.mem_filter]
          by_cases hx : p.2.1 ≤ s.now + 1 <;> simp [hx]
        have hs : ∀ p, p ∈ (tick0 s).timers → p ∈ s.timers := fun p hp => (hm p).1 (List.mem_append_left _ hp)
        refine ⟨fun t ht hn => (hm _).2 (by have := h.a t ht hn; rw [List.append_nil] at this; exact this), fun p hp => h.d p (hs p hp), h.z, h.w, fun p hp => h.i p (hs p hp), fun p q hp hq => h.u p q (by rw [List.append_nil]; exact (hm p).1 hp) (by rw [List.append_nil]; exact (hm q).1 hq)⟩
      have hD0 : Due (tick0 s) := fun p hp => by
        have := (List.mem_filter.1 hp).2
        show s.now + 1 < p.2.1
        have : ¬ p.2.1 ≤ s.now + 1 := by simpa using this
        omega
      have hnow : (tickP s).now = s.now + 1 := (Core.tick h16).sm.now
      refine ⟨TI.ticks _ (tick0_INV hi) h16 hT0, hD0.core (Core.tick h16), fun a ha h4 => ⟨hk, ?_⟩⟩
      obtain ⟨f, hf, e⟩ := (Core.tick h16).to4 h0 a ha h4
      have h1 := fired_iff.1 hf
      have h2 := hd f h1.1
      have h3 := (h.d f h1.1).2
      rw [← e, hnow, h3]
      omega
    | detect hk v hv hv16 => exact core ((Core.abort (.refl s) v hv16).trans .wake) hi h hd h0
  exact key (step_R hB hi)
theorem run_TI (op : Nat → Kern.Op) (n : Nat) (hn : n ≤ 65536) : ∀ i, i ≤ n → TI (runP op i) [] ∧ Due (runP op i)
  | 0, _ => ⟨⟨(fun t _ h => absurd rfl h), (fun p hp => by cases hp), (fun t _ => rfl), (fun t _ => rfl), (fun p hp => by cases hp), (fun p q hp => by cases hp)⟩, fun p hp => by cases hp⟩
  | i + 1, hi => by
    have hK := run_KI op i
    have := hK.now
    have h := run_TI op n hn i (by omega)
    have h2 := timed_step (o := op i) hK.b (run_INV op i) (by omega) hK.told h.1 h.2
    exact ⟨⟨h2.1.a, h2.1.d, h2.1.z, h2.1.w, h2.1.i, h2.1.u⟩, h2.2.1⟩
end Go.Proofs.Qxb6500834aGreatDoor

