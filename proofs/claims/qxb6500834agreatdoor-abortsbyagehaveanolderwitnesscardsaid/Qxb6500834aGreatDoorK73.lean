import Derived.Test.Qxb6500834aGreatDoorK70
set_option linter.unusedVariables false
set_option linter.unusedSimpArgs false
set_option maxRecDepth 20000
namespace Go.Proofs.Qxb6500834aGreatDoor
open Go.RowKit Go.E1 Go.Kern
variable {w0 : World} {l X : List HI} {w : World} {s s' s0 : KS} {t r N n : Nat} {qv qv' : Nat → Value}
variable {held claim : Nat → Nat → Nat} {queue : Nat → List (Nat × Nat)} {D D' : Nat → Nat → Prop}

/-! Waiting by age. -/
structure AgeI (D : Nat → Nat → Prop) (held : Nat → Nat → Nat) (queue : Nat → List (Nat × Nat)) : Prop where
  q : ∀ r, r < 20 → (queue r).Pairwise fun p q => D q.1 p.1
  h : ∀ r, r < 20 → ∀ p, p ∈ queue r → ∀ y, y < 16 → y ≠ p.1 → 0 < held y r → D p.1 y
theorem AgeI.less {held' : Nat → Nat → Nat} {queue' : Nat → List (Nat × Nat)} (h : AgeI D held queue) (hq : ∀ r, (queue' r).Sublist (queue r)) (hh : ∀ y r, 0 < held' y r → 0 < held y r) : AgeI D held' queue' :=
  ⟨fun r hr => (h.q r hr).sublist (hq r), fun r hr p hp y hy hn k => h.h r hr p ((hq r).subset hp) y hy hn (hh y r k)⟩
theorem AgeI.dif (h : AgeI D held queue) (hD : ∀ r, r < 20 → ∀ p, p ∈ queue r → ∀ y, y < 16 → (0 < held y r ∨ ∃ q, q ∈ queue r ∧ q.1 = y) → D p.1 y → D' p.1 y) (h16 : ∀ r p, p ∈ queue r → p.1 < 16) : AgeI D' held queue :=
  ⟨fun r hr => (h.q r hr).imp_of_mem fun ha hb k => hD r hr _ hb _ (h16 r _ ha) (.inr ⟨_, ha, rfl⟩) k, fun r hr p hp y hy hn k => hD r hr p hp y hy (.inl k) (h.h r hr p hp y hy hn k)⟩
theorem zap_pos {y b : Nat} (h : 0 < zapRow held t y b) : 0 < held y b := by
  unfold zapRow at h
  split at h
  · omega
  · exact h
theorem AgeI.grant {q : Nat × Nat} {Q : List (Nat × Nat)} {x : Nat} (h : AgeI D held queue) (hr : r < 20) (hQ : queue r = q :: Q) : AgeI D (upd2 held q.1 r x) (updN queue r Q) := by
  have h0 := h.q r hr
  rw [hQ] at h0
  have h1 := List.pairwise_cons.1 h0
  refine ⟨fun b hb => ?_, fun b hb p hp y hy hn k => ?_⟩
  · unfold updN
    split
    · exact h1.2
    · exact h.q b hb
  · unfold updN at hp
    unfold upd2 at k
    split at hp
    · rename_i e
      subst e
      have hp' : p ∈ queue b := by rw [hQ]; exact List.mem_cons_of_mem _ hp
      by_cases ey : y = q.1
      · rw [ey]; exact h1.1 p hp
      · rw [if_neg (fun k => ey k.1)] at k
        exact h.h b hb p hp' y hy hn k
    · rename_i e
      rw [if_neg (fun k => e k.2)] at k
      exact h.h b hb p hp y hy hn k
theorem AgeI.core {FL : List (Nat × Nat × Nat)} (hc : Core FL s s') (h : AgeI D s.held s.queue) : AgeI D s'.held s'.queue := by
  induction hc using Core.elim with
  | refl => exact h
  | abort _ t ht ih => exact ih.less (fun r => by rw [abort_queue]; exact List.filter_sublist) (fun y b k => by rw [abort_held] at k; exact zap_pos k)
  | grant _ r q Q hr hQ ha ih => exact ih.grant hr hQ
  | timeout _ f hf hf16 hw ht ih => exact ih.less (fun r => List.filter_sublist) (fun y b k => k)
theorem AgeI.enq {u : Nat} (h : AgeI D held queue) (hn : ∀ y, y < 16 → y ≠ t → 0 < held y r → D t y) (hq : ∀ p, p ∈ queue r → D t p.1) : AgeI D held (updN queue r (queue r ++ [(t, u)])) := by
  refine ⟨fun b hb => ?_, fun b hb p hp y hy hne k => ?_⟩
  · unfold updN
    split
    · rename_i e
      subst e
      refine List.pairwise_append.2 ⟨h.q b hb, List.pairwise_singleton _ _, fun p hp q' hq' => ?_⟩
      rw [List.mem_singleton.1 hq']
      exact hq p hp
    · exact h.q b hb
  · unfold updN at hp
    split at hp
    · rename_i e
      subst e
      rcases List.mem_append.1 hp with hp | hp
      · exact h.h b hb p hp y hy hne k
      · rw [List.mem_singleton.1 hp] at hne ⊢
        exact hn y hy hne k
    · exact h.h b hb p hp y hy hne k
/-- No step makes new rivals. -/
theorem Core.rival {FL : List (Nat × Nat × Nat)} {y : Nat} (hc : Core FL s s') (h : Rival s' t r y) : Rival s t r y := by
  induction hc using Core.elim with
  | refl => exact h
  | @abort s1 _ v hv ih =>
    refine ih ⟨h.1, h.2.1, ?_⟩
    rcases h.2.2 with k | ⟨q, hq, e⟩
    · rw [abort_held] at k; exact .inl (zap_pos k)
    · rw [abort_queue] at hq; exact .inr ⟨q, (List.mem_filter.1 hq).1, e⟩
  | @grant s1 _ b q Q hb hQ ha ih =>
    refine ih ⟨h.1, h.2.1, ?_⟩
    rcases h.2.2 with k | ⟨p, hp, e⟩
    · have k : 0 < upd2 s1.held q.1 b (s1.held q.1 b + q.2) y r := k
      unfold upd2 at k
      split at k
      · rename_i e; exact .inr ⟨q, by rw [e.2, hQ]; exact List.mem_cons_self, e.1.symm⟩
      · exact .inl k
    · have hp : p ∈ updN s1.queue b Q r := hp
      unfold updN at hp
      split at hp
      · rename_i e2; exact .inr ⟨p, by rw [e2, hQ]; exact List.mem_cons_of_mem _ hp, e⟩
      · exact .inr ⟨p, hp, e⟩
  | @timeout s1 _ f hf hf16 hw ht ih =>
    refine ih ⟨h.1, h.2.1, ?_⟩
    rcases h.2.2 with k | ⟨q, hq, e⟩
    · exact .inl k
    · exact .inr ⟨q, (List.mem_filter.1 hq).1, e⟩
theorem wound_rival {y : Nat} {W : List Nat} (h : Rival (woundS s W) t r y) : Rival s t r y ∧ y ∉ W := by
  unfold woundS at h
  split at h
  · rename_i e; subst e; exact ⟨h, List.not_mem_nil⟩
  · have h1 := Core.rival (FL := []) Core.wake h
    refine ⟨⟨h1.1, h1.2.1, ?_⟩, ?_⟩
    · rcases h1.2.2 with k | ⟨q, hq, e⟩
      · rw [aborts_held] at k
        split at k
        · omega
        · exact .inl k
      · exact .inr ⟨q, ((aborts_queue W).1 hq).1, e⟩
    · rcases h1.2.2 with k | ⟨q, hq, e⟩
      · rw [aborts_held] at k
        split at k
        · omega
        · rename_i e; exact e
      · rw [← e]; exact ((aborts_queue W).1 hq).2
/-! Who may wait for whom: the older for the younger, or the younger for the older. -/
def ageD (m : Nat) (b : Nat → Nat) (x y : Nat) : Prop := if m = 1 then b x < b y else b y < b x
def brF (s : KS) (i : Nat) : Nat := (s.tk i).birth
def AgeS (s : KS) : Prop := s.mode = 1 ∨ s.mode = 2 → AgeI (ageD s.mode (brF s)) s.held s.queue
theorem AgeS.same (h : AgeS s) (h1 : s'.mode = s.mode) (h2 : ∀ a, brF s' a = brF s a) (h3 : s'.held = s.held) (h4 : s'.queue = s.queue) : AgeS s' := fun hm => by
  have e : brF s' = brF s := funext h2
  rw [e, h1, h3, h4]
  exact h (by rw [← h1]; exact hm)
theorem AgeS.core {FL : List (Nat × Nat × Nat)} (h : AgeS s) (hc : Core FL s s') : AgeS s' := fun hm => by
  have e : brF s' = brF s := funext fun a => (hc.lb a).b
  have e1 := hc.sm.mode
  rw [e, e1]
  exact (h (by rw [← e1]; exact hm)).core hc
theorem AgeS.step {o : Kern.Op} (hB : KB N s) (hi : INV s) (hb : BI s) (h : AgeS s) : AgeS (stepP s o).1 := by
  have key : ∀ {s' : KS} {c k : Int}, StepR s o s' c k → AgeS s' := by
    intro s' c k hR
    have h16 : ∀ r p, p ∈ s.queue r → p.1 < 16 := fun r p hp => (hi.qt r p hp).2.1
    cases hR using StepR.elim with
    | refuse c h0' h1 h3 => exact h
    | mode hk m hm ha => exact fun _ => ⟨fun r hr => by rw [show ({ s with mode := m } : KS).queue r = s.queue r from rfl, noQ_all hi ha r hr]; exact List.Pairwise.nil, fun r hr p hp => by rw [show ({ s with mode := m } : KS).queue r = s.queue r from rfl, noQ_all hi ha r hr] at hp; cases hp⟩
    | born hk t hs =>
      intro hm
      have hl : (s.tk t).live = false := by have := List.find?_some hs; simpa using this
      have hne : ∀ a, (s.tk a).live = true → brF (bornS s t) a = brF s a := fun a ha => by
        have e : a ≠ t := fun e => by rw [e, hl] at ha; cases ha
        show (updN s.tk t (bornT s t) a).birth = _
        rw [updN_ne e]; rfl
      refine (h hm).dif (fun r hr p hp y hy hy2 k => ?_) h16
      have e1 := hne p.1 (hi.wl _ (hi.wait hp))
      have e2 := hne y (by
        rcases hy2 with k | ⟨q, hq, e⟩
        · exact hi.hl y r (by omega)
        · rw [← e]; exact hi.wl _ (hi.wait hq))
      unfold ageD at k ⊢
      rw [e1, e2]; exact k
    | declare hk t r u hA hB hC hc hr hu hh => exact h.same rfl (fun _ => rfl) rfl rfl
    | take hk t r u hA hB hC h' hcl W hW ha hat =>
      have h1 := h.core (Core.wound (FL := []) (wound_lt hW))
      unfold atOnceP at hat
      rw [Bool.and_eq_true] at hat
      have hq : (woundS s W).queue r = [] := by simpa using hat.1
      intro hm
      have h2 := h1 hm
      refine ⟨h2.q, fun b hb p hp y hy hne k => ?_⟩
      have k : 0 < upd2 (woundS s W).held t r _ y b := k
      have hp : p ∈ (woundS s W).queue b := hp
      unfold upd2 at k
      split at k
      · rename_i e; rw [e.2, hq] at hp; cases hp
      · exact h2.h b hb p hp y hy hne k
    | pend hk t r u tim hA hB' hC ht0 htim h' hcl W hW hd' ha0 ha hat =>
      have hcw : Core [] s (woundS s W) := Core.wound (by rw [hW]; exact woundL_lt)
      have h1 := h.core hcw
      have eb : brF (enqP (woundS s W) t r u tim) = brF s := funext fun a => by
        have := (hcw.lb a).b
        unfold brF
        rw [enq_tk, ← this]; unfold updN; split
        · rename_i k; rw [k]; cases tim <;> rfl
        · rfl
      have eb1 : brF (woundS s W) = brF s := funext fun a => (hcw.lb a).b
      have em := hcw.sm.mode
      intro hm
      rw [enq_mode] at hm
      have h2 := h1 hm
      rw [eb, enq_mode, enq_held, enq_queue]
      rw [eb1] at h2
      rw [em] at h2 hm ⊢
      have riv : ∀ y, Rival (woundS s W) t r y → ageD s.mode (brF s) t y := fun y hy => by
        obtain ⟨g1, g2⟩ := wound_rival hy
        have hl := rival_live hi g1
        have hne : (s.tk y).birth ≠ (s.tk t).birth := fun e => g1.2.1 (hb.ne y t g1.1 h'.c.lt hl h'.c.live e)
        unfold ageD brF
        split
        · rename_i e1
          have : ¬ (s.tk y).birth < (s.tk t).birth := fun k => by
            rw [(dies_iff h'.c.lt).2 ⟨e1, y, g1, k⟩] at hd'; cases hd'
          omega
        · rename_i e1
          have : ¬ (s.tk t).birth < (s.tk y).birth := fun k => g2 (by rw [hW]; exact (woundL_mem h'.c.lt).2 ⟨by omega, g1, k⟩)
          omega
      have hiw := hcw.inv hi
      refine h2.enq (fun y hy hne k => riv y ⟨hy, hne, .inl k⟩) fun p hp => riv p.1 ⟨(hiw.qt r p hp).2.1, fun e => ?_, .inr ⟨p, hp, rfl⟩⟩
      have := hiw.wait hp
      rw [e, ha.c.wait] at this; cases this
    | die hk t r u hA hB' hC h' hd' ha0 => exact h.core (FL := []) ((Core.abort (.refl s) t h'.c.lt).trans .wake)
    | release hk t r hA hB' hc hr hn =>
      refine AgeS.core (FL := []) (s := { s with held := upd2 s.held t r 0 }) (fun hm => ?_) .wake
      refine (h hm).less (fun _ => List.Sublist.refl _) fun y b k => ?_
      have k : 0 < upd2 s.held t r 0 y b := k
      unfold upd2 at k
      split at k
      · omega
      · exact k
    | write hk t c hA hB hc hc12 hh hn =>
      refine h.same rfl (fun a => ?_) rfl rfl
      show (updN s.tk t (pushP (s.tk t) c (s.cells c)) a).birth = _
      unfold updN; split
      · rename_i e; rw [e]; rfl
      · rfl
    | commit hk t hA hc =>
      refine h.same rfl (fun a => ?_) rfl rfl
      show (updN s.tk t { s.tk t with n := 0 } a).birth = _
      unfold updN; split
      · rename_i e; rw [e]; rfl
      · rfl
    | exit hk t hA hc =>
      refine AgeS.core (FL := []) (s := exitS s t) (fun hm => ?_) .wake
      have hq := hi.noQ t hc.lt hc.wait
      have hne : ∀ a, a ≠ t → brF (exitS s t) a = brF s a := fun a e => by
        show (updN s.tk t _ a).birth = _
        rw [updN_ne e]; rfl
      have h2 : AgeI (ageD s.mode (brF s)) (zapRow s.held t) s.queue := (h hm).less (fun _ => List.Sublist.refl _) fun y b k => zap_pos k
      refine h2.dif (fun r hr p hp y hy hy2 k => ?_) h16
      have e1 := hne p.1 (hq r p hr hp)
      have e2 := hne y (fun e => by
        rcases hy2 with k | ⟨q, hq', e'⟩
        · rw [e] at k; unfold zapRow at k; rw [if_pos rfl] at k; omega
        · exact hq r q hr hq' (e'.trans e))
      show ageD s.mode _ _ _
      unfold ageD at k ⊢
      rw [e1, e2]; exact k
    | tick hk h16' => exact AgeS.core (s := tick0 s) (h.same rfl (fun _ => rfl) rfl rfl) (Core.tick h16')
    | detect hk v hv hv16 => exact h.core (FL := []) ((Core.abort (.refl s) v hv16).trans .wake)
  exact key (step_R hB hi)
theorem run_AgeS (op : Nat → Kern.Op) : ∀ i, AgeS (runP op i)
  | 0 => fun _ => ⟨fun r _ => List.Pairwise.nil, fun r _ p hp => by cases hp⟩
  | i + 1 => AgeS.same (s := (stepP (runP op i) (op i)).1) (AgeS.step (o := op i) (run_KI op i).b (run_INV op i) (run_BI op i) (run_AgeS op i)) rfl (fun _ => rfl) rfl rfl
theorem pt_age {m : Nat} {b : Nat → Nat} {k x y : Nat} (h : AgeI (ageD m b) held queue) (hp : Pt (Ed held queue) k x y) : ageD m b x y := by
  induction hp using Pt.elim with
  | @edge x y hE =>
    obtain ⟨p, h1, h2, h3, h4⟩ := hE
    obtain ⟨g1, g2, g3⟩ := waitP_mem h1
    have := h.h p.1 g1 p.2 g2 y h2 (by rw [g3]; exact h3) h4
    rw [g3] at this; exact this
  | thru c hc _ _ ih1 ih2 =>
    unfold ageD at ih1 ih2 ⊢
    split at ih1
    · rename_i e; rw [if_pos e] at ih2 ⊢; omega
    · rename_i e; rw [if_neg e] at ih2 ⊢; omega
theorem age_acyc (h : AgeS s) (hm : s.mode = 1 ∨ s.mode = 2) : ¬ Pt (Ed s.held s.queue) 16 t t := fun k => by
  have := pt_age (h hm) k
  unfold ageD at this
  split at this <;> omega
theorem age_victim (h : AgeS s) (hm : s.mode = 1 ∨ s.mode = 2) : victimP s = -1 := by
  rcases victimP_or (s := s) with k | ⟨v, hv, k⟩
  · exact k
  · have h1 := tasksP_mem.1 (victim_mem k)
    have h2 := h1.2
    rw [Nat.testBit_and, Bool.and_eq_true] at h2
    exact absurd ((cycleP_spec hv).1 h2.1) (age_acyc h hm)
end Go.Proofs.Qxb6500834aGreatDoor

