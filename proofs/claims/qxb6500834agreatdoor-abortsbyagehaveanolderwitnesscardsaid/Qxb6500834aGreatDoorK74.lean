import Derived.Test.Qxb6500834aGreatDoorK73
set_option linter.unusedVariables false
set_option linter.unusedSimpArgs false
set_option maxRecDepth 20000
namespace Go.Proofs.Qxb6500834aGreatDoor
open Go.RowKit Go.E1 Go.Kern
variable {w0 : World} {l X : List HI} {w : World} {s s' s0 : KS} {t r N n : Nat} {qv qv' : Nat → Value}
variable {held claim : Nat → Nat → Nat} {queue : Nat → List (Nat × Nat)}

/-! The banker, plainly. -/
structure Bk (claim held : Nat → Nat → Nat) (queue : Nat → List (Nat × Nat)) : Prop where
  h : ∀ t r, t < 16 → r < 20 → held t r ≤ claim t r
  s : Sf claim held
  q : ∀ r p, r < 20 → p ∈ queue r → held p.1 r + p.2 ≤ claim p.1 r
def BkS (s : KS) : Prop := s.mode = 3 → Bk s.claim s.held s.queue
theorem BkS.same (h : BkS s) (h1 : s'.mode = s.mode) (h2 : s'.claim = s.claim) (h3 : s'.held = s.held) (h4 : s'.queue = s.queue) : BkS s' := fun hm => by rw [h2, h3, h4]; exact h (by rw [← h1]; exact hm)
theorem one_q {q p : Nat × Nat} {Q : List (Nat × Nat)} (hi : INV s) (hr : r < 20) (hQ : s.queue r = q :: Q) (hp : p ∈ Q) : p.1 ≠ q.1 := fun e => by
  have hqm : q ∈ s.queue r := by rw [hQ]; exact List.mem_cons_self
  have h16 := (hi.qt r q hqm).2.1
  have h1 := hi.q q.1 h16
  have h2 := sumP_ge (f := fun a => (s.queue a).countP fun x => x.1 == q.1) 20 hr
  have h3 : 1 ≤ Q.countP fun x => x.1 == q.1 := List.countP_pos_iff.2 ⟨p, hp, by simp [e]⟩
  have h4 : (s.queue r).countP (fun x => x.1 == q.1) = Q.countP (fun x => x.1 == q.1) + 1 := by rw [hQ, List.countP_cons]; simp
  unfold cntP at h1
  have h5 : (if (s.tk q.1).waiting = true then 1 else 0) ≤ 1 := by split <;> omega
  omega
theorem BkS.grant {q : Nat × Nat} {Q : List (Nat × Nat)} (hi : INV s) (h : BkS s) (hr : r < 20) (hQ : s.queue r = q :: Q) (ha : admissibleP s q.1 r q.2 = true) : BkS (answerP (grantS s r q Q) q.1 0) := fun hm => by
  have h1 := h hm
  have hqm : q ∈ s.queue r := by rw [hQ]; exact List.mem_cons_self
  have hsf := (adm_iff.1 ha).2 hm
  show Bk s.claim (upd2 s.held q.1 r (s.held q.1 r + q.2)) (updN s.queue r Q)
  refine ⟨fun t b ht hb => ?_, hsf, fun b p hb hp => ?_⟩
  · unfold upd2
    split
    · rename_i e; rw [e.1, e.2]; exact h1.q r q hr hqm
    · exact h1.h t b ht hb
  · unfold updN at hp
    split at hp
    · rename_i e
      subst e
      have hne := one_q hi hr hQ hp
      unfold upd2
      rw [if_neg (fun k => hne k.1)]
      exact h1.q b p hb (by rw [hQ]; exact List.mem_cons_of_mem _ hp)
    · rename_i e
      unfold upd2
      rw [if_neg (fun k => e k.2)]
      exact h1.q b p hb hp
theorem BkS.wake (hi : INV s) (h : BkS s) : BkS (wakeP s) := wake_indI hi h fun x r q Q hx h hr hQ ha => h.grant hx hr hQ ha
theorem BkS.ticks : ∀ (F : List (Nat × Nat × Nat)) {s : KS}, (∀ f, f ∈ F → f.2.2 < 16) → INV s → BkS s → BkS (F.foldl tick1 s)
  | [], s, _, _, h => h
  | f :: F, s, hF, hi, h => by
    have hf := hF f List.mem_cons_self
    have hc : Core [f] s (tick1 s f) := Core.ticks [f] fun g hg => ⟨hg, by rw [List.mem_singleton.1 hg]; exact hf⟩
    refine BkS.ticks F (fun g hg => hF g (List.mem_cons_of_mem _ hg)) (hc.inv hi) ?_
    unfold tick1
    split
    · rename_i hw
      have hc2 : Core [f] s (answerP { s with queue := withdrawP s.queue f.2.2 } f.2.2 4) := .timeout (.refl s) f (by simp) hf hw.1 hw.2
      exact BkS.wake (hc2.inv hi) fun hm => ⟨(h hm).h, (h hm).s, fun r p hr hp => (h hm).q r p hr (List.mem_filter.1 hp).1⟩
    · exact h
theorem bk_red (h : Bk claim held queue) (ht : t < 16) : Red (wantF held queue) t := fun g hg => by
  have key : ∀ {a : Nat → Bool}, CanB (fitC claim held) a → Sub16 a g → ∀ t, t < 16 → g t = true := by
    intro a hc
    induction hc using CanB.elim with
    | all h1 => exact fun hs t ht => hs t ht (h1 t ht)
    | @step a u hu hf hp _ ih =>
      intro hs
      refine ih (sub_of hs (hg u hu fun p hw => ?_))
      obtain ⟨g1, g2, g3⟩ := waitP_mem hw
      have h1 := h.q p.1 p.2 g1 g2
      have h2 := hp p.1 g1
      have h3 := fuB_mono (held := held) (r := p.1) hs
      rw [g3] at h1
      omega
  exact key h.s (fun _ _ k => by cases k) t ht
theorem bk_victim (h : BkS s) (hm : s.mode = 3) : victimP s = -1 := by
  rcases victimP_or (s := s) with k | ⟨v, hv, k⟩
  · exact k
  · have h1 := tasksP_mem.1 (victim_mem k)
    have h2 := h1.2
    rw [Nat.testBit_and, Bool.and_eq_true] at h2
    exact absurd (bk_red (h hm) hv) ((stuckP_spec hv).1 h2.2)
theorem bk_wound (ht : t < 16) (hm : s.mode = 3) : woundL s t r = [] := by
  cases hx : woundL s t r with
  | nil => rfl
  | cons y L =>
    have := (woundL_mem (s := s) (r := r) (i := y) ht).1 (by rw [hx]; exact List.mem_cons_self)
    omega
theorem bk_wound' {W : List Nat} {p : Prop} (ht : t < 16) (hm : s.mode = 3) (h : W = [] ∨ W = woundL s t r ∧ p) : woundS s W = s := by
  have : W = [] := by
    rcases h with h | h
    · exact h
    · rw [h.1]; exact bk_wound ht hm
  rw [this]; exact if_pos rfl
theorem bk_die (ht : t < 16) (hm : s.mode = 3) : (judgeS s t r).1 = false := by
  cases hx : (judgeS s t r).1 with
  | false => rfl
  | true => have := ((dies_iff ht).1 hx).1; omega
theorem not_live (hb : BI s) (ha : anyLive s = false) : ∀ t, t < 16 → (s.tk t).live = false := fun t ht => by
  unfold anyLive at ha
  have := List.any_eq_false.1 ha t (List.mem_range.2 ht)
  simpa using this
/-- Behind a step. -/
theorem BkS.step {o : Kern.Op} (hB : KB N s) (hi : INV s) (hb : BI s) (hct : CT s) (h0 : s.told = []) (h : BkS s) : BkS (stepP s o).1 ∧ ((stepP s o).1.mode = 3 → ∀ t, abB (stepP s o).1 t = false) := by
  have key : ∀ {s' : KS} {c k : Int}, StepR s o s' c k → BkS s' ∧ (s'.mode = 3 → ∀ t, abB s' t = false) := by
    intro s' c k hR
    have wk : ∀ {x : KS}, x.told = [] → ∀ t, abB (wakeP x) t = false := fun h t => by rw [GR.wake.a, abB_nil h]
    have wm : ∀ {x : KS}, (wakeP x).mode = x.mode := fun {x} => (Core.wake (FL := []) (s := x)).sm.mode
    cases hR using StepR.elim with
    | refuse c h0' h1 h3 => exact ⟨h, fun _ t => abB_nil h0⟩
    | mode hk m hm ha =>
      refine ⟨fun _ => ?_, fun _ t => abB_nil (s := { s with mode := m }) h0⟩
      have hl := not_live hb ha
      have hh : ∀ t r, t < 16 → s.held t r = 0 := fun t r ht => by
        refine Classical.byContradiction fun k => ?_
        have := hi.hl t r k
        rw [hl t ht] at this; cases this
      refine ⟨fun t r ht hr => by show s.held t r ≤ _; rw [hh t r ht]; exact Nat.zero_le _, CanB.rest hct _ _ rfl fun t ht => .inr fun r _ => hh t r ht, fun r p hr hp => ?_⟩
      rw [show ({ s with mode := m } : KS).queue r = s.queue r from rfl, noQ_all hi ha r hr] at hp; cases hp
    | born hk t hs => exact ⟨h.same rfl rfl rfl rfl, fun _ t' => abB_nil (s := bornS s t) h0⟩
    | declare hk t r u hA hB hC hc hr hu hh =>
      refine ⟨fun hm => ?_, fun _ t' => abB_nil (s := { s with claim := _ }) h0⟩
      have h1 := h hm
      have hid := heldBy_nil.1 hh
      refine ⟨fun a b ha hb => ?_, Sf.claims hct (fun a b hb => ?_) (fun a ha hni b => ?_) h1.s, fun b p hb hp => ?_⟩
      · show s.held a b ≤ upd2 s.claim t r u a b
        unfold upd2
        split
        · rename_i e; rw [e.1, hid b hb]; exact Nat.zero_le _
        · exact h1.h a b (by assumption) hb
      · show upd2 s.claim t r u a b ≤ _
        unfold upd2
        split
        · rename_i e; rw [e.2]; exact hu
        · exact hct a b hb
      · show upd2 s.claim t r u a b = _
        have hat : a ≠ t := fun e => hni (by rw [e]; exact hid)
        unfold upd2
        rw [if_neg (fun k => hat k.1)]
      · show s.held p.1 b + p.2 ≤ upd2 s.claim t r u p.1 b
        have hne : p.1 ≠ t := hi.noQ t hc.lt hc.wait b p hb hp
        unfold upd2
        rw [if_neg (fun k => hne k.1)]
        exact h1.q b p hb hp
    | take hk t r u hA hB hC h' hcl W hW ha hat =>
      have hmW : (woundS s W).mode = s.mode := (Core.wound (FL := []) (wound_lt hW)).sm.mode
      refine ⟨fun hm => ?_, fun hm t' => ?_⟩
      · have hm : s.mode = 3 := hmW.symm.trans hm
        rw [bk_wound' h'.c.lt hm hW] at hat ⊢
        have h1 := h hm
        have hcl := hcl hm
        unfold atOnceP at hat
        rw [Bool.and_eq_true] at hat
        have hq : s.queue r = [] := by simpa using hat.1
        have hsf := (adm_iff.1 hat.2).2 hm
        refine ⟨fun a b ha' hb => ?_, hsf, fun b p hb hp => ?_⟩
        · show upd2 s.held t r (s.held t r + u) a b ≤ _
          unfold upd2
          split
          · rename_i e; rw [e.1, e.2]; exact hcl
          · exact h1.h a b (by assumption) hb
        · show upd2 s.held t r (s.held t r + u) p.1 b + p.2 ≤ _
          have hp : p ∈ s.queue b := hp
          unfold upd2
          rw [if_neg (fun k => by rw [k.2, hq] at hp; cases hp)]
          exact h1.q b p hb hp
      · have hm : s.mode = 3 := hmW.symm.trans hm
        rw [bk_wound' h'.c.lt hm hW]
        exact abB_nil (s := grant1 s t r u) h0
    | pend hk t r u tim hA hB' hC ht0 htim h' hcl W hW hd' ha0 ha hat =>
      have hmW : (woundS s W).mode = s.mode := (Core.wound (FL := []) (by rw [hW]; exact woundL_lt)).sm.mode
      have e0 : s.mode = 3 → woundS s W = s := fun hm => by rw [hW, bk_wound h'.c.lt hm]; exact if_pos rfl
      refine ⟨fun hm => ?_, fun hm t' => ?_⟩
      · rw [enq_mode, hmW] at hm
        rw [e0 hm, enq_claim, enq_held, enq_queue]
        have h1 := h hm
        refine ⟨h1.h, h1.s, fun b p hb hp => ?_⟩
        unfold updN at hp
        split at hp
        · rename_i e
          subst e
          rcases List.mem_append.1 hp with hp | hp
          · exact h1.q b p hb hp
          · rw [List.mem_singleton.1 hp]; exact hcl hm
        · exact h1.q b p hb hp
      · rw [enq_mode, hmW] at hm
        unfold abB
        rw [enq_told, e0 hm]
        exact abB_nil (s := s) h0
    | die hk t r u hA hB' hC h' hd' ha0 =>
      have no : s.mode ≠ 3 := fun hm => by rw [bk_die h'.c.lt hm] at hd'; cases hd'
      have hmm : (wakeP (abortP s t)).mode = s.mode := wm
      exact ⟨fun hm => absurd (hmm.symm.trans hm) no, fun hm => absurd (hmm.symm.trans hm) no⟩
    | release hk t r hA hB' hc hr hn =>
      refine ⟨BkS.wake (rel_INV hi hc hr hn) fun hm => ?_, fun _ => wk h0⟩
      have h1 := h hm
      have hle : ∀ a b, upd2 s.held t r 0 a b ≤ s.held a b := fun a b => by unfold upd2; split <;> omega
      refine ⟨fun a b ha hb => Nat.le_trans (hle a b) (h1.h a b ha hb), h1.s.less hc.lt (Nat.zero_le _), fun b p hb hp => Nat.le_trans (Nat.add_le_add_right (hle _ _) _) (h1.q b p hb hp)⟩
    | write hk t c hA hB hc hc12 hh hn => exact ⟨h.same rfl rfl rfl rfl, fun _ t' => abB_nil (s := { s with tk := _, cells := _ }) h0⟩
    | commit hk t hA hc => exact ⟨h.same rfl rfl rfl rfl, fun _ t' => abB_nil (s := { s with tk := _ }) h0⟩
    | exit hk t hA hc =>
      refine ⟨BkS.wake (exit_INV hi hc) fun hm => ?_, fun _ => wk h0⟩
      have h1 := h hm
      have hq := hi.noQ t hc.lt hc.wait
      refine ⟨fun a b ha hb => ?_, h1.s.gone hi.su, fun b p hb hp => ?_⟩
      · show zapRow s.held t a b ≤ zapRow s.claim t a b
        unfold zapRow
        split
        · exact Nat.le_refl _
        · exact h1.h a b (by assumption) hb
      · show zapRow s.held t p.1 b + p.2 ≤ zapRow s.claim t p.1 b
        have hne := hq b p hb hp
        unfold zapRow
        rw [if_neg hne, if_neg hne]
        exact h1.q b p hb hp
    | tick hk h16 => exact ⟨BkS.ticks _ h16 (tick0_INV hi) (h.same (s' := tick0 s) rfl rfl rfl rfl), fun _ t' => by unfold tickP; rw [ticks_abB]; exact abB_nil (s := tick0 s) h0⟩
    | detect hk v hv hv16 =>
      have no : s.mode ≠ 3 := fun hm => by have := bk_victim h hm; omega
      have hmm : (wakeP (abortP s v)).mode = s.mode := wm
      exact ⟨fun hm => absurd (hmm.symm.trans hm) no, fun hm => absurd (hmm.symm.trans hm) no⟩
  exact key (step_R hB hi)
theorem run_BkS (op : Nat → Kern.Op) : ∀ i, BkS (runP op i)
  | 0 => fun hm => by cases hm
  | i + 1 => BkS.same (s := (stepP (runP op i) (op i)).1) (BkS.step (o := op i) (run_KI op i).b (run_INV op i) (run_BI op i) (run_CT op i) (run_KI op i).told (run_BkS op i)).1 rfl rfl rfl rfl
end Go.Proofs.Qxb6500834aGreatDoor

