import Derived.Test.Qxb6500834aGreatDoorK66
import Derived.Test.Qxb6500834aGreatDoorK60
set_option linter.unusedVariables false
set_option linter.unusedSimpArgs false
set_option maxRecDepth 20000
namespace Go.Proofs.Qxb6500834aGreatDoor
open Go.RowKit Go.E1 Go.Kern
variable {w0 : World} {l X : List HI} {w : World} {s s' s0 : KS} {t r N n : Nat} {qv qv' : Nat → Value}
variable {held claim : Nat → Nat → Nat} {a b : Nat → Bool} {φ ψ : (Nat → Bool) → Nat → Prop}

/-! Claims stay within the totals. -/
def CT (s : KS) : Prop := ∀ t r, r < 20 → s.claim t r ≤ totP r
theorem CT.step {o : Kern.Op} (hB : KB N s) (hi : INV s) (h : CT s) : CT (stepP s o).1 := by
  have key : ∀ {s' : KS} {c k : Int}, StepR s o s' c k → CT s' := by
    intro s' c k hR
    have cg : ∀ {x : KS}, x.claim = s.claim → CT x := fun e t r hr => by rw [e]; exact h t r hr
    cases hR using StepR.elim with
    | refuse c h0' h1 h3 => exact h
    | mode hk m hm ha => exact h
    | born hk t hs => exact h
    | declare hk t r u hA hB hC hc hr hu hh =>
      intro a b hb
      show upd2 s.claim t r u a b ≤ _
      unfold upd2
      split
      · rename_i e; rw [e.2]; exact hu
      · exact h a b hb
    | take hk t r u hA hB hC h' hcl W hW ha hat => exact cg (Core.wound (FL := []) (s := s) (W := W) (wound_lt hW)).sm.claim
    | pend hk t r u tim hA hB' hC ht0 htim h' hcl W hW hd' ha0 ha hat => exact cg (by rw [enq_claim]; exact (Core.wound (FL := []) (s := s) (W := W) (by rw [hW]; exact woundL_lt)).sm.claim)
    | die hk t r u hA hB hC h' hd' ha0 => exact cg ((Core.abort (FL := []) (.refl s) t h'.c.lt).trans .wake).sm.claim
    | release hk t r hA hB hc hr hn => exact cg (Core.wake (FL := []) (s := { s with held := upd2 s.held t r 0 })).sm.claim
    | write hk t c hA hB hc hc12 hh hn => exact h
    | commit hk t hA hc => exact h
    | exit hk t hA hc =>
      intro a b hb
      rw [(Core.wake (FL := []) (s := exitS s t)).sm.claim]
      show zapRow s.claim t a b ≤ _
      unfold zapRow
      split
      · omega
      · exact h a b hb
    | tick hk h16 => exact cg (Core.tick h16).sm.claim
    | detect hk v hv hv16 => exact cg ((Core.abort (FL := []) (.refl s) v hv16).trans .wake).sm.claim
  exact key (step_R hB hi)
theorem run_CT (op : Nat → Kern.Op) : ∀ i, CT (runP op i)
  | 0 => fun _ _ _ => Nat.zero_le _
  | i + 1 => CT.step (o := op i) (run_KI op i).b (run_INV op i) (run_CT op i)
/-! No head that could be granted is left waiting. -/
def Settled (s : KS) : Prop := ∀ r, r < 20 → ∀ q Q, s.queue r = q :: Q → admissibleP s q.1 r q.2 = false
theorem pass_no : ∀ n, (passN s n).2 = false → (passN s n).1 = s ∧ ∀ r, r < n → ∀ q Q, s.queue r = q :: Q → admissibleP s q.1 r q.2 = false
  | 0, _ => ⟨rfl, fun r hr => absurd hr (Nat.not_lt_zero _)⟩
  | n + 1, h => by
    have h : ((passN s n).2 || (wakeQ (passN s n).1 n).2) = false := h
    rw [Bool.or_eq_false_iff] at h
    obtain ⟨h1, h2⟩ := pass_no n h.1
    have h3 := h.2
    rw [h1] at h3
    unfold wakeQ at h3
    have key : wakeR (s.queue n).length s n = (s, false) ∧ ∀ q Q, s.queue n = q :: Q → admissibleP s q.1 n q.2 = false := by
      cases hq : s.queue n with
      | nil => exact ⟨wakeR_nil hq, fun q Q k => by cases k⟩
      | cons q Q =>
        cases ha : admissibleP s q.1 n q.2 with
        | true =>
          rw [hq] at h3
          rw [show (q :: Q).length = Q.length + 1 from rfl, wakeR_yes hq ha] at h3
          cases h3
        | false => exact ⟨wakeR_no hq ha, fun q' Q' k => by cases k; exact ha⟩
    refine ⟨?_, fun r hr => ?_⟩
    · show (wakeQ (passN s n).1 n).1 = s
      rw [h1]
      unfold wakeQ
      rw [key.1]
    · by_cases e : r = n
      · subst e; exact key.2
      · exact h2 r (by omega)
theorem wakeO_settled : ∀ (k : Nat) {s : KS}, KB N s → qsum s.queue < k → Settled (wakeO k s)
  | 0, s, _, h => by omega
  | k + 1, s, hB, h => by
    unfold wakeO
    have h1 := passN_kb hB 20 (Nat.le_refl _)
    split
    · rename_i hf
      rw [hf] at h1
      exact wakeO_settled k h1.1 (by have := h1.2; simp at this; omega)
    · rename_i hf
      obtain ⟨e, h2⟩ := pass_no 20 (by simpa using hf)
      rw [e]; exact h2
theorem Settled.wake (hB : KB N s) : Settled (wakeP s) := wakeO_settled _ hB (Nat.lt_succ_self _)
theorem adm_congr {u : Nat} (h1 : s'.held = s.held) (h2 : s'.claim = s.claim) (h3 : s'.mode = s.mode) : admissibleP s' t r u = admissibleP s t r u := by unfold admissibleP; rw [h1, h2, h3]
theorem Settled.congr (h : Settled s) (h0 : s'.queue = s.queue) (h1 : s'.held = s.held) (h2 : s'.claim = s.claim) (h3 : s'.mode = s.mode) : Settled s' := fun r hr q Q hq => by
  rw [adm_congr h1 h2 h3]; exact h r hr q Q (by rw [← h0]; exact hq)
theorem adm_iff {u : Nat} : admissibleP s t r u = true ↔ (u : Int) ≤ freeP s.held r ∧ (s.mode = 3 → Sf s.claim (upd2 s.held t r (s.held t r + u))) := by
  unfold admissibleP
  by_cases h1 : freeP s.held r < u
  · rw [if_pos h1]
    exact ⟨(fun k => by cases k), fun k => absurd k.1 (by omega)⟩
  · rw [if_neg h1]
    by_cases h3 : s.mode = 3
    · rw [if_pos h3, safeP_iff]
      exact ⟨fun k => ⟨by omega, fun _ => k⟩, fun k => k.2 h3⟩
    · rw [if_neg h3]
      exact ⟨fun _ => ⟨by omega, fun k => absurd k h3⟩, fun _ => rfl⟩
theorem Settled.grant1 {u : Nat} (h : Settled s) (ht : t < 16) (hq : s.queue r = []) : Settled (grant1 s t r u) := fun r' hr' q Q hQ => by
  have hQ : s.queue r' = q :: Q := hQ
  have hne : r' ≠ r := fun e => by rw [e, hq] at hQ; cases hQ
  have h0 := h r' hr' q Q hQ
  cases hx : admissibleP (Go.Proofs.Qxb6500834aGreatDoor.grant1 s t r u) q.1 r' q.2 with
  | false => rfl
  | true =>
    have h1 := adm_iff.1 hx
    rw [adm_iff.2 ⟨?_, fun hm => ?_⟩] at h0
    · cases h0
    · have e : freeP (Go.Proofs.Qxb6500834aGreatDoor.grant1 s t r u).held r' = freeP s.held r' := by
        unfold freeP
        show (totP r' : Int) - ((sumP (fun a => upd2 s.held t r (s.held t r + u) a r') 16 : Nat) : Int) = _
        have : (fun a => upd2 s.held t r (s.held t r + u) a r') = fun a => s.held a r' := by
          funext a; unfold upd2; rw [if_neg (fun k => hne k.2)]
        rw [this]
      rw [← e]; exact h1.1
    · have h2 := h1.2 hm
      have h3 := h2.less (t := t) (r := r) (x := s.held t r) ht (by
        show s.held t r ≤ upd2 (upd2 s.held t r (s.held t r + u)) q.1 r' _ t r
        unfold upd2
        rw [if_neg (fun k => hne k.2.symm), if_pos ⟨rfl, rfl⟩]; omega)
      have e : upd2 (upd2 (Go.Proofs.Qxb6500834aGreatDoor.grant1 s t r u).held q.1 r' ((Go.Proofs.Qxb6500834aGreatDoor.grant1 s t r u).held q.1 r' + q.2)) t r (s.held t r) = upd2 s.held q.1 r' (s.held q.1 r' + q.2) := by
        funext a b
        show (if a = t ∧ b = r then s.held t r else if a = q.1 ∧ b = r' then (if q.1 = t ∧ r' = r then s.held t r + u else s.held q.1 r') + q.2 else if a = t ∧ b = r then s.held t r + u else s.held a b) = if a = q.1 ∧ b = r' then s.held q.1 r' + q.2 else s.held a b
        by_cases h1 : a = t ∧ b = r
        · rw [if_pos h1, if_neg (fun k => hne (by rw [← k.2, h1.2])), h1.1, h1.2]
        · rw [if_neg h1, if_neg h1, if_neg (c := q.1 = t ∧ r' = r) (fun k => hne k.2)]
      rw [e] at h3
      exact h3
theorem idle_of {q u : Nat} (hq : q ≠ t) (h : heldByP s.held t = []) : Idle (upd2 s.held q r u) t := fun b hb => by
  unfold upd2
  rw [if_neg (fun k => hq k.1.symm)]
  exact heldBy_nil.1 h b hb
theorem Settled.declare {u : Nat} (h : Settled s) (hi : INV s) (hct : CT s) (hc : CallOK s t) (hu : u ≤ totP r) (hh : heldByP s.held t = []) : Settled { s with claim := upd2 s.claim t r u } := fun r' hr' q Q hQ => by
  have hQ : s.queue r' = q :: Q := hQ
  have h0 := h r' hr' q Q hQ
  have hqm : q ∈ s.queue r' := by rw [hQ]; exact List.mem_cons_self
  have hqt : q.1 ≠ t := fun e => by have := hi.wait hqm; rw [e, hc.wait] at this; cases this
  cases hx : admissibleP { s with claim := upd2 s.claim t r u } q.1 r' q.2 with
  | false => rfl
  | true =>
    have h1 := adm_iff.1 hx
    have h9 : admissibleP s q.1 r' q.2 = true := adm_iff.2 ⟨h1.1, fun hm => ?_⟩
    · rw [h9] at h0; cases h0
    · refine Sf.claims (claim := upd2 s.claim t r u) (fun a b hb => ?_) hct (fun a ha hni b => ?_) (h1.2 hm)
      · unfold upd2
        split
        · rename_i e; rw [e.2]; exact hu
        · exact hct a b hb
      · have hat : a ≠ t := fun e => hni (by rw [e]; exact idle_of hqt hh)
        unfold upd2
        rw [if_neg (fun k => hat k.1)]
theorem noQ_all (hi : INV s) (ha : anyLive s = false) : ∀ r, r < 20 → s.queue r = [] := fun r hr => by
  cases hq : s.queue r with
  | nil => rfl
  | cons q Q =>
    have hm : q ∈ s.queue r := by rw [hq]; exact List.mem_cons_self
    have hl := hi.wl _ (hi.wait hm)
    have h16 := (hi.qt r q hm).2.1
    unfold anyLive at ha
    have := List.any_eq_false.1 ha q.1 (List.mem_range.2 h16)
    rw [hl] at this; exact absurd rfl this
theorem Settled.ticks : ∀ (F : List (Nat × Nat × Nat)) {s : KS} {N : Nat}, KB N s → Settled s → Settled (F.foldl tick1 s)
  | [], s, N, _, h => h
  | f :: F, s, N, hB, h => by
    refine Settled.ticks F (KB.tick1 (f := f) hB) ?_
    unfold tick1
    split
    · exact Settled.wake (hB.withdraw (t := f.2.2)).answer
    · exact h
theorem Settled.step {o : Kern.Op} (hB : KB N s) (hi : INV s) (hct : CT s) (h : Settled s) : Settled (stepP s o).1 := by
  have key : ∀ {s' : KS} {c k : Int}, StepR s o s' c k → Settled s' := by
    intro s' c k hR
    have wn : ∀ {W : List Nat}, Settled (woundS s W) := fun {W} => by
      unfold woundS
      split
      · exact h
      · exact Settled.wake (KB_aborts W hB)
    cases hR using StepR.elim with
    | refuse c h0' h1 h3 => exact h
    | mode hk m hm ha => exact fun r hr q Q hq => by rw [show ({ s with mode := m } : KS).queue r = s.queue r from rfl, noQ_all hi ha r hr] at hq; cases hq
    | born hk t hs => exact h.congr rfl rfl rfl rfl
    | declare hk t r u hA hB hC hc hr hu hh => exact h.declare hi hct hc hu hh
    | take hk t r u hA hB hC h' hcl W hW ha hat =>
      unfold atOnceP at hat
      rw [Bool.and_eq_true] at hat
      exact wn.grant1 ha.c.lt (by simpa using hat.1)
    | pend hk t r u tim hA hB' hC ht0 htim h' hcl W hW hd' ha0 ha hat =>
      have h1 := wn (W := W)
      intro r' hr' q Q hQ
      rw [enq_queue] at hQ
      rw [adm_congr (s := woundS s W) enq_held enq_claim enq_mode]
      unfold updN at hQ
      split at hQ
      · rename_i e
        subst e
        cases hq : (woundS s W).queue r' with
        | nil =>
          rw [hq] at hQ
          simp only [List.nil_append, List.cons.injEq] at hQ
          rw [← hQ.1]
          unfold atOnceP at hat
          rw [hq] at hat
          simpa using hat
        | cons p P =>
          rw [hq] at hQ
          simp only [List.cons_append, List.cons.injEq] at hQ
          rw [← hQ.1]
          exact h1 r' hr' p P hq
      · exact h1 r' hr' q Q hQ
    | die hk t r u hA hB' hC h' hd' ha0 => exact Settled.wake hB.abort
    | release hk t r hA hB' hc hr hn => exact Settled.wake (hB.held' (upd2_le hB.held (Nat.zero_le _)))
    | write hk t c hA hB hc hc12 hh hn => exact h.congr rfl rfl rfl rfl
    | commit hk t hA hc => exact h.congr rfl rfl rfl rfl
    | exit hk t hA hc => exact Settled.wake hB.exitS
    | tick hk h16 => exact Settled.ticks _ hB.tick0 (h.congr (s' := tick0 s) rfl rfl rfl rfl)
    | detect hk v hv hv16 => exact Settled.wake hB.abort
  exact key (step_R hB hi)
theorem run_Settled (op : Nat → Kern.Op) : ∀ i, Settled (runP op i)
  | 0 => fun r _ q Q h => by cases h
  | i + 1 => Settled.congr (s := (stepP (runP op i) (op i)).1) (Settled.step (o := op i) (run_KI op i).b (run_INV op i) (run_CT op i) (run_Settled op i)) rfl rfl rfl rfl
end Go.Proofs.Qxb6500834aGreatDoor

