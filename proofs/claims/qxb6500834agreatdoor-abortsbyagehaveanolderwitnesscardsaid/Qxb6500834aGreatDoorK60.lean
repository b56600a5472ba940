import Derived.Test.Qxb6500834aGreatDoorK58
set_option linter.unusedVariables false
set_option linter.unusedSimpArgs false
set_option maxRecDepth 20000
namespace Go.Proofs.Qxb6500834aGreatDoor
open Go.RowKit Go.E1 Go.Kern
variable {w0 : World} {l X : List HI} {w : World} {s s' s0 : KS} {t r N n : Nat} {qv qv' : Nat → Value}

/-! Law: claims are kept, plainly. -/
theorem acq2_code {u : Nat} {tim : Option Nat} : (acq2 s t r u tim).2 < 6 := by
  unfold acq2
  split
  · dsimp only; omega
  split
  · dsimp only; omega
  split
  · dsimp only; omega
  split
  · dsimp only; omega
  split
  · dsimp only; omega
  · dsimp only; omega
theorem acq_step {o : Kern.Op} (hk : 3 ≤ o.kind ∧ o.kind ≤ 5) : ∃ tim, (stepP s o).2.1 = (acquireP s (nameP o.A 16) (nameP o.B 20) (nameP o.C 17) tim).2 := by
  rcases (by omega : o.kind = 3 ∨ o.kind = 4 ∨ o.kind = 5) with h | h | h
  · exact ⟨none, by unfold stepP; rw [h]; rfl⟩
  · exact ⟨some 0, by unfold stepP; rw [h]; rfl⟩
  · exact ⟨some o.X, by unfold stepP; rw [h]; rfl⟩
theorem dec_step {o : Kern.Op} (hk : o.kind = 2) : stepP s o = ((declareK s (nameP o.A 16) (nameP o.B 20) (nameP o.C 17)).1, (declareK s (nameP o.A 16) (nameP o.B 20) (nameP o.C 17)).2, -1) := by
  unfold stepP; rw [hk]; rfl
theorem nf_code {o : Kern.Op} (h : cfB s o = false ∨ ¬ (0 ≤ o.B ∧ o.B < 20)) : (stepP s o).2.1 ≠ 21 ∧ (stepP s o).2.1 ≠ 22 := by
  have hco := codes_of (s := s) (o := o)
  have hcc := callerP_codes (s := s) (t := nameP o.A 16)
  have hB : ∀ (h2 : 2 ≤ o.kind) (h9 : o.kind ≤ 9), callerP s (nameP o.A 16) = 0 → nameP o.B 20 = -1 := fun h2 h9 hc => by
    have hf := (cfB_iff (s := s) h2 h9).2 hc
    rcases h with h | h
    · rw [hf] at h; cases h
    · exact if_pos (by omega)
  by_cases hk2 : o.kind = 2
  · rw [dec_step hk2]
    show (declareK s (nameP o.A 16) (nameP o.B 20) (nameP o.C 17)).2 ≠ 21 ∧ (declareK s (nameP o.A 16) (nameP o.B 20) (nameP o.C 17)).2 ≠ 22
    unfold declareK
    split
    · dsimp only; omega
    rename_i hc
    rw [hB (by omega) (by omega) (Classical.not_not.1 hc), if_pos (by decide)]
    exact ⟨by show (13 : Int) ≠ 21; decide, by show (13 : Int) ≠ 22; decide⟩
  by_cases hk : 3 ≤ o.kind ∧ o.kind ≤ 5
  · obtain ⟨tim, e⟩ := acq_step (s := s) hk
    rw [e]
    unfold acquireP
    split
    · dsimp only; omega
    rename_i hc
    have hn := hB (by omega) (by omega) (Classical.not_not.1 hc)
    have e13 : checkP s.held (nameP o.A 16).toNat (nameP o.B 20) (nameP o.C 17) = 13 := by rw [hn]; exact if_pos (by decide)
    rw [e13, if_pos (by decide)]
    exact ⟨by show (13 : Int) ≠ 21; decide, by show (13 : Int) ≠ 22; decide⟩
  · exact ⟨hco.2.2.2.2.2 hk2 (by omega) (by omega) (by omega), hco.2.2.2.1 hk2⟩
/-- Only a declaration and an exit turn claims. -/
theorem claim_same {o : Kern.Op} (hB : KB N s) (hi : INV s) (h9 : o.kind ≠ 9) (h : o.kind ≠ 2 ∨ cfB s o = false ∨ ¬ (0 ≤ o.B ∧ o.B < 20)) : (stepP s o).1.claim = s.claim := by
  have key : ∀ {s' : KS} {c k : Int}, StepR s o s' c k → s'.claim = s.claim := by
    intro s' c k hR
    cases hR using StepR.elim with
    | refuse c h0' h1 h3 => rfl
    | mode hk m hm ha => rfl
    | born hk t hs => rfl
    | declare hk t r u hA hB hC hc hr hu hh =>
      rcases h with h | h | h
      · exact absurd hk h
      · rw [cf_of (by omega) (by omega) hA hc] at h; cases h
      · omega
    | take hk t r u hA hB hC h' hcl W hW ha hat => exact (Core.wound (FL := []) (s := s) (W := W) (wound_lt hW)).sm.claim
    | pend hk t r u tim hA hB' hC ht0 htim h' hcl W hW hd' ha0 ha hat => rw [enq_claim]; exact (Core.wound (FL := []) (s := s) (W := W) (by rw [hW]; exact woundL_lt)).sm.claim
    | die hk t r u hA hB hC h' hd' ha0 => exact ((Core.abort (FL := []) (.refl s) t h'.c.lt).trans .wake).sm.claim
    | release hk t r hA hB hc hr hn => exact (Core.wake (FL := []) (s := { s with held := upd2 s.held t r 0 })).sm.claim
    | write hk t c hA hB hc hc12 hh hn => rfl
    | commit hk t hA hc => rfl
    | exit hk t hA hc => exact absurd hk h9
    | tick hk h16 => exact (Core.tick h16).sm.claim
    | detect hk v hv hv16 => exact ((Core.abort (FL := []) (.refl s) v hv16).trans .wake).sm.claim
  exact key (step_R hB hi)
theorem exit_claim {o : Kern.Op} (h9 : o.kind = 9) (hf : cfB s o = true) : (stepP s o).1.claim = zapRow s.claim o.A.toNat ∧ (stepP s o).2.1 = 0 := by
  have hc := (cfB_iff (s := s) (by omega) (by omega)).1 hf
  have eA : nameP o.A 16 = o.A := (nameP_in (callerP_ok hc).1).symm
  have e : stepP s o = ((exitP s o.A).1, (exitP s o.A).2, -1) := by unfold stepP; rw [h9, eA]; rfl
  rw [eA] at hc
  rw [e]
  unfold exitP
  rw [if_neg (fun k => k hc)]
  exact ⟨(Core.wake (FL := []) (s := exitS s o.A.toNat)).sm.claim, rfl⟩
theorem heldBy_nil : heldByP s.held t = [] ↔ ∀ r, r < 20 → s.held t r = 0 := by
  unfold heldByP
  rw [List.filter_eq_nil_iff]
  constructor
  · intro h r hr
    have := h r (List.mem_range.2 hr)
    simp at this; exact this
  · intro h r hr
    have := h r (List.mem_range.1 hr)
    simp [this]
theorem dec_claim {o : Kern.Op} (h2 : o.kind = 2) (hf : cfB s o = true) (hb : 0 ≤ o.B ∧ o.B < 20) :
    (¬ (0 ≤ o.C ∧ o.C < (totP o.B.toNat : Int) + 1) → (stepP s o).2.1 = 21 ∧ (stepP s o).1 = s) ∧
    (0 ≤ o.C ∧ o.C < (totP o.B.toNat : Int) + 1 → (¬ ∀ r, r < 20 → s.held o.A.toNat r = 0) → (stepP s o).2.1 = 22 ∧ (stepP s o).1 = s) ∧
    (0 ≤ o.C ∧ o.C < (totP o.B.toNat : Int) + 1 → (∀ r, r < 20 → s.held o.A.toNat r = 0) → (stepP s o).2.1 = 0 ∧ (stepP s o).1.claim = upd2 s.claim o.A.toNat o.B.toNat o.C.toNat) := by
  have hc := (cfB_iff (s := s) (by omega) (by omega)).1 hf
  have eA : nameP o.A 16 = o.A := (nameP_in (callerP_ok hc).1).symm
  have eB : nameP o.B 20 = o.B := nameP_eq hb
  rw [dec_step h2, eA, eB]
  rw [eA] at hc
  have htot := totP_le o.B.toNat
  have eu : (nameP o.C 17 < 0 ∨ (totP o.B.toNat : Int) < nameP o.C 17) ↔ ¬ (0 ≤ o.C ∧ o.C < (totP o.B.toNat : Int) + 1) := by
    unfold nameP
    split <;> omega
  have key : declareK s o.A o.B (nameP o.C 17) = ({ s with claim := if declareP o.B.toNat (nameP o.C 17) (decide (0 < (heldByP s.held o.A.toNat).length)) = 0 then upd2 s.claim o.A.toNat o.B.toNat (nameP o.C 17).toNat else s.claim }, declareP o.B.toNat (nameP o.C 17) (decide (0 < (heldByP s.held o.A.toNat).length))) := by
    unfold declareK
    rw [if_neg (fun k => k hc), if_neg (by omega)]
  rw [key]
  unfold declareP
  refine ⟨fun h => ?_, fun h hh => ?_, fun h hh => ?_⟩
  · rw [if_pos (eu.2 h)]; exact ⟨rfl, rfl⟩
  · have hl : 0 < (heldByP s.held o.A.toNat).length := by
      cases hx : heldByP s.held o.A.toNat with
      | nil => exact absurd (heldBy_nil.1 hx) hh
      | cons a L => exact Nat.succ_pos _
    rw [if_neg (fun k => eu.1 k h), if_pos (decide_eq_true hl)]
    exact ⟨rfl, rfl⟩
  · have hl : heldByP s.held o.A.toNat = [] := heldBy_nil.2 hh
    have eC : nameP o.C 17 = o.C := nameP_eq (by omega)
    rw [if_neg (fun k => eu.1 k h), hl, eC]
    exact ⟨rfl, rfl⟩
theorem acq_claim {o : Kern.Op} (hk : 3 ≤ o.kind ∧ o.kind ≤ 5) (hf : cfB s o = true) (hb : 0 ≤ o.B ∧ o.B < 20) (h14 : (stepP s o).2.1 ≠ 14) (h15 : (stepP s o).2.1 ≠ 15) : (s.mode = 3 ∧ (s.claim o.A.toNat o.B.toNat : Int) - s.held o.A.toNat o.B.toNat < o.C) ↔ (stepP s o).2.1 = 21 := by
  have hc := (cfB_iff (s := s) (by omega) (by omega)).1 hf
  have eA : nameP o.A 16 = o.A := (nameP_in (callerP_ok hc).1).symm
  have eB : nameP o.B 20 = o.B := nameP_eq hb
  obtain ⟨tim, e⟩ := acq_step (s := s) hk
  rw [eA, eB] at e
  rw [eA] at hc
  rw [e] at h14 h15 ⊢
  have hck := checkP_codes (held := s.held) (t := o.A.toNat) (r := o.B) (u := nameP o.C 17)
  have h13 : checkP s.held o.A.toNat o.B (nameP o.C 17) ≠ 13 := by
    unfold checkP
    rw [if_neg (by omega)]
    split
    · decide
    split
    · decide
    split <;> decide
  unfold acquireP at h14 h15 ⊢
  rw [if_neg (fun k => k hc)] at h14 h15 ⊢
  by_cases h0 : checkP s.held o.A.toNat o.B (nameP o.C 17) = 0
  · rw [if_neg (fun k => k h0)]
    have h1 := checkP_ok h0
    have eC : nameP o.C 17 = o.C := (nameP_in (v := o.C) (m := 17) (by omega)).symm
    rw [eC]
    by_cases h3 : s.mode = 3 ∧ (s.claim o.A.toNat o.B.toNat : Int) < (s.held o.A.toNat o.B.toNat : Nat) + o.C
    · rw [if_pos h3]
      exact ⟨fun _ => rfl, fun _ => ⟨h3.1, by omega⟩⟩
    · rw [if_neg h3]
      have := acq2_code (s := s) (t := o.A.toNat) (r := o.B.toNat) (u := o.C.toNat) (tim := tim)
      exact ⟨fun k => absurd ⟨k.1, by omega⟩ h3, fun k => by omega⟩
  · rw [if_pos h0] at h14 h15
    dsimp only at h14 h15
    omega
end Go.Proofs.Qxb6500834aGreatDoor

