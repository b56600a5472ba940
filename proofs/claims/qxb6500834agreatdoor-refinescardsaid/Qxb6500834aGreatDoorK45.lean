import Derived.Test.Qxb6500834aGreatDoorK44
set_option linter.unusedVariables false
set_option linter.unusedSimpArgs false
set_option maxRecDepth 20000
namespace Go.Proofs.Qxb6500834aGreatDoor
open Go.RowKit Go.E1 Go.Kern
variable {w0 : World} {l X : List HI} {w : World} {s s' s0 : KS} {t r N n : Nat} {qv qv' : Nat → Value}

/-! Law: writes need the write lock. -/
theorem callerP_codes {t : Int} : callerP s t = 0 ∨ callerP s t = 10 ∨ callerP s t = 11 ∨ callerP s t = 12 := by
  unfold callerP; split; · exact .inr (.inl rfl)
  split; · exact .inr (.inr (.inl rfl))
  split; · exact .inr (.inr (.inr rfl))
  exact .inl rfl
theorem checkP_codes {held : Nat → Nat → Nat} {r u : Int} : checkP held t r u = 0 ∨ checkP held t r u = 13 ∨ checkP held t r u = 14 ∨ checkP held t r u = 15 := by
  unfold checkP
  split; · exact .inr (.inl rfl)
  split; · exact .inr (.inr (.inl rfl))
  split; · exact .inr (.inr (.inr rfl))
  split; · exact .inr (.inr (.inl rfl))
  exact .inl rfl
theorem acquire_codes {t r u : Int} {tim : Option Nat} : (acquireP s t r u tim).2 < 6 ∨ (10 ≤ (acquireP s t r u tim).2 ∧ (acquireP s t r u tim).2 ≤ 15) ∨ (acquireP s t r u tim).2 = 21 := by
  have hc := callerP_codes (s := s) (t := t)
  have hk := checkP_codes (held := s.held) (t := t.toNat) (r := r) (u := u)
  unfold acquireP
  split
  · dsimp only; omega
  split
  · dsimp only; omega
  split
  · dsimp only; omega
  unfold acq2
  split
  · dsimp only; omega
  split
  · dsimp only; omega
  split
  · dsimp only; omega
  split
  · dsimp only; omega
  split
  · dsimp only; omega
  · dsimp only; omega
theorem acquire_ne2 {t r u : Int} {tim : Option Nat} : (acquireP s t r u tim).2 ≠ 2 := by
  have hc := callerP_codes (s := s) (t := t)
  have hk := checkP_codes (held := s.held) (t := t.toNat) (r := r) (u := u)
  unfold acquireP
  split
  · dsimp only; omega
  split
  · dsimp only; omega
  split
  · dsimp only; omega
  unfold acq2
  split
  · dsimp only; omega
  split
  · dsimp only; omega
  split
  · dsimp only; omega
  split
  · dsimp only; omega
  split
  · dsimp only; omega
  · dsimp only; omega
theorem declare_codes {t r u : Int} : (declareK s t r u).2 = 0 ∨ (10 ≤ (declareK s t r u).2 ∧ (declareK s t r u).2 ≤ 13) ∨ (declareK s t r u).2 = 21 ∨ (declareK s t r u).2 = 22 := by
  have hc := callerP_codes (s := s) (t := t)
  unfold declareK
  split
  · dsimp only; omega
  split
  · dsimp only; omega
  · dsimp only
    unfold declareP
    split
    · omega
    split <;> omega
/-- Which codes an operation answers with. -/
theorem codes_of {o : Kern.Op} : (o.kind ≠ 7 → (stepP s o).2.1 ≠ 19 ∧ (stepP s o).2.1 ≠ 20) ∧ (o.kind ≠ 1 → (stepP s o).2.1 ≠ 9) ∧ (o.kind ≠ 6 → (stepP s o).2.1 ≠ 17) ∧ (o.kind ≠ 2 → (stepP s o).2.1 ≠ 22) ∧ (o.kind ≠ 11 → (stepP s o).2.1 ≠ 2) ∧ (o.kind ≠ 2 → o.kind ≠ 3 → o.kind ≠ 4 → o.kind ≠ 5 → (stepP s o).2.1 ≠ 21) := by
  have hc := callerP_codes (s := s) (t := nameP o.A 16)
  unfold stepP
  split
  · show (_ → (setModeP s (nameP o.A 4)).2 ≠ 19 ∧ (setModeP s (nameP o.A 4)).2 ≠ 20) ∧ (_ → (setModeP s (nameP o.A 4)).2 ≠ 9) ∧ (_ → (setModeP s (nameP o.A 4)).2 ≠ 17) ∧ (_ → (setModeP s (nameP o.A 4)).2 ≠ 22) ∧ (_ → (setModeP s (nameP o.A 4)).2 ≠ 2) ∧ (_ → _ → _ → _ → (setModeP s (nameP o.A 4)).2 ≠ 21)
    unfold setModeP
    split
    · dsimp only; omega
    split <;> (dsimp only; omega)
  · unfold spawnP
    split <;> (dsimp only; omega)
  · have := declare_codes (s := s) (t := nameP o.A 16) (r := nameP o.B 20) (u := nameP o.C 17)
    dsimp only; omega
  · have := acquire_codes (s := s) (t := nameP o.A 16) (r := nameP o.B 20) (u := nameP o.C 17) (tim := none)
    have h2 := acquire_ne2 (s := s) (t := nameP o.A 16) (r := nameP o.B 20) (u := nameP o.C 17) (tim := none)
    dsimp only; omega
  · have := acquire_codes (s := s) (t := nameP o.A 16) (r := nameP o.B 20) (u := nameP o.C 17) (tim := some 0)
    have h2 := acquire_ne2 (s := s) (t := nameP o.A 16) (r := nameP o.B 20) (u := nameP o.C 17) (tim := some 0)
    dsimp only; omega
  · have := acquire_codes (s := s) (t := nameP o.A 16) (r := nameP o.B 20) (u := nameP o.C 17) (tim := some o.X)
    have h2 := acquire_ne2 (s := s) (t := nameP o.A 16) (r := nameP o.B 20) (u := nameP o.C 17) (tim := some o.X)
    dsimp only; omega
  · have : ∀ x, x = (releaseP s (nameP o.A 16) (nameP o.B 20)).2 → x ≠ 19 ∧ x ≠ 20 ∧ x ≠ 9 ∧ x ≠ 22 ∧ x ≠ 2 ∧ x ≠ 21 := by
      intro x hx
      unfold releaseP at hx
      split at hx
      · dsimp only at hx; omega
      split at hx
      · dsimp only at hx; omega
      split at hx
      · dsimp only at hx; omega
      split at hx <;> (dsimp only at hx; omega)
    have := this _ rfl
    dsimp only; omega
  · have : ∀ x, x = (writeP s (nameP o.A 16) (nameP o.B 12) o.X).2 → x ≠ 9 ∧ x ≠ 17 ∧ x ≠ 22 ∧ x ≠ 2 ∧ x ≠ 21 := by
      intro x hx
      unfold writeP at hx
      split at hx
      · dsimp only at hx; omega
      split at hx
      · dsimp only at hx; omega
      split at hx
      · dsimp only at hx; omega
      split at hx <;> (dsimp only at hx; omega)
    have := this _ rfl
    dsimp only; omega
  · have : ∀ x, x = (commitP s (nameP o.A 16)).2 → x = 0 ∨ x = 10 ∨ x = 11 ∨ x = 12 := by
      intro x hx
      unfold commitP at hx
      split at hx <;> (dsimp only at hx; omega)
    have := this _ rfl
    dsimp only; omega
  · have : ∀ x, x = (exitP s (nameP o.A 16)).2 → x = 0 ∨ x = 10 ∨ x = 11 ∨ x = 12 := by
      intro x hx
      unfold exitP at hx
      split at hx <;> (dsimp only at hx; omega)
    have := this _ rfl
    dsimp only; omega
  · dsimp only; omega
  · unfold detectP
    split <;> (dsimp only; omega)
  · dsimp only; omega
theorem nameP_eq {v m : Int} (h : 0 ≤ v ∧ v < m) : nameP v m = v := if_neg (by omega)
/-- Who can make the call of a step. -/
theorem cfB_iff {o : Kern.Op} (h2 : 2 ≤ o.kind) (h9 : o.kind ≤ 9) : cfB s o = true ↔ callerP s (nameP o.A 16) = 0 := by
  by_cases hq : callQ o
  · have hn : nameP o.A 16 = o.A := nameP_eq ⟨hq.2.2.1, hq.2.2.2⟩
    have h1 := hq.2.2.1
    have h2 := hq.2.2.2
    unfold cfB
    rw [if_pos hq, hn]
    unfold callerP
    rw [if_neg (by omega)]
    cases (s.tk o.A.toNat).live <;> cases (s.tk o.A.toNat).waiting <;> simp
  · have h : o.A < 0 ∨ 16 ≤ o.A := by unfold callQ at hq; omega
    have hn : nameP o.A 16 = -1 := if_pos h
    unfold cfB
    rw [if_neg hq, hn]
    unfold callerP
    rw [if_pos (by omega)]
    simp
end Go.Proofs.Qxb6500834aGreatDoor

