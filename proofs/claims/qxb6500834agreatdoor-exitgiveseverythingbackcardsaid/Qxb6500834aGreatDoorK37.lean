import Derived.Test.Qxb6500834aGreatDoorK36
set_option linter.unusedVariables false
set_option linter.unusedSimpArgs false
set_option maxRecDepth 20000
namespace Go.Proofs.Qxb6500834aGreatDoor
open Go.RowKit Go.E1 Go.Kern
variable {s s' : KS} {t r N n : Nat}

/-! What a step is made of. -/
structure CallOK (s : KS) (t : Nat) : Prop where
  lt : t < 16
  live : (s.tk t).live = true
  wait : (s.tk t).waiting = false
structure AcqOK (s : KS) (t r u : Nat) : Prop where
  c : CallOK s t
  hr : r < 20
  hu : 1 ≤ u
  room : s.held t r + u ≤ totP r
  lk : 8 ≤ r → (u = 1 ∨ u = 16) ∧ s.held t r = 0
def Tr (s : KS) (i0 : KS) : Prop := ∀ R : KS → Prop, (∀ (t : Nat) (ht : t < 16), R (abortP s t)) → (∀ (r : Nat) (q : Nat × Nat) (Q : List (Nat × Nat)) (hr : r < 20) (hQ : s.queue r = q :: Q) (ha : admissibleP s q.1 r q.2 = true), R (answerP (grantS s r q Q) q.1 0)) → (∀ (t : Nat) (r : Nat) (u : Nat) (h : AcqOK s t r u) (ha : atOnceP s t r u = true), R (grant1 s t r u)) → (∀ (t : Nat) (r : Nat) (u : Nat) (tim : Option Nat) (h : AcqOK s t r u), R (enqP s t r u tim)) → (∀ (m : Nat) (h : anyLive s = false) (hm : m < 4), R { s with mode := m }) → (∀ (t : Nat) (ht : slotP s = some t), R (bornS s t)) → (∀ (t : Nat) (r : Nat) (u : Nat) (h : CallOK s t) (hr : r < 20) (hu : u ≤ totP r) (hh : heldByP s.held t = []), R { s with claim := upd2 s.claim t r u }) → (∀ (t : Nat) (r : Nat) (h : CallOK s t) (hr : r < 20) (hn : 8 ≤ r → touchesP (s.tk t) (r - 8) = false), R { s with held := upd2 s.held t r 0 }) → (∀ (t : Nat) (c : Nat) (x : Nat) (h : CallOK s t) (hc : c < 12) (hh : s.held t (8 + c) = 16) (hn : (s.tk t).n ≠ 64), R { s with tk := updN s.tk t (pushP (s.tk t) c (s.cells c)), cells := updN s.cells c x }) → (∀ (t : Nat) (h : CallOK s t), R { s with tk := updN s.tk t { s.tk t with n := 0 } }) → (∀ (t : Nat) (h : CallOK s t), R (exitS s t)) → (R (tick0 s)) → (∀ (t : Nat) (ht : t < 16) (hw : (s.tk t).waiting = true), R (answerP { s with queue := withdrawP s.queue t } t 4)) → R i0
theorem Tr.abort (s : KS) (t : Nat) (ht : t < 16) : Tr s (abortP s t) := fun R z0 z1 z2 z3 z4 z5 z6 z7 z8 z9 z10 z11 z12 => z0 t ht
theorem Tr.grant (s : KS) (r : Nat) (q : Nat × Nat) (Q : List (Nat × Nat)) (hr : r < 20) (hQ : s.queue r = q :: Q) (ha : admissibleP s q.1 r q.2 = true) : Tr s (answerP (grantS s r q Q) q.1 0) := fun R z0 z1 z2 z3 z4 z5 z6 z7 z8 z9 z10 z11 z12 => z1 r q Q hr hQ ha
theorem Tr.take (s : KS) (t : Nat) (r : Nat) (u : Nat) (h : AcqOK s t r u) (ha : atOnceP s t r u = true) : Tr s (grant1 s t r u) := fun R z0 z1 z2 z3 z4 z5 z6 z7 z8 z9 z10 z11 z12 => z2 t r u h ha
theorem Tr.enq (s : KS) (t : Nat) (r : Nat) (u : Nat) (tim : Option Nat) (h : AcqOK s t r u) : Tr s (enqP s t r u tim) := fun R z0 z1 z2 z3 z4 z5 z6 z7 z8 z9 z10 z11 z12 => z3 t r u tim h
theorem Tr.mode (s : KS) (m : Nat) (h : anyLive s = false) (hm : m < 4) : Tr s { s with mode := m } := fun R z0 z1 z2 z3 z4 z5 z6 z7 z8 z9 z10 z11 z12 => z4 m h hm
theorem Tr.born (s : KS) (t : Nat) (ht : slotP s = some t) : Tr s (bornS s t) := fun R z0 z1 z2 z3 z4 z5 z6 z7 z8 z9 z10 z11 z12 => z5 t ht
theorem Tr.declare (s : KS) (t : Nat) (r : Nat) (u : Nat) (h : CallOK s t) (hr : r < 20) (hu : u ≤ totP r) (hh : heldByP s.held t = []) : Tr s { s with claim := upd2 s.claim t r u } := fun R z0 z1 z2 z3 z4 z5 z6 z7 z8 z9 z10 z11 z12 => z6 t r u h hr hu hh
theorem Tr.release (s : KS) (t : Nat) (r : Nat) (h : CallOK s t) (hr : r < 20) (hn : 8 ≤ r → touchesP (s.tk t) (r - 8) = false) : Tr s { s with held := upd2 s.held t r 0 } := fun R z0 z1 z2 z3 z4 z5 z6 z7 z8 z9 z10 z11 z12 => z7 t r h hr hn
theorem Tr.write (s : KS) (t : Nat) (c : Nat) (x : Nat) (h : CallOK s t) (hc : c < 12) (hh : s.held t (8 + c) = 16) (hn : (s.tk t).n ≠ 64) : Tr s { s with tk := updN s.tk t (pushP (s.tk t) c (s.cells c)), cells := updN s.cells c x } := fun R z0 z1 z2 z3 z4 z5 z6 z7 z8 z9 z10 z11 z12 => z8 t c x h hc hh hn
theorem Tr.commit (s : KS) (t : Nat) (h : CallOK s t) : Tr s { s with tk := updN s.tk t { s.tk t with n := 0 } } := fun R z0 z1 z2 z3 z4 z5 z6 z7 z8 z9 z10 z11 z12 => z9 t h
theorem Tr.exit (s : KS) (t : Nat) (h : CallOK s t) : Tr s (exitS s t) := fun R z0 z1 z2 z3 z4 z5 z6 z7 z8 z9 z10 z11 z12 => z10 t h
theorem Tr.tick0 (s : KS)  : Tr s (tick0 s) := fun R z0 z1 z2 z3 z4 z5 z6 z7 z8 z9 z10 z11 z12 => z11
theorem Tr.timeout (s : KS) (t : Nat) (ht : t < 16) (hw : (s.tk t).waiting = true) : Tr s (answerP { s with queue := withdrawP s.queue t } t 4) := fun R z0 z1 z2 z3 z4 z5 z6 z7 z8 z9 z10 z11 z12 => z12 t ht hw
theorem Tr.elim {s : KS} {motive : ∀ (i0 : KS), Tr s i0 → Prop} (abort : ∀ (t : Nat) (ht : t < 16), motive (abortP s t) (Tr.abort s t ht)) (grant : ∀ (r : Nat) (q : Nat × Nat) (Q : List (Nat × Nat)) (hr : r < 20) (hQ : s.queue r = q :: Q) (ha : admissibleP s q.1 r q.2 = true), motive (answerP (grantS s r q Q) q.1 0) (Tr.grant s r q Q hr hQ ha)) (take : ∀ (t : Nat) (r : Nat) (u : Nat) (h : AcqOK s t r u) (ha : atOnceP s t r u = true), motive (grant1 s t r u) (Tr.take s t r u h ha)) (enq : ∀ (t : Nat) (r : Nat) (u : Nat) (tim : Option Nat) (h : AcqOK s t r u), motive (enqP s t r u tim) (Tr.enq s t r u tim h)) (mode : ∀ (m : Nat) (h : anyLive s = false) (hm : m < 4), motive { s with mode := m } (Tr.mode s m h hm)) (born : ∀ (t : Nat) (ht : slotP s = some t), motive (bornS s t) (Tr.born s t ht)) (declare : ∀ (t : Nat) (r : Nat) (u : Nat) (h : CallOK s t) (hr : r < 20) (hu : u ≤ totP r) (hh : heldByP s.held t = []), motive { s with claim := upd2 s.claim t r u } (Tr.declare s t r u h hr hu hh)) (release : ∀ (t : Nat) (r : Nat) (h : CallOK s t) (hr : r < 20) (hn : 8 ≤ r → touchesP (s.tk t) (r - 8) = false), motive { s with held := upd2 s.held t r 0 } (Tr.release s t r h hr hn)) (write : ∀ (t : Nat) (c : Nat) (x : Nat) (h : CallOK s t) (hc : c < 12) (hh : s.held t (8 + c) = 16) (hn : (s.tk t).n ≠ 64), motive { s with tk := updN s.tk t (pushP (s.tk t) c (s.cells c)), cells := updN s.cells c x } (Tr.write s t c x h hc hh hn)) (commit : ∀ (t : Nat) (h : CallOK s t), motive { s with tk := updN s.tk t { s.tk t with n := 0 } } (Tr.commit s t h)) (exit : ∀ (t : Nat) (h : CallOK s t), motive (exitS s t) (Tr.exit s t h)) (tick0 : motive _ (Tr.tick0 s)) (timeout : ∀ (t : Nat) (ht : t < 16) (hw : (s.tk t).waiting = true), motive (answerP { s with queue := withdrawP s.queue t } t 4) (Tr.timeout s t ht hw)) {i0 : KS} (h : Tr s i0) : motive i0 h := by
  obtain ⟨_, k⟩ := h (fun i0 => ∃ g : Tr s i0, motive i0 g) (fun t ht => ⟨Tr.abort s t ht, abort t ht⟩) (fun r q Q hr hQ ha => ⟨Tr.grant s r q Q hr hQ ha, grant r q Q hr hQ ha⟩) (fun t r u h ha => ⟨Tr.take s t r u h ha, take t r u h ha⟩) (fun t r u tim h => ⟨Tr.enq s t r u tim h, enq t r u tim h⟩) (fun m h hm => ⟨Tr.mode s m h hm, mode m h hm⟩) (fun t ht => ⟨Tr.born s t ht, born t ht⟩) (fun t r u h hr hu hh => ⟨Tr.declare s t r u h hr hu hh, declare t r u h hr hu hh⟩) (fun t r h hr hn => ⟨Tr.release s t r h hr hn, release t r h hr hn⟩) (fun t c x h hc hh hn => ⟨Tr.write s t c x h hc hh hn, write t c x h hc hh hn⟩) (fun t h => ⟨Tr.commit s t h, commit t h⟩) (fun t h => ⟨Tr.exit s t h, exit t h⟩) ⟨Tr.tick0 s, tick0⟩ (fun t ht hw => ⟨Tr.timeout s t ht hw, timeout t ht hw⟩)
  exact k
def Trs (s : KS) (i0 : KS) : Prop := ∀ R : KS → Prop, (R s) → (∀ (s1 : KS) (s2 : KS) (h : R s1) (g : Tr s1 s2), R s2) → R i0
theorem Trs.refl (s : KS)  : Trs s s := fun R z0 z1 => z0
theorem Trs.snoc {s : KS} {s1 : KS} {s2 : KS} (h : Trs s s1) (g : Tr s1 s2) : Trs s s2 := fun R z0 z1 => z1 s1 s2 (h R z0 z1) g
theorem Trs.elim {s : KS} {motive : ∀ (i0 : KS), Trs s i0 → Prop} (refl : motive s (Trs.refl s)) (snoc : ∀ {s1 : KS} {s2 : KS} (h : Trs s s1) (g : Tr s1 s2) (ih_h : motive s1 h), motive s2 (Trs.snoc h g)) {i0 : KS} (h : Trs s i0) : motive i0 h := by
  obtain ⟨_, k⟩ := h (fun i0 => ∃ g : Trs s i0, motive i0 g) ⟨Trs.refl s, refl⟩ (fun s1 s2 ⟨h, m_h⟩ g => ⟨Trs.snoc h g, snoc h g m_h⟩)
  exact k
theorem Trs.one (h : Tr s s') : Trs s s' := .snoc (.refl _) h
theorem Trs.trans {s1 s2 s3 : KS} (h : Trs s1 s2) (g : Trs s2 s3) : Trs s1 s3 := by
  induction g using Trs.elim with
  | refl => exact h
  | snoc _ k ih => exact .snoc ih k
theorem Trs.inv {P : KS → Prop} (hP : ∀ s s', Tr s s' → P s → P s') (h : Trs s s') (hs : P s) : P s' := by
  induction h using Trs.elim with
  | refl => exact hs
  | snoc _ k ih => exact hP _ _ k ih
theorem Trs.wake : Trs s (wakeP s) := wake_ind (P := fun x => Trs s x) (fun x r q Q h hr hQ ha => h.snoc (.grant x r q Q hr hQ ha)) (.refl _)
theorem Trs.aborts : ∀ (Ts : List Nat) {s : KS}, (∀ t, t ∈ Ts → t < 16) → Trs s (Ts.foldl abortP s)
  | [], s, _ => .refl _
  | t :: Ts, s, h => (Trs.one (.abort s t (h t List.mem_cons_self))).trans (Trs.aborts Ts fun u hu => h u (List.mem_cons_of_mem _ hu))
/-- A task that doesn't wait, through rollbacks of others and grants. -/
def Kp (s s' : KS) (t : Nat) : Prop := (s'.tk t).live = (s.tk t).live ∧ ((s.tk t).waiting = false → (s'.tk t).waiting = false)
theorem Kp.rfl' : Kp s s t := ⟨rfl, id⟩
theorem Kp.trans {s1 s2 s3 : KS} (h : Kp s1 s2 t) (g : Kp s2 s3 t) : Kp s1 s3 t := ⟨g.1.trans h.1, fun k => g.2 (h.2 k)⟩
theorem Kp.answer {u c : Nat} : Kp s (answerP s u c) t := by
  unfold Kp answerP updN
  dsimp only
  by_cases h : t = u
  · rw [if_pos h, h]; exact ⟨rfl, fun _ => rfl⟩
  · rw [if_neg h]; exact ⟨rfl, id⟩
theorem Kp.abort {u : Nat} : Kp s (abortP s u) t := by
  have h1 : Kp s (abort1 s u) t := by
    unfold Kp abort1 updN
    dsimp only
    by_cases h : t = u
    · rw [if_pos h, h]; exact ⟨rfl, id⟩
    · rw [if_neg h]; exact ⟨rfl, id⟩
  have h3 : ∀ {x : KS}, Kp x (bumpP x u) t := fun {x} => by
    unfold Kp bumpP updN
    dsimp only
    by_cases h : t = u
    · rw [if_pos h, h]; exact ⟨rfl, id⟩
    · rw [if_neg h]; exact ⟨rfl, id⟩
  exact (h1.trans Kp.answer).trans h3
theorem Kp.wake : Kp s (wakeP s) t := wake_ind (P := fun x => Kp s x t) (fun x r q Q h hr hQ ha => h.trans (Kp.trans (s2 := grantS x r q Q) ⟨rfl, id⟩ Kp.answer)) Kp.rfl'
theorem Kp.aborts : ∀ (Ts : List Nat) {s : KS}, Kp s (Ts.foldl abortP s) t
  | [], s => Kp.rfl'
  | u :: Ts, s => Kp.abort.trans (Kp.aborts Ts)
/-- One that is in no queue gains nothing by grants. -/
def NoQ (s : KS) (t : Nat) : Prop := ∀ r p, r < 20 → p ∈ s.queue r → p.1 ≠ t
def Nq (s s' : KS) (t : Nat) : Prop := NoQ s t → NoQ s' t ∧ ∀ r, s'.held t r ≤ s.held t r
theorem Nq.rfl' : Nq s s t := fun h => ⟨h, fun _ => Nat.le_refl _⟩
theorem Nq.trans {s1 s2 s3 : KS} (h : Nq s1 s2 t) (g : Nq s2 s3 t) : Nq s1 s3 t := fun k =>
  ⟨(g (h k).1).1, fun r => Nat.le_trans ((g (h k).1).2 r) ((h k).2 r)⟩
theorem Nq.abort {u : Nat} : Nq s (abortP s u) t := fun k => by
  refine ⟨fun r p hr hp => k r p hr (List.mem_filter.1 hp).1, fun r => ?_⟩
  show zapRow s.held u t r ≤ _
  unfold zapRow
  split <;> omega
theorem Nq.grant {q : Nat × Nat} {Q : List (Nat × Nat)} (hr : r < 20) (hQ : s.queue r = q :: Q) : Nq s (answerP (grantS s r q Q) q.1 0) t := fun k => by
  have hq : q.1 ≠ t := k r q hr (by rw [hQ]; exact List.mem_cons_self)
  refine ⟨fun a p ha hp => ?_, fun a => ?_⟩
  · have hp : p ∈ updN s.queue r Q a := hp
    unfold updN at hp
    split at hp
    · exact k r p hr (by rw [hQ]; exact List.mem_cons_of_mem _ hp)
    · exact k a p ha hp
  · show upd2 s.held q.1 r _ t a ≤ _
    unfold upd2
    rw [if_neg (fun h => hq h.1.symm)]
    exact Nat.le_refl _
theorem Nq.wake : Nq s (wakeP s) t := wake_ind (P := fun x => Nq s x t) (fun x r q Q h hr hQ ha => h.trans (Nq.grant hr hQ)) Nq.rfl'
theorem Nq.aborts : ∀ (Ts : List Nat) {s : KS}, Nq s (Ts.foldl abortP s) t
  | [], s => Nq.rfl'
  | u :: Ts, s => Nq.abort.trans (Nq.aborts Ts)
theorem callerP_call {t : Int} (h : callerP s t = 0) : CallOK s t.toNat := by
  have h1 := callerP_ok h
  unfold callerP at h
  rw [if_neg (by omega)] at h
  split at h
  · cases h
  rename_i hl
  split at h
  · cases h
  rename_i hw
  exact ⟨by omega, by simpa using hl, by simpa using hw⟩
theorem checkP_acq {t r u : Int} (hc : callerP s t = 0) (h : checkP s.held t.toNat r u = 0) : AcqOK s t.toNat r.toNat u.toNat := by
  have h1 := checkP_ok h
  refine ⟨callerP_call hc, by omega, by omega, by omega, fun h8 => ?_⟩
  unfold checkP at h
  rw [if_neg (by omega)] at h
  split at h
  · cases h
  rename_i h2
  split at h
  · cases h
  rename_i h3
  exact ⟨by omega, by omega⟩

theorem AcqOK.keep {u : Nat} (h : AcqOK s t r u) (hk : Kp s s' t) (hn : Nq s s' t) (hq : NoQ s t) : AcqOK s' t r u := by
  have h1 := (hn hq).2 r
  refine ⟨⟨h.c.lt, hk.1.trans h.c.live, hk.2 h.c.wait⟩, h.hr, h.hu, by have := h.room; omega, fun h8 => ?_⟩
  have := h.lk h8
  exact ⟨this.1, by omega⟩
theorem acq2_trs {u : Nat} {tim : Option Nat} (h : AcqOK s t r u) (hq : NoQ s t) : Trs s (acq2 s t r u tim).1 := by
  have hT : ∀ o, o ∈ tasksP (judgeP s.mode (fun i => (s.tk i).birth) t (rivalsP s t r)).2 → o < 16 := fun o ho => tasksP_lt ho
  unfold acq2
  split
  · rename_i hat; exact .one (.take s t r u h hat)
  split
  · exact .refl _
  split
  · exact (Trs.one (.abort s t h.c.lt)).trans .wake
  split
  · exact .one (.enq s t r u tim h)
  split
  · rename_i hat
    exact ((Trs.aborts _ hT).trans .wake).snoc (.take _ t r u (h.keep ((Kp.aborts _).trans Kp.wake) ((Nq.aborts _).trans Nq.wake) hq) hat)
  · exact ((Trs.aborts _ hT).trans .wake).snoc (.enq _ t r u tim (h.keep ((Kp.aborts _).trans Kp.wake) ((Nq.aborts _).trans Nq.wake) hq))
theorem acquire_trs {t r u : Int} {tim : Option Nat} (hq : ∀ t, t < 16 → (s.tk t).waiting = false → NoQ s t) : Trs s (acquireP s t r u tim).1 := by
  unfold acquireP
  split
  · exact .refl _
  rename_i hc1
  have hc1 := Classical.not_not.1 hc1
  split
  · exact .refl _
  rename_i hc2
  have hc2 := Classical.not_not.1 hc2
  split
  · exact .refl _
  have h := checkP_acq hc1 hc2
  exact acq2_trs h (hq _ h.c.lt h.c.wait)
theorem tick1_trs {f : Nat × Nat × Nat} (hf : f.2.2 < 16) : Trs s (tick1 s f) := by
  unfold tick1
  split
  · rename_i h
    exact (Trs.one (.timeout s f.2.2 hf h.1)).trans .wake
  · exact .refl _
theorem ticks_trs : ∀ (Fs : List (Nat × Nat × Nat)) {s : KS}, (∀ f, f ∈ Fs → f.2.2 < 16) → Trs s (Fs.foldl tick1 s)
  | [], s, _ => .refl _
  | f :: Fs, s, h => (tick1_trs (h f List.mem_cons_self)).trans (ticks_trs Fs fun g hg => h g (List.mem_cons_of_mem _ hg))
theorem step_trs {o : Kern.Op} (hB : KB N s) (hq : ∀ t, t < 16 → (s.tk t).waiting = false → NoQ s t) : Trs s (stepP s o).1 := by
  unfold stepP
  split
  · show Trs s (setModeP s (nameP o.A 4)).1
    unfold setModeP
    split
    · exact .refl _
    rename_i hm
    split
    · exact .refl _
    · rename_i ha
      exact .one (.mode s _ (by simpa using ha) (by omega))
  · unfold spawnP
    split
    · exact .refl _
    · rename_i t ht; exact .one (.born s t ht)
  · show Trs s (declareK s (nameP o.A 16) (nameP o.B 20) (nameP o.C 17)).1
    unfold declareK
    split
    · exact .refl _
    rename_i hc1
    have hc1 := callerP_call (Classical.not_not.1 hc1)
    split
    · exact .refl _
    rename_i hr
    dsimp only
    split
    · rename_i hd
      have hd' : (nameP o.C 17).toNat ≤ totP (nameP o.B 20).toNat ∧ heldByP s.held (nameP o.A 16).toNat = [] := by
        unfold declareP at hd
        split at hd
        · cases hd
        rename_i h1
        split at hd
        · cases hd
        rename_i h2
        refine ⟨by omega, ?_⟩
        have : ¬ 0 < (heldByP s.held (nameP o.A 16).toNat).length := by simpa using h2
        exact List.eq_nil_of_length_eq_zero (by omega)
      exact .one (.declare s _ _ _ hc1 (by omega) hd'.1 hd'.2)
    · exact .refl _
  · exact acquire_trs hq
  · exact acquire_trs hq
  · exact acquire_trs hq
  · show Trs s (releaseP s (nameP o.A 16) (nameP o.B 20)).1
    unfold releaseP
    split
    · exact .refl _
    rename_i hc1
    have hc1 := callerP_call (Classical.not_not.1 hc1)
    split
    · exact .refl _
    rename_i hr
    split
    · exact .refl _
    split
    · exact .refl _
    rename_i hto
    refine (Trs.one (.release s _ _ hc1 (by omega) fun h8 => ?_)).trans .wake
    cases hx : touchesP (s.tk (nameP o.A 16).toNat) ((nameP o.B 20).toNat - 8) with
    | false => rfl
    | true => exact absurd ⟨by omega, hx⟩ hto
  · show Trs s (writeP s (nameP o.A 16) (nameP o.B 12) o.X).1
    unfold writeP
    split
    · exact .refl _
    rename_i hc1
    have hc1 := callerP_call (Classical.not_not.1 hc1)
    split
    · exact .refl _
    rename_i hc
    split
    · exact .refl _
    rename_i hh
    split
    · exact .refl _
    rename_i hn
    exact .one (.write s _ _ _ hc1 (by omega) (Classical.not_not.1 hh) hn)
  · show Trs s (commitP s (nameP o.A 16)).1
    unfold commitP
    split
    · exact .refl _
    rename_i hc1
    exact .one (.commit s _ (callerP_call (Classical.not_not.1 hc1)))
  · show Trs s (exitP s (nameP o.A 16)).1
    unfold exitP
    split
    · exact .refl _
    rename_i hc1
    exact (Trs.one (.exit s _ (callerP_call (Classical.not_not.1 hc1)))).trans .wake
  · exact (Trs.one (.tick0 s)).trans (ticks_trs _ fun f hf => hB.tt f (firedP_mem hf))
  · unfold detectP
    split
    · exact .refl _
    rename_i hv
    rcases victimP_or (s := s) with h | ⟨n, hn, h⟩
    · exact absurd h hv
    · refine (Trs.one (.abort s _ ?_)).trans .wake
      rw [h, Int.toNat_natCast]; exact hn
  · exact .refl _
end Go.Proofs.Qxb6500834aGreatDoor

