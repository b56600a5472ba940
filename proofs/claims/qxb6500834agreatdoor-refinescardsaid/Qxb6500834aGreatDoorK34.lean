import Derived.Test.Qxb6500834aGreatDoorK33
set_option linter.unusedVariables false
set_option linter.unusedSimpArgs false
set_option maxRecDepth 20000
namespace Go.Proofs.Qxb6500834aGreatDoor
open Go.RowKit Go.E1 Go.Kern
variable {s s' : KS} {t r N n : Nat}

/-! A step keeps what the data keep to. -/
structure OKS (s s' : KS) : Prop where
  b : ∃ M, KB M s'
  q : qsum s'.queue ≤ qsum s.queue + 1
  now : s'.now ≤ s.now + 1
  armed : s'.armed ≤ s.armed + 1
  births : s'.births ≤ s.births + 1
structure KI (n : Nat) (s : KS) : Prop where
  b : KB n s
  now : s.now ≤ n
  armed : s.armed ≤ n
  births : s.births ≤ n
  told : s.told = []
theorem KI.next (h : KI n s) (k : OKS s s') : KI (n + 1) { s' with told := [] } := by
  obtain ⟨M, hb⟩ := k.b
  have h1 := h.b.nn
  have h2 := k.q
  have h3 := k.now
  have h4 := k.armed
  have h5 := k.births
  have h6 := h.now
  have h7 := h.armed
  have h8 := h.births
  refine ⟨⟨hb.held, hb.claim, hb.qt, hb.n, hb.ec, hb.tt, hb.td, hb.ta, hb.tn, ?_⟩, ?_, ?_, ?_, rfl⟩
  · show qsum s'.queue + 0 ≤ n + 1
    omega
  · show s'.now ≤ n + 1; omega
  · show s'.armed ≤ n + 1; omega
  · show s'.births ≤ n + 1; omega
theorem OKS.same (h : KB N s) : OKS s s := ⟨⟨N, h⟩, by omega, by omega, by omega, by omega⟩
/-- What neither adds to the queues nor turns the counters. -/
structure Lq (s s' : KS) : Prop where
  q : qsum s'.queue ≤ qsum s.queue
  m : Sm s s'
theorem Lq.rfl' : Lq s s := ⟨Nat.le_refl _, Sm.rfl'⟩
theorem Lq.trans {s1 s2 s3 : KS} (h : Lq s1 s2) (g : Lq s2 s3) : Lq s1 s3 := ⟨Nat.le_trans g.q h.q, h.m.trans g.m⟩
theorem Lq.oks (h : Lq s s') (hb : KB N s') : OKS s s' := ⟨⟨N, hb⟩, by have := h.q; omega, by rw [h.m.now]; omega, by rw [h.m.armed]; omega, by rw [h.m.births]; omega⟩
theorem Lq.wake : Lq s (wakeP s) := ⟨wake_ind (P := fun x => qsum x.queue ≤ qsum s.queue) (fun x r q Q h hr hQ ha => by
  have := qsum_upd (queue := x.queue) (Q := Q) hr
  rw [hQ, List.length_cons] at this
  show qsum (updN x.queue r Q) ≤ _
  omega) (Nat.le_refl _), Sm.wake⟩
theorem Lq.abort : Lq s (abortP s t) := ⟨qsum_withdraw, ⟨rfl, rfl, rfl, rfl, rfl⟩⟩
theorem Lq.aborts : ∀ (Ts : List Nat) {s : KS}, Lq s (Ts.foldl abortP s)
  | [], s => Lq.rfl'
  | t :: Ts, s => Lq.abort.trans (Lq.aborts Ts)
theorem Lq.held {held' : Nat → Nat → Nat} : Lq s { s with held := held' } := ⟨Nat.le_refl _, ⟨rfl, rfl, rfl, rfl, rfl⟩⟩
theorem KB.enq1 {u : Nat} (h : KB N s) (ht : t < 16) (hr : r < 20) (hu : u ≤ 16) : KB (N + 1) (enq1 s t r u) where
  held := h.held
  claim := h.claim
  qt a p hp := by
    unfold Go.Proofs.Qxb6500834aGreatDoor.enq1 updN at hp
    dsimp only at hp
    split at hp
    · rcases List.mem_append.1 hp with hp | hp
      · exact h.qt r p hp
      · obtain rfl : p = (t, u) := by simpa using hp
        exact ⟨ht, hu⟩
    · exact h.qt a p hp
  n := updTK_n h.n (h.n t)
  ec := updTK_ec h.ec (h.ec t)
  tt := h.tt
  td := h.td
  ta := h.ta
  tn := h.tn
  nn := by
    have h1 := h.nn
    have h2 := qsum_upd (queue := s.queue) (Q := s.queue r ++ [(t, u)]) hr
    rw [List.length_append] at h2
    have h3 : [(t, u)].length = 1 := rfl
    show qsum (updN s.queue r (s.queue r ++ [(t, u)])) + s.told.length ≤ N + 1
    omega
theorem KB.arm1 {k : Nat} (h : KB N s) (ht : t < 16) : KB N (arm1 s t k) where
  held := h.held
  claim := h.claim
  qt := h.qt
  n := updTK_n h.n (h.n t)
  ec := updTK_ec h.ec (h.ec t)
  tt p hp := by
    rcases List.mem_append.1 hp with hp | hp
    · exact h.tt p hp
    · obtain rfl : p = (s.armed + 1, deadP s.now k, t) := by simpa using hp
      exact ht
  td := by
    refine List.pairwise_append.2 ⟨h.td, List.pairwise_singleton _ _, fun a ha b hb => ?_⟩
    obtain rfl : b = (s.armed + 1, deadP s.now k, t) := by simpa using hb
    have := h.ta a ha
    show a.1 < s.armed + 1
    omega
  ta p hp := by
    show p.1 ≤ s.armed + 1
    rcases List.mem_append.1 hp with hp | hp
    · have := h.ta p hp; omega
    · obtain rfl : p = (s.armed + 1, deadP s.now k, t) := by simpa using hp
      exact Nat.le_refl _
  tn := by
    have := h.tn
    show (s.timers ++ [(s.armed + 1, deadP s.now k, t)]).length ≤ s.armed + 1
    rw [List.length_append]
    show s.timers.length + 1 ≤ s.armed + 1
    omega
  nn := h.nn
theorem OKS.enq {s0 : KS} {u : Nat} {tim : Option Nat} (h0 : Lq s0 s) (h : KB N s) (ht : t < 16) (hr : r < 20) (hu : u ≤ 16) : OKS s0 (enqP s t r u tim) := by
  have h1 := h.enq1 ht hr hu
  have h2 := qsum_upd (queue := s.queue) (Q := s.queue r ++ [(t, u)]) hr
  rw [List.length_append] at h2
  have h3 : [(t, u)].length = 1 := rfl
  have h4 := h0.q
  have h5 : qsum (updN s.queue r (s.queue r ++ [(t, u)])) ≤ qsum s0.queue + 1 := by omega
  cases tim with
  | none => exact ⟨⟨_, h1⟩, h5, by show s.now ≤ _; rw [h0.m.now]; omega, by show s.armed ≤ _; rw [h0.m.armed]; omega, by show s.births ≤ _; rw [h0.m.births]; omega⟩
  | some k => exact ⟨⟨_, h1.arm1 ht⟩, h5, by show s.now ≤ _; rw [h0.m.now]; omega, by show s.armed + 1 ≤ _; rw [h0.m.armed]; omega, by show s.births ≤ _; rw [h0.m.births]; omega⟩
theorem atOnce_room {u : Nat} (ht : t < 16) (h : atOnceP s t r u = true) : s.held t r + u ≤ 16 := by
  unfold atOnceP at h
  rw [Bool.and_eq_true] at h
  have := admissible_room ht h.2
  have := totP_le r
  omega
theorem acq2_oks {u : Nat} {tim : Option Nat} (h : KB N s) (ht : t < 16) (hr : r < 20) (hu : u ≤ 16) : OKS s (acq2 s t r u tim).1 := by
  unfold acq2
  split
  · rename_i hat
    exact Lq.held.oks (h.grant1 (atOnce_room ht hat))
  split
  · exact OKS.same h
  split
  · exact (Lq.abort.trans Lq.wake).oks h.abort.wake
  split
  · exact OKS.enq Lq.rfl' h ht hr hu
  split
  · rename_i hat
    exact (((Lq.aborts _).trans Lq.wake).trans Lq.held).oks ((KB_aborts _ h).wake.grant1 (atOnce_room ht hat))
  · exact OKS.enq ((Lq.aborts _).trans Lq.wake) (KB_aborts _ h).wake ht hr hu
theorem acquire_oks {t r u : Int} {tim : Option Nat} (h : KB N s) : OKS s (acquireP s t r u tim).1 := by
  unfold acquireP
  split
  · exact OKS.same h
  rename_i hc1
  split
  · exact OKS.same h
  rename_i hc2
  split
  · exact OKS.same h
  have h1 := callerP_ok (Classical.not_not.1 hc1)
  have h2 := checkP_ok (Classical.not_not.1 hc2)
  have h3 := totP_le r.toNat
  exact acq2_oks h (by omega) (by omega) (by omega)
theorem tick1_lq {f : Nat × Nat × Nat} : Lq s (tick1 s f) := by
  unfold tick1
  split
  · exact Lq.trans (s2 := answerP { s with queue := withdrawP s.queue f.2.2 } f.2.2 4) ⟨qsum_withdraw, ⟨rfl, rfl, rfl, rfl, rfl⟩⟩ Lq.wake
  · exact Lq.rfl'
theorem ticks_lq : ∀ (Fs : List (Nat × Nat × Nat)) {s : KS}, Lq s (Fs.foldl tick1 s)
  | [], s => Lq.rfl'
  | f :: Fs, s => tick1_lq.trans (ticks_lq Fs)
theorem ticks_kb : ∀ (Fs : List (Nat × Nat × Nat)) {s : KS} {N : Nat}, KB N s → ∃ M, KB M (Fs.foldl tick1 s)
  | [], s, N, h => ⟨N, h⟩
  | f :: Fs, s, N, h => ticks_kb Fs h.tick1
theorem step_oks {o : Kern.Op} (h : KB N s) : OKS s (stepP s o).1 := by
  unfold stepP
  split
  · show OKS s (setModeP s (nameP o.A 4)).1
    unfold setModeP
    split
    · exact OKS.same h
    split
    · exact OKS.same h
    · exact ⟨⟨N, h.held, h.claim, h.qt, h.n, h.ec, h.tt, h.td, h.ta, h.tn, h.nn⟩, by show qsum s.queue ≤ _; omega, by show s.now ≤ _; omega, by show s.armed ≤ _; omega, by show s.births ≤ _; omega⟩
  · unfold spawnP
    split
    · exact OKS.same h
    · exact ⟨⟨N, h.held, h.claim, h.qt, updTK_n h.n (Nat.zero_le _), updTK_ec h.ec (fun _ => (by decide : 0 < 12)), h.tt, h.td, h.ta, h.tn, h.nn⟩, by show qsum s.queue ≤ _; omega, by show s.now ≤ _; omega, by show s.armed ≤ _; omega, Nat.le_refl _⟩
  · show OKS s (declareK s (nameP o.A 16) (nameP o.B 20) (nameP o.C 17)).1
    unfold declareK
    split
    · exact OKS.same h
    split
    · exact OKS.same h
    · refine ⟨⟨N, h.held, ?_, h.qt, h.n, h.ec, h.tt, h.td, h.ta, h.tn, h.nn⟩, by show qsum s.queue ≤ _; omega, by show s.now ≤ _; omega, by show s.armed ≤ _; omega, by show s.births ≤ _; omega⟩
      dsimp only
      split
      · have := (nameP_ge (v := o.C) (n := 17) (by decide)).2
        exact upd2_le h.claim (by omega)
      · exact h.claim
  · exact acquire_oks h
  · exact acquire_oks h
  · exact acquire_oks h
  · show OKS s (releaseP s (nameP o.A 16) (nameP o.B 20)).1
    unfold releaseP
    split
    · exact OKS.same h
    split
    · exact OKS.same h
    split
    · exact OKS.same h
    split
    · exact OKS.same h
    · exact (Lq.held.trans Lq.wake).oks (h.held' (upd2_le h.held (Nat.zero_le _))).wake
  · show OKS s (writeP s (nameP o.A 16) (nameP o.B 12) o.X).1
    unfold writeP
    split
    · exact OKS.same h
    split
    · exact OKS.same h
    rename_i hc
    split
    · exact OKS.same h
    split
    · exact OKS.same h
    · rename_i hn
      refine ⟨⟨N, h.held, h.claim, h.qt, updTK_n h.n ?_, updTK_ec h.ec fun i => ?_, h.tt, h.td, h.ta, h.tn, h.nn⟩, by show qsum s.queue ≤ _; omega, by show s.now ≤ _; omega, by show s.armed ≤ _; omega, by show s.births ≤ _; omega⟩
      · have := h.n (nameP o.A 16).toNat
        show (s.tk (nameP o.A 16).toNat).n + 1 ≤ 64
        omega
      · show updN (s.tk (nameP o.A 16).toNat).ec (s.tk (nameP o.A 16).toNat).n (nameP o.B 12).toNat i < 12
        unfold updN
        split
        · omega
        · exact h.ec _ _
  · show OKS s (commitP s (nameP o.A 16)).1
    unfold commitP
    split
    · exact OKS.same h
    · exact ⟨⟨N, h.held, h.claim, h.qt, updTK_n h.n (Nat.zero_le _), updTK_ec h.ec (h.ec _), h.tt, h.td, h.ta, h.tn, h.nn⟩, by show qsum s.queue ≤ _; omega, by show s.now ≤ _; omega, by show s.armed ≤ _; omega, by show s.births ≤ _; omega⟩
  · show OKS s (exitP s (nameP o.A 16)).1
    unfold exitP
    split
    · exact OKS.same h
    · show OKS s (wakeP (exitS s (nameP o.A 16).toNat))
      have h1 := Lq.wake (s := exitS s (nameP o.A 16).toNat)
      exact ⟨⟨N, h.exitS.wake⟩, by have : qsum (wakeP (exitS s (nameP o.A 16).toNat)).queue ≤ qsum s.queue := h1.q; omega, by have : (wakeP (exitS s (nameP o.A 16).toNat)).now = s.now := h1.m.now; omega, by have : (wakeP (exitS s (nameP o.A 16).toNat)).armed = s.armed := h1.m.armed; omega, by have : (wakeP (exitS s (nameP o.A 16).toNat)).births = s.births := h1.m.births; omega⟩
  · show OKS s (tickP s)
    unfold tickP
    have h1 := ticks_lq (firedP s) (s := tick0 s)
    refine ⟨ticks_kb _ h.tick0, ?_, ?_, ?_, ?_⟩
    · have : qsum ((firedP s).foldl tick1 (tick0 s)).queue ≤ qsum s.queue := h1.q
      omega
    · rw [h1.m.now]; exact Nat.le_refl _
    · rw [h1.m.armed]; show s.armed ≤ _; omega
    · rw [h1.m.births]; show s.births ≤ _; omega
  · unfold detectP
    split
    · exact OKS.same h
    · exact (Lq.abort.trans Lq.wake).oks h.abort.wake
  · exact OKS.same h
/-- The kernel behind a step. -/
def afterP (s : KS) (o : Kern.Op) : KS := { (stepP s o).1 with told := [] }
theorem KI.step {o : Kern.Op} (h : KI n s) : KI (n + 1) (afterP s o) := h.next (step_oks h.b)
theorem KI.init : KI 0 ks0 := ⟨KB0', Nat.le_refl _, Nat.le_refl _, Nat.le_refl _, rfl⟩
end Go.Proofs.Qxb6500834aGreatDoor

