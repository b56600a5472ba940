import Derived.Test.Qxb6500834aGreatDoorK38
set_option linter.unusedVariables false
set_option linter.unusedSimpArgs false
set_option maxRecDepth 20000
namespace Go.Proofs.Qxb6500834aGreatDoor
open Go.RowKit Go.E1 Go.Kern
variable {w0 : World} {l : List HI} {w : World} {s s' s0 : KS} {t r N n : Nat}

/-! Law: epochs, plainly. -/
def epF (s : KS) (t : Nat) : Nat := (s.tk t).epoch
def wF (want : Nat → Nat) (a : Nat × Nat × Nat) : Nat → Nat := if a.2.2 = 3 then updN want a.1 (inc64 (want a.1)) else want
def EpA (want : Nat → Nat) : List (Nat × Nat × Nat) → Prop
  | [] => True
  | a :: L => (a.1 < 16 ∧ a.2.1 = want a.1) ∧ EpA (wF want a) L
theorem EpA_snoc {a : Nat × Nat × Nat} : ∀ {L : List (Nat × Nat × Nat)} {want : Nat → Nat}, EpA want L → a.1 < 16 → a.2.1 = L.foldl wF want a.1 → EpA want (L ++ [a])
  | [], want, _, h1, h2 => ⟨⟨h1, h2⟩, trivial⟩
  | b :: L, want, h, h1, h2 => ⟨h.1, EpA_snoc h.2 h1 h2⟩
structure Ep (s0 : KS) (x : Option Nat) (s : KS) : Prop where
  a : EpA (epF s0) s.told
  e : ∀ t, t < 16 → epF s t = if x = some t then inc64 (s.told.foldl wF (epF s0) t) else s.told.foldl wF (epF s0) t
  w : ∀ t, x = some t → (s.tk t).waiting = false
theorem Ep.answer {x : Option Nat} {u c : Nat} (h : Ep s0 x s) (hu : u < 16) (hx : x ≠ some u) (hc : c ≠ 3) {q' : Nat → List (Nat × Nat)} {held' : Nat → Nat → Nat} : Ep s0 x (answerP { s with queue := q', held := held' } u c) where
  a := EpA_snoc h.a hu (by have := h.e u hu; rw [if_neg hx] at this; exact this)
  e t ht := by
    have h1 : ((answerP { s with queue := q', held := held' } u c).told).foldl wF (epF s0) = s.told.foldl wF (epF s0) := by
      show (s.told ++ [_]).foldl wF _ = _
      rw [List.foldl_append]
      exact if_neg hc
    rw [h1, ← h.e t ht]
    unfold epF
    show (updN s.tk u _ t).epoch = _
    unfold updN
    split
    · rename_i e; rw [e]
    · rfl
  w t ht := by
    show (updN s.tk u _ t).waiting = false
    unfold updN
    split
    · rfl
    · exact h.w t ht
theorem Ep.abort {u : Nat} (h : Ep s0 none s) (hu : u < 16) : Ep s0 none (abortP s u) where
  a := EpA_snoc h.a hu (by
    show (updN s.tk u { s.tk u with n := 0 } u).epoch = _
    rw [updN_same]
    have := h.e u hu
    rw [if_neg (by simp)] at this
    exact this)
  e t ht := by
    rw [if_neg (by simp)]
    have h2 := h.e t ht
    have h3 := h.e u hu
    rw [if_neg (by simp)] at h2 h3
    show (updN (answerP (abort1 s u) u 3).tk u _ t).epoch = (s.told ++ [_]).foldl wF (epF s0) t
    rw [List.foldl_append]
    show _ = updN (s.told.foldl wF (epF s0)) u (inc64 (s.told.foldl wF (epF s0) u)) t
    by_cases e : t = u
    · subst e
      rw [updN_same, updN_same, ← h3]
      show inc64 (updN (abort1 s t).tk t _ t).epoch = _
      rw [updN_same]
      show inc64 (updN s.tk t _ t).epoch = _
      rw [updN_same]; rfl
    · rw [updN_ne e, updN_ne e, ← h2]
      show (updN (abort1 s u).tk u _ t).epoch = _
      rw [updN_ne e]
      show (updN s.tk u _ t).epoch = _
      rw [updN_ne e]; rfl
  w t ht := by cases ht
theorem Ep.wake {x : Option Nat} (hi : INV s) (h : Ep s0 x s) : Ep s0 x (wakeP s) :=
  (wake_ind (P := fun y => INV y ∧ Ep s0 x y) (fun y r q Q h hr hQ ha => by
    have hm : q ∈ y.queue r := by rw [hQ]; exact List.mem_cons_self
    refine ⟨h.1.grant hr hQ ha, h.2.answer (h.1.qt r q hm).2.1 (fun e => ?_) (by decide)⟩
    have h1 := h.1.wait hm
    rw [h.2.w _ e] at h1
    cases h1) ⟨hi, h⟩).2
theorem Ep.aborts : ∀ (Ts : List Nat) {s : KS}, (∀ t, t ∈ Ts → t < 16) → INV s → Ep s0 none s → INV (Ts.foldl abortP s) ∧ Ep s0 none (Ts.foldl abortP s)
  | [], s, _, hi, h => ⟨hi, h⟩
  | t :: Ts, s, hT, hi, h => Ep.aborts Ts (fun u hu => hT u (List.mem_cons_of_mem _ hu)) hi.abort (h.abort (hT t List.mem_cons_self))
theorem Ep.same (h : Ep s0 none s) (h1 : ∀ t, (s'.tk t).epoch = (s.tk t).epoch) (h2 : s'.told = s.told) : Ep s0 none s' := ⟨by rw [h2]; exact h.a, fun t ht => by rw [h2, ← h.e t ht]; exact h1 t, (fun t e => by cases e)⟩
theorem Ep.tick1 {f : Nat × Nat × Nat} (hf : f.2.2 < 16) (hi : INV s) (h : Ep s0 none s) : INV (tick1 s f) ∧ Ep s0 none (tick1 s f) := by
  refine ⟨(tick1_trs hf).inv (fun _ _ => INV.step) hi, ?_⟩
  unfold Go.Proofs.Qxb6500834aGreatDoor.tick1
  split
  · rename_i hw
    refine Ep.wake ?_ (h.answer (held' := s.held) hf (by simp) (by decide))
    exact INV.step (.timeout s f.2.2 hf hw.1) hi
  · exact h
theorem Ep.ticks : ∀ (Fs : List (Nat × Nat × Nat)) {s : KS}, (∀ f, f ∈ Fs → f.2.2 < 16) → INV s → Ep s0 none s → Ep s0 none (Fs.foldl Go.Proofs.Qxb6500834aGreatDoor.tick1 s)
  | [], s, _, _, h => h
  | f :: Fs, s, hF, hi, h => Ep.ticks Fs (fun g hg => hF g (List.mem_cons_of_mem _ hg)) (Ep.tick1 (hF f List.mem_cons_self) hi h).1 (Ep.tick1 (hF f List.mem_cons_self) hi h).2
theorem updTK_ep {T : TK} (h : T.epoch = (s.tk t).epoch) : ∀ a, (updN s.tk t T a).epoch = (s.tk a).epoch := fun a => by
  unfold updN
  split
  · rename_i e; rw [h, e]
  · rfl
theorem enqP_ep {u : Nat} {tim : Option Nat} : (∀ a, ((enqP s t r u tim).tk a).epoch = (s.tk a).epoch) ∧ (enqP s t r u tim).told = s.told := by
  cases tim with
  | none => exact ⟨updTK_ep rfl, rfl⟩
  | some k =>
    refine ⟨fun a => ?_, rfl⟩
    show (updN (enq1 s t r u).tk t _ a).epoch = _
    exact (updTK_ep (s := enq1 s t r u) (t := t) (T := { (enq1 s t r u).tk t with timer := s.armed + 1, deadline := deadP s.now k }) rfl a).trans (updTK_ep (s := s) (t := t) (T := { s.tk t with waiting := true }) rfl a)
theorem Ep.acquire {t r u : Int} {tim : Option Nat} (hi : INV s) (h : Ep s0 none s) : Ep s0 none (acquireP s t r u tim).1 := by
  unfold acquireP
  split
  · exact h
  rename_i hc1
  have hc1 := callerP_call (Classical.not_not.1 hc1)
  split
  · exact h
  split
  · exact h
  unfold acq2
  split
  · exact h.same (fun _ => rfl) rfl
  split
  · exact h
  split
  · exact Ep.wake hi.abort (h.abort hc1.lt)
  split
  · exact h.same enqP_ep.1 enqP_ep.2
  have h2 := Ep.aborts (tasksP (judgeP s.mode (fun i => (s.tk i).birth) t.toNat (rivalsP s t.toNat r.toNat)).2) (fun o ho => tasksP_lt ho) hi h
  split
  · exact (Ep.wake h2.1 h2.2).same (fun _ => rfl) rfl
  · exact (Ep.wake h2.1 h2.2).same enqP_ep.1 enqP_ep.2
/-- Which task's epoch moves on by an exit. -/
def exitX (s : KS) (o : Kern.Op) : Option Nat := if o.kind = 9 ∧ callerP s (nameP o.A 16) = 0 then some (nameP o.A 16).toNat else none
theorem Ep.init (h : s.told = []) : Ep s none s := ⟨by rw [h]; trivial, fun t _ => by rw [h]; rfl, (fun t e => by cases e)⟩
theorem Ep.step {o : Kern.Op} (hB : KB N s) (hi : INV s) (ht : s.told = []) : Ep s (exitX s o) (stepP s o).1 := by
  have h := Ep.init ht
  by_cases h9 : o.kind = 9
  · unfold stepP exitX
    rw [h9]
    show Ep s (if 9 = 9 ∧ _ then _ else _) (exitP s (nameP o.A 16)).1
    unfold exitP
    by_cases hc : callerP s (nameP o.A 16) = 0
    · have hc1 := callerP_call hc
      rw [if_pos ⟨rfl, hc⟩, if_neg (fun k => k hc)]
      refine Ep.wake (INV.step (.exit s _ hc1) hi) ⟨by show EpA _ s.told; rw [ht]; trivial, fun a ha => ?_, fun a e => ?_⟩
      · show (updN s.tk _ _ a).epoch = if some (nameP o.A 16).toNat = some a then inc64 (s.told.foldl wF (epF s) a) else s.told.foldl wF (epF s) a
        rw [ht]
        by_cases e : a = (nameP o.A 16).toNat
        · rw [if_pos (by rw [e]), e, updN_same]; rfl
        · rw [if_neg (fun k => e (Option.some.inj k).symm), updN_ne e]; rfl
      · obtain rfl := Option.some.inj e
        show (updN s.tk _ _ _).waiting = false
        rw [updN_same]; rfl
    · rw [if_neg (fun k => hc k.2), if_pos hc]
      exact h
  have hx : exitX s o = none := if_neg (fun k => h9 k.1)
  rw [hx]
  unfold stepP
  split
  · show Ep s none (setModeP s (nameP o.A 4)).1
    unfold setModeP
    split
    · exact h
    split
    · exact h
    · exact h.same (fun _ => rfl) rfl
  · unfold spawnP
    split
    · exact h
    · exact h.same (updTK_ep rfl) rfl
  · show Ep s none (declareK s (nameP o.A 16) (nameP o.B 20) (nameP o.C 17)).1
    unfold declareK
    split
    · exact h
    split
    · exact h
    · exact h.same (fun _ => rfl) rfl
  · exact h.acquire hi
  · exact h.acquire hi
  · exact h.acquire hi
  · show Ep s none (releaseP s (nameP o.A 16) (nameP o.B 20)).1
    unfold releaseP
    split
    · exact h
    rename_i hc1
    have hc1 := callerP_call (Classical.not_not.1 hc1)
    split
    · exact h
    rename_i hr
    split
    · exact h
    split
    · exact h
    rename_i hto
    refine Ep.wake (INV.step (.release s _ _ hc1 (by omega) fun h8 => ?_) hi) (h.same (fun _ => rfl) rfl)
    cases hz : touchesP (s.tk (nameP o.A 16).toNat) ((nameP o.B 20).toNat - 8) with
    | false => rfl
    | true => exact absurd ⟨by omega, hz⟩ hto
  · show Ep s none (writeP s (nameP o.A 16) (nameP o.B 12) o.X).1
    unfold writeP
    split
    · exact h
    split
    · exact h
    split
    · exact h
    split
    · exact h
    · exact h.same (updTK_ep rfl) rfl
  · show Ep s none (commitP s (nameP o.A 16)).1
    unfold commitP
    split
    · exact h
    · exact h.same (updTK_ep rfl) rfl
  · rename_i h'; exact absurd h' h9
  · exact Ep.ticks _ (fun f hf => hB.tt f (firedP_mem hf)) (INV.step (.tick0 s) hi) (h.same (fun _ => rfl) rfl)
  · unfold detectP
    split
    · exact h
    rename_i hv
    rcases victimP_or (s := s) with h' | ⟨n, hn, h'⟩
    · exact absurd h' hv
    · rw [h', Int.toNat_natCast]
      exact Ep.wake hi.abort (h.abort hn)
  · exact h
end Go.Proofs.Qxb6500834aGreatDoor

