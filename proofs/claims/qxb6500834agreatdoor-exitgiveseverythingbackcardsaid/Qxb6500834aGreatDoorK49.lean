import Derived.Test.Qxb6500834aGreatDoorK45
set_option linter.unusedVariables false
set_option linter.unusedSimpArgs false
set_option maxRecDepth 20000
namespace Go.Proofs.Qxb6500834aGreatDoor
open Go.RowKit Go.E1 Go.Kern
variable {w0 : World} {l X : List HI} {w : World} {s s' s0 : KS} {t r N n : Nat} {qv qv' : Nat → Value}

/-! What a step is made of, with its code. -/
def Core (FL : List (Nat × Nat × Nat)) (s : KS) (i0 : KS) : Prop := ∀ R : KS → Prop, (R s) → (∀ (s1 : KS) (h : R s1) (t : Nat) (ht : t < 16), R (abortP s1 t)) → (∀ (s1 : KS) (h : R s1) (r : Nat) (q : Nat × Nat) (Q : List (Nat × Nat)) (hr : r < 20) (hQ : s1.queue r = q :: Q) (ha : admissibleP s1 q.1 r q.2 = true), R (answerP (grantS s1 r q Q) q.1 0)) → (∀ (s1 : KS) (h : R s1) (f : Nat × Nat × Nat) (hf : f ∈ FL) (hf16 : f.2.2 < 16) (hw : (s1.tk f.2.2).waiting = true) (ht : (s1.tk f.2.2).timer = f.1), R (answerP { s1 with queue := withdrawP s1.queue f.2.2 } f.2.2 4)) → R i0
theorem Core.refl {FL : List (Nat × Nat × Nat)} (s : KS)  : Core FL s s := fun R z0 z1 z2 z3 => z0
theorem Core.abort {FL : List (Nat × Nat × Nat)} {s : KS} {s1 : KS} (h : Core FL s s1) (t : Nat) (ht : t < 16) : Core FL s (abortP s1 t) := fun R z0 z1 z2 z3 => z1 s1 (h R z0 z1 z2 z3) t ht
theorem Core.grant {FL : List (Nat × Nat × Nat)} {s : KS} {s1 : KS} (h : Core FL s s1) (r : Nat) (q : Nat × Nat) (Q : List (Nat × Nat)) (hr : r < 20) (hQ : s1.queue r = q :: Q) (ha : admissibleP s1 q.1 r q.2 = true) : Core FL s (answerP (grantS s1 r q Q) q.1 0) := fun R z0 z1 z2 z3 => z2 s1 (h R z0 z1 z2 z3) r q Q hr hQ ha
theorem Core.timeout {FL : List (Nat × Nat × Nat)} {s : KS} {s1 : KS} (h : Core FL s s1) (f : Nat × Nat × Nat) (hf : f ∈ FL) (hf16 : f.2.2 < 16) (hw : (s1.tk f.2.2).waiting = true) (ht : (s1.tk f.2.2).timer = f.1) : Core FL s (answerP { s1 with queue := withdrawP s1.queue f.2.2 } f.2.2 4) := fun R z0 z1 z2 z3 => z3 s1 (h R z0 z1 z2 z3) f hf hf16 hw ht
theorem Core.elim {FL : List (Nat × Nat × Nat)} {s : KS} {motive : ∀ (i0 : KS), Core FL s i0 → Prop} (refl : motive s (Core.refl s)) (abort : ∀ {s1 : KS} (h : Core FL s s1) (t : Nat) (ht : t < 16) (ih_h : motive s1 h), motive (abortP s1 t) (Core.abort h t ht)) (grant : ∀ {s1 : KS} (h : Core FL s s1) (r : Nat) (q : Nat × Nat) (Q : List (Nat × Nat)) (hr : r < 20) (hQ : s1.queue r = q :: Q) (ha : admissibleP s1 q.1 r q.2 = true) (ih_h : motive s1 h), motive (answerP (grantS s1 r q Q) q.1 0) (Core.grant h r q Q hr hQ ha)) (timeout : ∀ {s1 : KS} (h : Core FL s s1) (f : Nat × Nat × Nat) (hf : f ∈ FL) (hf16 : f.2.2 < 16) (hw : (s1.tk f.2.2).waiting = true) (ht : (s1.tk f.2.2).timer = f.1) (ih_h : motive s1 h), motive (answerP { s1 with queue := withdrawP s1.queue f.2.2 } f.2.2 4) (Core.timeout h f hf hf16 hw ht)) {i0 : KS} (h : Core FL s i0) : motive i0 h := by
  obtain ⟨_, k⟩ := h (fun i0 => ∃ g : Core FL s i0, motive i0 g) ⟨Core.refl s, refl⟩ (fun s1 ⟨h, m_h⟩ t ht => ⟨Core.abort h t ht, abort h t ht m_h⟩) (fun s1 ⟨h, m_h⟩ r q Q hr hQ ha => ⟨Core.grant h r q Q hr hQ ha, grant h r q Q hr hQ ha m_h⟩) (fun s1 ⟨h, m_h⟩ f hf hf16 hw ht => ⟨Core.timeout h f hf hf16 hw ht, timeout h f hf hf16 hw ht m_h⟩)
  exact k
theorem Core.trs {FL : List (Nat × Nat × Nat)} (h : Core FL s s') : Trs s s' := by
  induction h using Core.elim with
  | refl => exact .refl _
  | abort h t ht ih => exact ih.snoc (.abort _ t ht)
  | grant h r q Q hr hQ ha ih => exact ih.snoc (.grant _ r q Q hr hQ ha)
  | timeout h f hf hf16 hw ht ih => exact ih.snoc (.timeout _ f.2.2 hf16 hw)
theorem Core.inv {FL : List (Nat × Nat × Nat)} (h : Core FL s s') (hi : INV s) : INV s' := h.trs.inv (fun _ _ => INV.step) hi
theorem Core.trans {FL : List (Nat × Nat × Nat)} {s1 s2 s3 : KS} (h : Core FL s1 s2) (g : Core FL s2 s3) : Core FL s1 s3 := by
  induction g using Core.elim with
  | refl => exact h
  | abort g t ht ih => exact .abort ih t ht
  | grant g r q Q hr hQ ha ih => exact .grant ih r q Q hr hQ ha
  | timeout g f hf hf16 hw ht ih => exact .timeout ih f hf hf16 hw ht
theorem Core.wake {FL : List (Nat × Nat × Nat)} : Core FL s (wakeP s) := wake_ind (P := fun x => Core FL s x) (fun x r q Q h hr hQ ha => .grant h r q Q hr hQ ha) (.refl _)
theorem Core.aborts {FL : List (Nat × Nat × Nat)} : ∀ (Ts : List Nat) {s : KS}, (∀ t, t ∈ Ts → t < 16) → Core FL s (Ts.foldl abortP s)
  | [], s, _ => .refl _
  | t :: Ts, s, h => (Core.abort (.refl s) t (h t List.mem_cons_self)).trans (Core.aborts Ts fun u hu => h u (List.mem_cons_of_mem _ hu))
theorem Core.ticks {FL : List (Nat × Nat × Nat)} : ∀ (Fs : List (Nat × Nat × Nat)) {s : KS}, (∀ f, f ∈ Fs → f ∈ FL ∧ f.2.2 < 16) → Core FL s (Fs.foldl tick1 s)
  | [], s, _ => .refl _
  | f :: Fs, s, h => by
    have h1 := h f List.mem_cons_self
    refine Core.trans (s2 := tick1 s f) ?_ (Core.ticks Fs fun g hg => h g (List.mem_cons_of_mem _ hg))
    unfold tick1
    split
    · rename_i hw
      exact (Core.timeout (.refl s) f h1.1 h1.2 hw.1 hw.2).trans .wake
    · exact .refl _
/-- The kernel behind the rollbacks of those that a request wounds. -/
def woundS (s : KS) (W : List Nat) : KS := if W = [] then s else wakeP (W.foldl abortP s)
def judgeS (s : KS) (t r : Nat) : Bool × Nat := judgeP s.mode (fun i => (s.tk i).birth) t (rivalsP s t r)
def woundL (s : KS) (t r : Nat) : List Nat := tasksP (judgeS s t r).2
theorem tasksP_nil {m : Nat} (hm : m < 65536) (h : tasksP m = []) : m = 0 := by
  by_cases h0 : m = 0
  · exact h0
  · have := (tasksP_low h0 hm).1
    rw [h] at this; cases this
theorem woundL_lt : ∀ x, x ∈ woundL s t r → x < 16 := fun x hx => tasksP_lt hx
theorem Core.wound {FL : List (Nat × Nat × Nat)} {W : List Nat} (hW : ∀ x, x ∈ W → x < 16) : Core FL s (woundS s W) := by
  unfold woundS
  split
  · exact .refl _
  · exact (Core.aborts _ hW).trans .wake
def StepR (s : KS) (o : Kern.Op) (i0 : KS) (i1 : Int) (i2 : Int) : Prop := ∀ R : KS → Int → Int → Prop, (∀ (c : Int) (h0 : c ≠ 0) (h1 : c ≠ 1) (h3 : c ≠ 3), R s c (-1)) → (∀ (hk : o.kind = 0) (m : Nat) (hm : m < 4) (ha : anyLive s = false), R { s with mode := m } 0 (-1)) → (∀ (hk : o.kind = 1) (t : Nat) (ht : slotP s = some t), R (bornS s t) 0 t) → (∀ (hk : o.kind = 2) (t : Nat) (r : Nat) (u : Nat) (hA : o.A = t) (hB : o.B = r) (hC : o.C = u) (hc : CallOK s t) (hr : r < 20) (hu : u ≤ totP r) (hh : heldByP s.held t = []), R { s with claim := upd2 s.claim t r u } 0 (-1)) → (∀ (hk : 3 ≤ o.kind ∧ o.kind ≤ 5) (t : Nat) (r : Nat) (u : Nat) (hA : o.A = t) (hB : o.B = r) (hC : o.C = u) (h : AcqOK s t r u) (hcl : s.mode = 3 → s.held t r + u ≤ s.claim t r) (W : List Nat) (hW : W = [] ∨ W = woundL s t r ∧ W ≠ [] ∧ (o.kind = 3 ∨ o.kind = 5) ∧ atOnceP s t r u = false ∧ (judgeS s t r).1 = false) (ha : AcqOK (woundS s W) t r u) (hat : atOnceP (woundS s W) t r u = true), R (grant1 (woundS s W) t r u) 0 (-1)) → (∀ (hk : o.kind = 3 ∨ o.kind = 5) (t : Nat) (r : Nat) (u : Nat) (tim : Option Nat) (hA : o.A = t) (hB : o.B = r) (hC : o.C = u) (ht0 : tim ≠ some 0) (htim : o.kind = 3 ∧ tim = none ∨ o.kind = 5 ∧ tim = some o.X) (h : AcqOK s t r u) (hcl : s.mode = 3 → s.held t r + u ≤ s.claim t r) (W : List Nat) (hW : W = woundL s t r) (hd : (judgeS s t r).1 = false) (ha0 : atOnceP s t r u = false) (ha : AcqOK (woundS s W) t r u) (hat : atOnceP (woundS s W) t r u = false), R (enqP (woundS s W) t r u tim) 1 (-1)) → (∀ (hk : o.kind = 3 ∨ o.kind = 5) (t : Nat) (r : Nat) (u : Nat) (hA : o.A = t) (hB : o.B = r) (hC : o.C = u) (h : AcqOK s t r u) (hd : (judgeS s t r).1 = true) (ha0 : atOnceP s t r u = false), R (wakeP (abortP s t)) 3 (-1)) → (∀ (hk : o.kind = 6) (t : Nat) (r : Nat) (hA : o.A = t) (hB : o.B = r) (hc : CallOK s t) (hr : r < 20) (hn : 8 ≤ r → touchesP (s.tk t) (r - 8) = false), R (wakeP { s with held := upd2 s.held t r 0 }) 0 (-1)) → (∀ (hk : o.kind = 7) (t : Nat) (c : Nat) (hA : o.A = t) (hB : o.B = c) (hc : CallOK s t) (hc12 : c < 12) (hh : s.held t (8 + c) = 16) (hn : (s.tk t).n ≠ 64), R { s with tk := updN s.tk t (pushP (s.tk t) c (s.cells c)), cells := updN s.cells c o.X } 0 (-1)) → (∀ (hk : o.kind = 8) (t : Nat) (hA : o.A = t) (hc : CallOK s t), R { s with tk := updN s.tk t { s.tk t with n := 0 } } 0 (-1)) → (∀ (hk : o.kind = 9) (t : Nat) (hA : o.A = t) (hc : CallOK s t), R (wakeP (exitS s t)) 0 (-1)) → (∀ (hk : o.kind = 10) (ht16 : ∀ f, f ∈ firedP s → f.2.2 < 16), R (tickP s) 0 (-1)) → (∀ (hk : o.kind = 11) (v : Nat) (hv : victimP s = v) (hv16 : v < 16), R (wakeP (abortP s v)) 0 v) → R i0 i1 i2
theorem StepR.refuse {s : KS} {o : Kern.Op} (c : Int) (h0 : c ≠ 0) (h1 : c ≠ 1) (h3 : c ≠ 3) : StepR s o s c (-1) := fun R z0 z1 z2 z3 z4 z5 z6 z7 z8 z9 z10 z11 z12 => z0 c h0 h1 h3
theorem StepR.mode {s : KS} {o : Kern.Op} (hk : o.kind = 0) (m : Nat) (hm : m < 4) (ha : anyLive s = false) : StepR s o { s with mode := m } 0 (-1) := fun R z0 z1 z2 z3 z4 z5 z6 z7 z8 z9 z10 z11 z12 => z1 hk m hm ha
theorem StepR.born {s : KS} {o : Kern.Op} (hk : o.kind = 1) (t : Nat) (ht : slotP s = some t) : StepR s o (bornS s t) 0 t := fun R z0 z1 z2 z3 z4 z5 z6 z7 z8 z9 z10 z11 z12 => z2 hk t ht
theorem StepR.declare {s : KS} {o : Kern.Op} (hk : o.kind = 2) (t : Nat) (r : Nat) (u : Nat) (hA : o.A = t) (hB : o.B = r) (hC : o.C = u) (hc : CallOK s t) (hr : r < 20) (hu : u ≤ totP r) (hh : heldByP s.held t = []) : StepR s o { s with claim := upd2 s.claim t r u } 0 (-1) := fun R z0 z1 z2 z3 z4 z5 z6 z7 z8 z9 z10 z11 z12 => z3 hk t r u hA hB hC hc hr hu hh
theorem StepR.take {s : KS} {o : Kern.Op} (hk : 3 ≤ o.kind ∧ o.kind ≤ 5) (t : Nat) (r : Nat) (u : Nat) (hA : o.A = t) (hB : o.B = r) (hC : o.C = u) (h : AcqOK s t r u) (hcl : s.mode = 3 → s.held t r + u ≤ s.claim t r) (W : List Nat) (hW : W = [] ∨ W = woundL s t r ∧ W ≠ [] ∧ (o.kind = 3 ∨ o.kind = 5) ∧ atOnceP s t r u = false ∧ (judgeS s t r).1 = false) (ha : AcqOK (woundS s W) t r u) (hat : atOnceP (woundS s W) t r u = true) : StepR s o (grant1 (woundS s W) t r u) 0 (-1) := fun R z0 z1 z2 z3 z4 z5 z6 z7 z8 z9 z10 z11 z12 => z4 hk t r u hA hB hC h hcl W hW ha hat
theorem StepR.pend {s : KS} {o : Kern.Op} (hk : o.kind = 3 ∨ o.kind = 5) (t : Nat) (r : Nat) (u : Nat) (tim : Option Nat) (hA : o.A = t) (hB : o.B = r) (hC : o.C = u) (ht0 : tim ≠ some 0) (htim : o.kind = 3 ∧ tim = none ∨ o.kind = 5 ∧ tim = some o.X) (h : AcqOK s t r u) (hcl : s.mode = 3 → s.held t r + u ≤ s.claim t r) (W : List Nat) (hW : W = woundL s t r) (hd : (judgeS s t r).1 = false) (ha0 : atOnceP s t r u = false) (ha : AcqOK (woundS s W) t r u) (hat : atOnceP (woundS s W) t r u = false) : StepR s o (enqP (woundS s W) t r u tim) 1 (-1) := fun R z0 z1 z2 z3 z4 z5 z6 z7 z8 z9 z10 z11 z12 => z5 hk t r u tim hA hB hC ht0 htim h hcl W hW hd ha0 ha hat
theorem StepR.die {s : KS} {o : Kern.Op} (hk : o.kind = 3 ∨ o.kind = 5) (t : Nat) (r : Nat) (u : Nat) (hA : o.A = t) (hB : o.B = r) (hC : o.C = u) (h : AcqOK s t r u) (hd : (judgeS s t r).1 = true) (ha0 : atOnceP s t r u = false) : StepR s o (wakeP (abortP s t)) 3 (-1) := fun R z0 z1 z2 z3 z4 z5 z6 z7 z8 z9 z10 z11 z12 => z6 hk t r u hA hB hC h hd ha0
theorem StepR.release {s : KS} {o : Kern.Op} (hk : o.kind = 6) (t : Nat) (r : Nat) (hA : o.A = t) (hB : o.B = r) (hc : CallOK s t) (hr : r < 20) (hn : 8 ≤ r → touchesP (s.tk t) (r - 8) = false) : StepR s o (wakeP { s with held := upd2 s.held t r 0 }) 0 (-1) := fun R z0 z1 z2 z3 z4 z5 z6 z7 z8 z9 z10 z11 z12 => z7 hk t r hA hB hc hr hn
theorem StepR.write {s : KS} {o : Kern.Op} (hk : o.kind = 7) (t : Nat) (c : Nat) (hA : o.A = t) (hB : o.B = c) (hc : CallOK s t) (hc12 : c < 12) (hh : s.held t (8 + c) = 16) (hn : (s.tk t).n ≠ 64) : StepR s o { s with tk := updN s.tk t (pushP (s.tk t) c (s.cells c)), cells := updN s.cells c o.X } 0 (-1) := fun R z0 z1 z2 z3 z4 z5 z6 z7 z8 z9 z10 z11 z12 => z8 hk t c hA hB hc hc12 hh hn
theorem StepR.commit {s : KS} {o : Kern.Op} (hk : o.kind = 8) (t : Nat) (hA : o.A = t) (hc : CallOK s t) : StepR s o { s with tk := updN s.tk t { s.tk t with n := 0 } } 0 (-1) := fun R z0 z1 z2 z3 z4 z5 z6 z7 z8 z9 z10 z11 z12 => z9 hk t hA hc
theorem StepR.exit {s : KS} {o : Kern.Op} (hk : o.kind = 9) (t : Nat) (hA : o.A = t) (hc : CallOK s t) : StepR s o (wakeP (exitS s t)) 0 (-1) := fun R z0 z1 z2 z3 z4 z5 z6 z7 z8 z9 z10 z11 z12 => z10 hk t hA hc
theorem StepR.tick {s : KS} {o : Kern.Op} (hk : o.kind = 10) (ht16 : ∀ f, f ∈ firedP s → f.2.2 < 16) : StepR s o (tickP s) 0 (-1) := fun R z0 z1 z2 z3 z4 z5 z6 z7 z8 z9 z10 z11 z12 => z11 hk ht16
theorem StepR.detect {s : KS} {o : Kern.Op} (hk : o.kind = 11) (v : Nat) (hv : victimP s = v) (hv16 : v < 16) : StepR s o (wakeP (abortP s v)) 0 v := fun R z0 z1 z2 z3 z4 z5 z6 z7 z8 z9 z10 z11 z12 => z12 hk v hv hv16
theorem StepR.elim {s : KS} {o : Kern.Op} {motive : ∀ (i0 : KS) (i1 : Int) (i2 : Int), StepR s o i0 i1 i2 → Prop} (refuse : ∀ (c : Int) (h0 : c ≠ 0) (h1 : c ≠ 1) (h3 : c ≠ 3), motive s c (-1) (StepR.refuse c h0 h1 h3)) (mode : ∀ (hk : o.kind = 0) (m : Nat) (hm : m < 4) (ha : anyLive s = false), motive { s with mode := m } 0 (-1) (StepR.mode hk m hm ha)) (born : ∀ (hk : o.kind = 1) (t : Nat) (ht : slotP s = some t), motive (bornS s t) 0 t (StepR.born hk t ht)) (declare : ∀ (hk : o.kind = 2) (t : Nat) (r : Nat) (u : Nat) (hA : o.A = t) (hB : o.B = r) (hC : o.C = u) (hc : CallOK s t) (hr : r < 20) (hu : u ≤ totP r) (hh : heldByP s.held t = []), motive { s with claim := upd2 s.claim t r u } 0 (-1) (StepR.declare hk t r u hA hB hC hc hr hu hh)) (take : ∀ (hk : 3 ≤ o.kind ∧ o.kind ≤ 5) (t : Nat) (r : Nat) (u : Nat) (hA : o.A = t) (hB : o.B = r) (hC : o.C = u) (h : AcqOK s t r u) (hcl : s.mode = 3 → s.held t r + u ≤ s.claim t r) (W : List Nat) (hW : W = [] ∨ W = woundL s t r ∧ W ≠ [] ∧ (o.kind = 3 ∨ o.kind = 5) ∧ atOnceP s t r u = false ∧ (judgeS s t r).1 = false) (ha : AcqOK (woundS s W) t r u) (hat : atOnceP (woundS s W) t r u = true), motive (grant1 (woundS s W) t r u) 0 (-1) (StepR.take hk t r u hA hB hC h hcl W hW ha hat)) (pend : ∀ (hk : o.kind = 3 ∨ o.kind = 5) (t : Nat) (r : Nat) (u : Nat) (tim : Option Nat) (hA : o.A = t) (hB : o.B = r) (hC : o.C = u) (ht0 : tim ≠ some 0) (htim : o.kind = 3 ∧ tim = none ∨ o.kind = 5 ∧ tim = some o.X) (h : AcqOK s t r u) (hcl : s.mode = 3 → s.held t r + u ≤ s.claim t r) (W : List Nat) (hW : W = woundL s t r) (hd : (judgeS s t r).1 = false) (ha0 : atOnceP s t r u = false) (ha : AcqOK (woundS s W) t r u) (hat : atOnceP (woundS s W) t r u = false), motive (enqP (woundS s W) t r u tim) 1 (-1) (StepR.pend hk t r u tim hA hB hC ht0 htim h hcl W hW hd ha0 ha hat)) (die : ∀ (hk : o.kind = 3 ∨ o.kind = 5) (t : Nat) (r : Nat) (u : Nat) (hA : o.A = t) (hB : o.B = r) (hC : o.C = u) (h : AcqOK s t r u) (hd : (judgeS s t r).1 = true) (ha0 : atOnceP s t r u = false), motive (wakeP (abortP s t)) 3 (-1) (StepR.die hk t r u hA hB hC h hd ha0)) (release : ∀ (hk : o.kind = 6) (t : Nat) (r : Nat) (hA : o.A = t) (hB : o.B = r) (hc : CallOK s t) (hr : r < 20) (hn : 8 ≤ r → touchesP (s.tk t) (r - 8) = false), motive (wakeP { s with held := upd2 s.held t r 0 }) 0 (-1) (StepR.release hk t r hA hB hc hr hn)) (write : ∀ (hk : o.kind = 7) (t : Nat) (c : Nat) (hA : o.A = t) (hB : o.B = c) (hc : CallOK s t) (hc12 : c < 12) (hh : s.held t (8 + c) = 16) (hn : (s.tk t).n ≠ 64), motive { s with tk := updN s.tk t (pushP (s.tk t) c (s.cells c)), cells := updN s.cells c o.X } 0 (-1) (StepR.write hk t c hA hB hc hc12 hh hn)) (commit : ∀ (hk : o.kind = 8) (t : Nat) (hA : o.A = t) (hc : CallOK s t), motive { s with tk := updN s.tk t { s.tk t with n := 0 } } 0 (-1) (StepR.commit hk t hA hc)) (exit : ∀ (hk : o.kind = 9) (t : Nat) (hA : o.A = t) (hc : CallOK s t), motive (wakeP (exitS s t)) 0 (-1) (StepR.exit hk t hA hc)) (tick : ∀ (hk : o.kind = 10) (ht16 : ∀ f, f ∈ firedP s → f.2.2 < 16), motive (tickP s) 0 (-1) (StepR.tick hk ht16)) (detect : ∀ (hk : o.kind = 11) (v : Nat) (hv : victimP s = v) (hv16 : v < 16), motive (wakeP (abortP s v)) 0 v (StepR.detect hk v hv hv16)) {i0 : KS} {i1 : Int} {i2 : Int} (h : StepR s o i0 i1 i2) : motive i0 i1 i2 h := by
  obtain ⟨_, k⟩ := h (fun i0 i1 i2 => ∃ g : StepR s o i0 i1 i2, motive i0 i1 i2 g) (fun c h0 h1 h3 => ⟨StepR.refuse c h0 h1 h3, refuse c h0 h1 h3⟩) (fun hk m hm ha => ⟨StepR.mode hk m hm ha, mode hk m hm ha⟩) (fun hk t ht => ⟨StepR.born hk t ht, born hk t ht⟩) (fun hk t r u hA hB hC hc hr hu hh => ⟨StepR.declare hk t r u hA hB hC hc hr hu hh, declare hk t r u hA hB hC hc hr hu hh⟩) (fun hk t r u hA hB hC h hcl W hW ha hat => ⟨StepR.take hk t r u hA hB hC h hcl W hW ha hat, take hk t r u hA hB hC h hcl W hW ha hat⟩) (fun hk t r u tim hA hB hC ht0 htim h hcl W hW hd ha0 ha hat => ⟨StepR.pend hk t r u tim hA hB hC ht0 htim h hcl W hW hd ha0 ha hat, pend hk t r u tim hA hB hC ht0 htim h hcl W hW hd ha0 ha hat⟩) (fun hk t r u hA hB hC h hd ha0 => ⟨StepR.die hk t r u hA hB hC h hd ha0, die hk t r u hA hB hC h hd ha0⟩) (fun hk t r hA hB hc hr hn => ⟨StepR.release hk t r hA hB hc hr hn, release hk t r hA hB hc hr hn⟩) (fun hk t c hA hB hc hc12 hh hn => ⟨StepR.write hk t c hA hB hc hc12 hh hn, write hk t c hA hB hc hc12 hh hn⟩) (fun hk t hA hc => ⟨StepR.commit hk t hA hc, commit hk t hA hc⟩) (fun hk t hA hc => ⟨StepR.exit hk t hA hc, exit hk t hA hc⟩) (fun hk ht16 => ⟨StepR.tick hk ht16, tick hk ht16⟩) (fun hk v hv hv16 => ⟨StepR.detect hk v hv hv16, detect hk v hv hv16⟩)
  exact k
theorem Core.tick (h : ∀ f, f ∈ firedP s → f.2.2 < 16) : Core (firedP s) (tick0 s) (tickP s) := Core.ticks _ fun f hf => ⟨hf, h f hf⟩
theorem acq_R {o : Kern.Op} {tim : Option Nat} (hi : INV s) (hk : o.kind = 3 ∧ tim = none ∨ o.kind = 4 ∧ tim = some 0 ∨ o.kind = 5 ∧ tim = some o.X) : StepR s o (acquireP s (nameP o.A 16) (nameP o.B 20) (nameP o.C 17) tim).1 (acquireP s (nameP o.A 16) (nameP o.B 20) (nameP o.C 17) tim).2 (-1) := by
  have hcc := callerP_codes (s := s) (t := nameP o.A 16)
  have hck := checkP_codes (held := s.held) (t := (nameP o.A 16).toNat) (r := nameP o.B 20) (u := nameP o.C 17)
  unfold acquireP
  split
  · exact .refuse _ (by dsimp only; omega) (by dsimp only; omega) (by dsimp only; omega)
  rename_i hc1
  have hc1 := Classical.not_not.1 hc1
  split
  · exact .refuse _ (by dsimp only; omega) (by dsimp only; omega) (by dsimp only; omega)
  rename_i hc2
  have hc2 := Classical.not_not.1 hc2
  split
  · exact .refuse _ (by dsimp only; omega) (by dsimp only; omega) (by dsimp only; omega)
  rename_i hcl
  have h := checkP_acq hc1 hc2
  have hq := hi.noQ _ h.c.lt h.c.wait
  have hA := nameP_in (callerP_ok hc1).1
  have hco := checkP_ok hc2
  have hB := nameP_in (v := o.B) (m := 20) (by omega)
  have hC := nameP_in (v := o.C) (m := 17) (by omega)
  have eA : o.A = ((nameP o.A 16).toNat : Nat) := by have := (callerP_ok hc1).1; omega
  have eB : o.B = ((nameP o.B 20).toNat : Nat) := by omega
  have eC : o.C = ((nameP o.C 17).toNat : Nat) := by omega
  have hcl : s.mode = 3 → s.held (nameP o.A 16).toNat (nameP o.B 20).toNat + (nameP o.C 17).toNat ≤ s.claim (nameP o.A 16).toNat (nameP o.B 20).toNat := fun hm => by
    have := fun k => hcl ⟨hm, k⟩
    omega
  obtain ⟨t, ht⟩ : ∃ t, t = (nameP o.A 16).toNat := ⟨_, rfl⟩
  obtain ⟨r, hr⟩ : ∃ r, r = (nameP o.B 20).toNat := ⟨_, rfl⟩
  obtain ⟨u, hu⟩ : ∃ u, u = (nameP o.C 17).toNat := ⟨_, rfl⟩
  rw [← ht] at h hq eA hcl ⊢
  rw [← hr] at h eB hcl ⊢
  rw [← hu] at h eC hcl ⊢
  clear hc1 hc2 hA hB hC hco hcc hck
  have hT : ∀ x, x ∈ woundL s t r → x < 16 := fun x hx => tasksP_lt hx
  have e0 : ∀ {W : List Nat}, W = [] → woundS s W = s := fun h => if_pos h
  have hjl : (judgeS s t r).2 < 65536 := judgeF_lt (L := tasksP (rivalsP s t r)) fun o ho => tasksP_lt ho
  unfold acq2
  split
  · rename_i hat
    have := StepR.take (s := s) (o := o) (by omega) t r u eA eB eC h hcl [] (.inl rfl) (by rw [e0 rfl]; exact h) (by rw [e0 rfl]; exact hat)
    rw [e0 rfl] at this
    exact this
  rename_i hna
  have hna : atOnceP s t r u = false := by simpa using hna
  split
  · exact .refuse _ (by dsimp only; omega) (by dsimp only; omega) (by dsimp only; omega)
  rename_i ht0
  have hk35 : o.kind = 3 ∨ o.kind = 5 := by
    rcases hk with h | h | h
    · exact .inl h.1
    · exact absurd h.2 ht0
    · exact .inr h.1
  have htim : o.kind = 3 ∧ tim = none ∨ o.kind = 5 ∧ tim = some o.X := by
    rcases hk with h | h | h
    · exact .inl h
    · exact absurd h.2 ht0
    · exact .inr h
  split
  · rename_i hd
    exact .die hk35 t r u eA eB eC h hd hna
  rename_i hd
  have hd : (judgeS s t r).1 = false := by have := hd; unfold judgeS; simpa using this
  split
  · rename_i hj
    have hj : woundL s t r = [] := by unfold woundL judgeS; rw [hj]; decide
    have := StepR.pend (s := s) (o := o) hk35 t r u tim eA eB eC ht0 htim h hcl _ rfl hd hna (by rw [e0 hj]; exact h) (by rw [e0 hj]; exact hna)
    rw [e0 hj] at this
    exact this
  rename_i hj
  have hW : woundL s t r ≠ [] := fun k => hj (tasksP_nil hjl k)
  have e1 : woundS s (woundL s t r) = wakeP ((woundL s t r).foldl abortP s) := if_neg hW
  have hA1 : AcqOK (woundS s (woundL s t r)) t r u := by
    rw [e1]
    exact h.keep ((Kp.aborts _).trans Kp.wake) ((Nq.aborts _).trans Nq.wake) hq
  split
  · rename_i hat
    have := StepR.take (s := s) (o := o) (by omega) t r u eA eB eC h hcl (woundL s t r) (.inr ⟨rfl, hW, hk35, hna, hd⟩) hA1 (by rw [e1]; exact hat)
    rw [e1] at this
    exact this
  · rename_i hat
    have := StepR.pend (s := s) (o := o) hk35 t r u tim eA eB eC ht0 htim h hcl _ rfl hd hna hA1 (by rw [e1]; have hat := Bool.eq_false_iff.2 hat; exact hat)
    rw [e1] at this
    exact this
theorem step_R {o : Kern.Op} (hB : KB N s) (hi : INV s) : StepR s o (stepP s o).1 (stepP s o).2.1 (stepP s o).2.2 := by
  have hcc := callerP_codes (s := s) (t := nameP o.A 16)
  have eA : callerP s (nameP o.A 16) = 0 → o.A = ((nameP o.A 16).toNat : Nat) := fun h => by
    have := nameP_in (callerP_ok h).1
    have := (callerP_ok h).1
    omega
  unfold stepP
  split <;> rename_i hk
  · show StepR s o (setModeP s (nameP o.A 4)).1 (setModeP s (nameP o.A 4)).2 (-1)
    unfold setModeP
    split
    · exact .refuse _ (by dsimp only; omega) (by dsimp only; omega) (by dsimp only; omega)
    rename_i hm
    split
    · exact .refuse _ (by dsimp only; omega) (by dsimp only; omega) (by dsimp only; omega)
    · rename_i ha
      exact .mode hk _ (by omega) (by simpa using ha)
  · unfold spawnP
    split
    · exact .refuse _ (by dsimp only; omega) (by dsimp only; omega) (by dsimp only; omega)
    · rename_i t ht; exact .born hk t ht
  · show StepR s o (declareK s (nameP o.A 16) (nameP o.B 20) (nameP o.C 17)).1 (declareK s (nameP o.A 16) (nameP o.B 20) (nameP o.C 17)).2 (-1)
    unfold declareK
    split
    · exact .refuse _ (by dsimp only; omega) (by dsimp only; omega) (by dsimp only; omega)
    rename_i hc1
    have hc0 := Classical.not_not.1 hc1
    split
    · exact .refuse _ (by dsimp only; omega) (by dsimp only; omega) (by dsimp only; omega)
    rename_i hr
    dsimp only
    by_cases hd : declareP (nameP o.B 20).toNat (nameP o.C 17) (decide (0 < (heldByP s.held (nameP o.A 16).toNat).length)) = 0
    · rw [if_pos hd, hd]
      have hd' : 0 ≤ nameP o.C 17 ∧ (nameP o.C 17).toNat ≤ totP (nameP o.B 20).toNat ∧ heldByP s.held (nameP o.A 16).toNat = [] := by
        unfold declareP at hd
        split at hd
        · cases hd
        rename_i h1
        split at hd
        · cases hd
        rename_i h2
        refine ⟨by omega, by omega, ?_⟩
        have : ¬ 0 < (heldByP s.held (nameP o.A 16).toNat).length := by simpa using h2
        exact List.eq_nil_of_length_eq_zero (by omega)
      have e1 := nameP_in (v := o.B) (m := 20) (by omega)
      have e2 := nameP_in (v := o.C) (m := 17) hd'.1
      exact .declare hk _ _ _ (eA hc0) (by omega) (by omega) (callerP_call hc0) (by omega) hd'.2.1 hd'.2.2
    · rw [if_neg hd]
      have hdc : declareP (nameP o.B 20).toNat (nameP o.C 17) (decide (0 < (heldByP s.held (nameP o.A 16).toNat).length)) = 21 ∨ declareP (nameP o.B 20).toNat (nameP o.C 17) (decide (0 < (heldByP s.held (nameP o.A 16).toNat).length)) = 22 ∨ declareP (nameP o.B 20).toNat (nameP o.C 17) (decide (0 < (heldByP s.held (nameP o.A 16).toNat).length)) = 0 := by
        unfold declareP
        split
        · exact .inl rfl
        split
        · exact .inr (.inl rfl)
        · exact .inr (.inr rfl)
      exact .refuse _ hd (by omega) (by omega)
  · exact acq_R hi (.inl ⟨hk, rfl⟩)
  · exact acq_R hi (.inr (.inl ⟨hk, rfl⟩))
  · exact acq_R hi (.inr (.inr ⟨hk, rfl⟩))
  · show StepR s o (releaseP s (nameP o.A 16) (nameP o.B 20)).1 (releaseP s (nameP o.A 16) (nameP o.B 20)).2 (-1)
    unfold releaseP
    split
    · exact .refuse _ (by dsimp only; omega) (by dsimp only; omega) (by dsimp only; omega)
    rename_i hc1
    have hc0 := Classical.not_not.1 hc1
    split
    · exact .refuse _ (by dsimp only; omega) (by dsimp only; omega) (by dsimp only; omega)
    rename_i hr
    split
    · exact .refuse _ (by dsimp only; omega) (by dsimp only; omega) (by dsimp only; omega)
    split
    · exact .refuse _ (by dsimp only; omega) (by dsimp only; omega) (by dsimp only; omega)
    rename_i hto
    have e1 := nameP_in (v := o.B) (m := 20) (by omega)
    refine .release hk _ (nameP o.B 20).toNat (eA hc0) (by omega) (callerP_call hc0) (by omega) fun h8 => ?_
    cases hx : touchesP (s.tk (nameP o.A 16).toNat) ((nameP o.B 20).toNat - 8) with
    | false => rfl
    | true => exact absurd ⟨by omega, hx⟩ hto
  · show StepR s o (writeP s (nameP o.A 16) (nameP o.B 12) o.X).1 (writeP s (nameP o.A 16) (nameP o.B 12) o.X).2 (-1)
    unfold writeP
    split
    · exact .refuse _ (by dsimp only; omega) (by dsimp only; omega) (by dsimp only; omega)
    rename_i hc1
    have hc0 := Classical.not_not.1 hc1
    split
    · exact .refuse _ (by dsimp only; omega) (by dsimp only; omega) (by dsimp only; omega)
    rename_i hc
    split
    · exact .refuse _ (by dsimp only; omega) (by dsimp only; omega) (by dsimp only; omega)
    rename_i hh
    split
    · exact .refuse _ (by dsimp only; omega) (by dsimp only; omega) (by dsimp only; omega)
    rename_i hn
    have e1 := nameP_in (v := o.B) (m := 12) (by omega)
    exact .write hk _ (nameP o.B 12).toNat (eA hc0) (by omega) (callerP_call hc0) (by omega) (Classical.not_not.1 hh) hn
  · show StepR s o (commitP s (nameP o.A 16)).1 (commitP s (nameP o.A 16)).2 (-1)
    unfold commitP
    split
    · exact .refuse _ (by dsimp only; omega) (by dsimp only; omega) (by dsimp only; omega)
    rename_i hc1
    have hc0 := Classical.not_not.1 hc1
    exact .commit hk _ (eA hc0) (callerP_call hc0)
  · show StepR s o (exitP s (nameP o.A 16)).1 (exitP s (nameP o.A 16)).2 (-1)
    unfold exitP
    split
    · exact .refuse _ (by dsimp only; omega) (by dsimp only; omega) (by dsimp only; omega)
    rename_i hc1
    have hc0 := Classical.not_not.1 hc1
    exact .exit hk _ (eA hc0) (callerP_call hc0)
  · exact .tick hk fun f hf => hB.tt f (firedP_mem hf)
  · unfold detectP
    split
    · exact .refuse _ (by dsimp only; omega) (by dsimp only; omega) (by dsimp only; omega)
    rename_i hv
    rcases victimP_or (s := s) with h | ⟨n, hn, h⟩
    · exact absurd h hv
    · dsimp only
      rw [h, Int.toNat_natCast]
      exact .detect hk n h hn
  · exact .refuse _ (by dsimp only; omega) (by dsimp only; omega) (by dsimp only; omega)
end Go.Proofs.Qxb6500834aGreatDoor

