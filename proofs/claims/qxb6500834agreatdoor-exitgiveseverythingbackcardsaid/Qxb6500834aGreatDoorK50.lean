import Derived.Test.Qxb6500834aGreatDoorK49
set_option linter.unusedVariables false
set_option linter.unusedSimpArgs false
set_option maxRecDepth 20000
namespace Go.Proofs.Qxb6500834aGreatDoor
open Go.RowKit Go.E1 Go.Kern
variable {w0 : World} {l X : List HI} {w : World} {s s' s0 : KS} {t r N n : Nat} {qv qv' : Nat → Value}

/-! Going over what a step is made of. -/
theorem Core.ind {FL : List (Nat × Nat × Nat)} {P : KS → Prop} (h : Core FL s s') (hi : INV s) (h0 : P s)
    (ha : ∀ x t, INV x → P x → t < 16 → P (abortP x t))
    (hg : ∀ x r q Q, INV x → P x → r < 20 → x.queue r = q :: Q → admissibleP x q.1 r q.2 = true → P (answerP (grantS x r q Q) q.1 0))
    (ht : ∀ x f, INV x → P x → f ∈ FL → f.2.2 < 16 → (x.tk f.2.2).waiting = true → (x.tk f.2.2).timer = f.1 → P (answerP { x with queue := withdrawP x.queue f.2.2 } f.2.2 4)) : P s' := by
  induction h using Core.elim with
  | refl => exact h0
  | abort h t h16 ih => exact ha _ t (h.inv hi) ih h16
  | grant h r q Q hr hQ hq ih => exact hg _ r q Q (h.inv hi) ih hr hQ hq
  | timeout h f hf hf16 hw htm ih => exact ht _ f (h.inv hi) ih hf hf16 hw htm
theorem wake_indI {P : KS → Prop} (hi : INV s) (h0 : P s) (hg : ∀ x r q Q, INV x → P x → r < 20 → x.queue r = q :: Q → admissibleP x q.1 r q.2 = true → P (answerP (grantS x r q Q) q.1 0)) : P (wakeP s) :=
  (wake_ind (P := fun y => INV y ∧ P y) (fun y r q Q h hr hQ ha => ⟨h.1.grant hr hQ ha, hg y r q Q h.1 h.2 hr hQ ha⟩) ⟨hi, h0⟩).2
def abT (T : TK) : TK := { T with n := 0, waiting := false, timer := 0, deadline := 0, epoch := inc64 T.epoch }
def anT (T : TK) : TK := { T with waiting := false, timer := 0, deadline := 0 }
theorem abort_tk {u : Nat} : (abortP s u).tk = updN s.tk u (abT (s.tk u)) := by
  have e1 : (answerP (abort1 s u) u 3).tk = updN s.tk u { s.tk u with n := 0, waiting := false, timer := 0, deadline := 0 } := by
    show updN (updN s.tk u { s.tk u with n := 0 }) u { (updN s.tk u { s.tk u with n := 0 }) u with waiting := false, timer := 0, deadline := 0 } = _
    rw [updN_updN, updN_same]
  show updN (answerP (abort1 s u) u 3).tk u { (answerP (abort1 s u) u 3).tk u with epoch := inc64 ((answerP (abort1 s u) u 3).tk u).epoch } = _
  rw [e1, updN_updN, updN_same]; rfl
theorem abort_told {u : Nat} : (abortP s u).told = s.told ++ [(u, (s.tk u).epoch, 3)] := by
  show s.told ++ [(u, (updN s.tk u { s.tk u with n := 0 } u).epoch, 3)] = _
  rw [updN_same]
theorem abort_queue {u : Nat} : (abortP s u).queue = withdrawP s.queue u := rfl
theorem abort_held {u : Nat} : (abortP s u).held = zapRow s.held u := rfl
theorem abort_timers {u : Nat} : (abortP s u).timers = if (s.tk u).timer = 0 then s.timers else cancelP s.timers (s.tk u).timer := by
  show (if (updN s.tk u { s.tk u with n := 0 } u).timer = 0 then s.timers else cancelP s.timers (updN s.tk u { s.tk u with n := 0 } u).timer) = _
  rw [updN_same]
def enT (s : KS) (t : Nat) : Option Nat → TK
  | none => { s.tk t with waiting := true }
  | some k => { s.tk t with waiting := true, timer := s.armed + 1, deadline := deadP s.now k }
theorem enq_tk {u : Nat} {tim : Option Nat} : (enqP s t r u tim).tk = updN s.tk t (enT s t tim) := by
  cases tim with
  | none => rfl
  | some k =>
    show updN (updN s.tk t { s.tk t with waiting := true }) t { (updN s.tk t { s.tk t with waiting := true }) t with timer := s.armed + 1, deadline := deadP s.now k } = _
    rw [updN_updN, updN_same]; rfl
theorem enq_told {u : Nat} {tim : Option Nat} : (enqP s t r u tim).told = s.told := by cases tim <;> rfl
theorem enq_queue {u : Nat} {tim : Option Nat} : (enqP s t r u tim).queue = updN s.queue r (s.queue r ++ [(t, u)]) := by cases tim <;> rfl
theorem enq_held {u : Nat} {tim : Option Nat} : (enqP s t r u tim).held = s.held := by cases tim <;> rfl
theorem enq_claim {u : Nat} {tim : Option Nat} : (enqP s t r u tim).claim = s.claim := by cases tim <;> rfl
theorem enq_cells {u : Nat} {tim : Option Nat} : (enqP s t r u tim).cells = s.cells := by cases tim <;> rfl
theorem enq_births {u : Nat} {tim : Option Nat} : (enqP s t r u tim).births = s.births := by cases tim <;> rfl
theorem enq_mode {u : Nat} {tim : Option Nat} : (enqP s t r u tim).mode = s.mode := by cases tim <;> rfl
theorem enq_now {u : Nat} {tim : Option Nat} : (enqP s t r u tim).now = s.now := by cases tim <;> rfl
theorem exit_INV (hi : INV s) (hc : CallOK s t) : INV (exitS s t) := INV.step (.exit s t hc) hi
theorem tick0_INV (hi : INV s) : INV (tick0 s) := INV.step (.tick0 s) hi
theorem rel_INV (hi : INV s) (hc : CallOK s t) (hr : r < 20) (hn : 8 ≤ r → touchesP (s.tk t) (r - 8) = false) : INV { s with held := upd2 s.held t r 0 } := INV.step (.release s t r hc hr hn) hi
/-- A row's property that grants, timeouts and rollbacks keep. -/
theorem Core.row {FL : List (Nat × Nat × Nat)} {R : TK → TK → Prop} (h : Core FL s s') (h1 : ∀ T, R T T) (h2 : ∀ T U, R T U → R T (abT U)) (h3 : ∀ T U, R T U → R T (anT U)) : ∀ a, R (s.tk a) (s'.tk a) := by
  induction h using Core.elim with
  | refl => exact fun a => h1 _
  | abort h t ht ih =>
    intro a
    rw [abort_tk]
    unfold updN
    split
    · rename_i e; rw [e]; exact h2 _ _ (ih _)
    · exact ih a
  | grant h r q Q hr hQ ha ih =>
    intro a
    show R _ (updN _ _ _ a)
    unfold updN
    split
    · rename_i e; rw [e]; exact h3 _ _ (ih _)
    · exact ih a
  | timeout h f hf hf16 hw ht ih =>
    intro a
    show R _ (updN _ _ _ a)
    unfold updN
    split
    · rename_i e; rw [e]; exact h3 _ _ (ih _)
    · exact ih a
/-- Life and birth stamp are left alone. -/
structure Lb (T U : TK) : Prop where
  l : U.live = T.live
  b : U.birth = T.birth
  c : U.ec = T.ec
  o : U.eo = T.eo
theorem Core.lb {FL : List (Nat × Nat × Nat)} (h : Core FL s s') : ∀ a, Lb (s.tk a) (s'.tk a) := h.row (fun _ => ⟨rfl, rfl, rfl, rfl⟩) (fun _ _ h => ⟨h.l, h.b, h.c, h.o⟩) (fun _ _ h => ⟨h.l, h.b, h.c, h.o⟩)
theorem Core.sm {FL : List (Nat × Nat × Nat)} (h : Core FL s s') : Sm s s' := by
  induction h using Core.elim with
  | refl => exact Sm.rfl'
  | abort h t ht ih => exact ih.trans ⟨rfl, rfl, rfl, rfl, rfl⟩
  | grant h r q Q hr hQ ha ih => exact ih.trans ⟨rfl, rfl, rfl, rfl, rfl⟩
  | timeout h f hf hf16 hw ht ih => exact ih.trans ⟨rfl, rfl, rfl, rfl, rfl⟩
theorem wound_lt {W : List Nat} {p : Prop} (h : W = [] ∨ W = woundL s t r ∧ p) : ∀ x, x ∈ W → x < 16 := fun x hx => by
  rcases h with h | h
  · rw [h] at hx; cases hx
  · rw [h.1] at hx; exact woundL_lt x hx

/-! Law: every pending call is answered once, plainly. -/
def wtF (s : KS) (t : Nat) : Bool := (s.tk t).waiting
def opF (W : Nat → Bool) (a : Nat × Nat × Nat) : Nat → Bool := updN W a.1 false
def paC (W : Nat → Bool) (a : Nat × Nat × Nat) : Prop := a.1 < 16 ∧ (a.2.2 = 3 ∨ W a.1 = true ∧ (a.2.2 = 0 ∨ a.2.2 = 4))
def PA (W : Nat → Bool) : List (Nat × Nat × Nat) → Prop
  | [] => True
  | a :: L => paC W a ∧ PA (opF W a) L
theorem PA_snoc {a : Nat × Nat × Nat} : ∀ {L : List (Nat × Nat × Nat)} {W : Nat → Bool}, PA W L → paC (L.foldl opF W) a → PA W (L ++ [a])
  | [], W, _, h => ⟨h, trivial⟩
  | b :: L, W, h, h2 => ⟨h.1, PA_snoc h.2 h2⟩
theorem PA_at : ∀ {L : List (Nat × Nat × Nat)} {W : Nat → Bool}, PA W L → ∀ (k : Nat) (a : Nat × Nat × Nat), L[k]? = some a → paC ((L.take k).foldl opF W) a
  | [], W, _, k, a, h => by simp at h
  | b :: L, W, hE, 0, a, h => by simp at h; subst h; exact hE.1
  | b :: L, W, hE, k + 1, a, h => PA_at hE.2 k a (by simpa using h)
structure Pn (s0 s : KS) : Prop where
  a : PA (wtF s0) s.told
  w : ∀ t, t < 16 → wtF s t = s.told.foldl opF (wtF s0) t
theorem Pn.answer {u c e : Nat} (h : Pn s0 s) (hu : u < 16) (hc : c = 3 ∨ wtF s u = true ∧ (c = 0 ∨ c = 4)) (h1 : s'.told = s.told ++ [(u, e, c)]) (h2 : ∀ a, wtF s' a = updN (wtF s) u false a) : Pn s0 s' where
  a := by
    rw [h1]
    refine PA_snoc h.a ⟨hu, ?_⟩
    have := h.w u hu
    rcases hc with hc | hc
    · exact .inl hc
    · exact .inr ⟨by rw [← this]; exact hc.1, hc.2⟩
  w t ht := by
    rw [h2, h1, List.foldl_append]
    show _ = updN (s.told.foldl opF (wtF s0)) u false t
    unfold updN
    split
    · rfl
    · exact h.w t ht
theorem tk_upd_w {u : Nat} {T : TK} (h1 : s'.tk = updN s.tk u T) (h2 : T.waiting = false) : ∀ a, wtF s' a = updN (wtF s) u false a := fun a => by
  unfold wtF
  rw [h1]
  unfold updN
  split
  · exact h2
  · rfl
theorem Pn.core {FL : List (Nat × Nat × Nat)} (h : Core FL s s') (hi : INV s) (h0 : Pn s0 s) : Pn s0 s' := by
  refine h.ind hi h0 (fun x t _ hx ht => hx.answer ht (.inl rfl) abort_told (tk_upd_w abort_tk rfl)) (fun x r q Q hI hx hr hQ ha => ?_) (fun x f hI hx hf h16 hw htm => ?_)
  · have hm : q ∈ x.queue r := by rw [hQ]; exact List.mem_cons_self
    exact hx.answer (hI.qt r q hm).2.1 (.inr ⟨hI.wait hm, .inl rfl⟩) rfl (tk_upd_w rfl rfl)
  · exact hx.answer h16 (.inr ⟨hw, .inr rfl⟩) rfl (tk_upd_w rfl rfl)
theorem Pn.init (h : s0.told = []) (h1 : s.told = []) (h2 : ∀ a, wtF s a = wtF s0 a) : Pn s0 s := ⟨by rw [h1]; trivial, fun t _ => by rw [h1]; exact h2 t⟩
/-- A step: who waits behind it. -/
theorem pend_step {o : Kern.Op} (hB : KB N s) (hi : INV s) (ht : s.told = []) : PA (wtF s) (stepP s o).1.told ∧ ((stepP s o).2.1 ≠ 1 → ∀ t, t < 16 → wtF (stepP s o).1 t = (stepP s o).1.told.foldl opF (wtF s) t) ∧
    ((stepP s o).2.1 = 1 → ∃ t : Nat, o.A = t ∧ t < 16 ∧ cfB s o = true ∧ (stepP s o).1.told.foldl opF (wtF s) t = false ∧ ∀ a, a < 16 → wtF (stepP s o).1 a = updN ((stepP s o).1.told.foldl opF (wtF s)) t true a) := by
  have key : ∀ {s' : KS} {c k : Int}, StepR s o s' c k → PA (wtF s) s'.told ∧ (c ≠ 1 → ∀ t, t < 16 → wtF s' t = s'.told.foldl opF (wtF s) t) ∧ (c = 1 → ∃ t : Nat, o.A = t ∧ t < 16 ∧ cfB s o = true ∧ s'.told.foldl opF (wtF s) t = false ∧ ∀ a, a < 16 → wtF s' a = updN (s'.told.foldl opF (wtF s)) t true a) := by
    intro s' c k h
    have fin : ∀ {x : KS} {c : Int}, Pn s x → c ≠ 1 → PA (wtF s) x.told ∧ (c ≠ 1 → ∀ t, t < 16 → wtF x t = x.told.foldl opF (wtF s) t) ∧ (c = 1 → ∃ t : Nat, o.A = t ∧ t < 16 ∧ cfB s o = true ∧ x.told.foldl opF (wtF s) t = false ∧ ∀ a, a < 16 → wtF x a = updN (x.told.foldl opF (wtF s)) t true a) := fun h hc => ⟨h.a, fun _ => h.w, fun k => absurd k hc⟩
    cases h using StepR.elim with
    | refuse c h0 h1 h3 => exact fin (.init ht ht fun _ => rfl) h1
    | mode hk m hm ha => exact fin (.init ht ht fun _ => rfl) (by decide)
    | born hk t hs =>
      refine fin (.init ht ht fun a => ?_) (by decide)
      have hl : (s.tk t).live = false := by simpa using List.find?_some hs
      show (updN s.tk t (bornT s t) a).waiting = (s.tk a).waiting
      unfold updN
      split
      · rename_i e
        rw [e]
        cases hx : (s.tk t).waiting with
        | false => rfl
        | true => rw [hi.wl t hx] at hl; cases hl
      · rfl
    | declare hk t r u hA hB hC hc hr hu hh => exact fin (.init ht ht fun _ => rfl) (by decide)
    | take hk t r u hA hB hC h hcl W hW ha hat =>
      have := Pn.core (FL := []) (Core.wound (wound_lt hW)) hi (.init ht ht fun _ => rfl)
      exact fin ⟨this.a, this.w⟩ (by decide)
    | pend hk t r u tim hA hB hC ht0 htim h hcl W hW hd ha0 ha hat =>
      have h1 := Pn.core (FL := []) (Core.wound (s := s) (W := W) (by rw [hW]; exact woundL_lt)) hi (.init ht ht fun _ => rfl)
      refine ⟨by rw [enq_told]; exact h1.a, fun k => absurd rfl k, fun _ => ⟨t, hA, h.c.lt, ?_, ?_, fun a ha16 => ?_⟩⟩
      · rw [cfB_iff (by omega) (by omega), nameP_eq (by have := h.c.lt; omega), hA]
        unfold callerP
        have := h.c.lt
        rw [if_neg (by omega), Int.toNat_natCast, h.c.live, h.c.wait]; rfl
      · rw [enq_told, ← h1.w t h.c.lt]; exact ha.c.wait
      · rw [enq_told]
        unfold wtF
        rw [enq_tk]
        unfold updN
        split
        · cases tim <;> rfl
        · exact h1.w a ha16
    | die hk t r u hA hB hC h hd ha0 => exact fin (Pn.core (FL := []) (s := s) ((Core.abort (.refl s) t h.c.lt).trans .wake) hi (.init ht ht fun _ => rfl)) (by decide)
    | release hk t r hA hB hc hr hn => exact fin (Pn.core (FL := []) .wake (rel_INV hi hc hr hn) (.init ht ht fun _ => rfl)) (by decide)
    | write hk t c hA hB hc hc12 hh hn =>
      refine fin (.init ht ht fun a => ?_) (by decide)
      show (updN s.tk t _ a).waiting = (s.tk a).waiting
      unfold updN
      split
      · rename_i e; rw [e]; rfl
      · rfl
    | commit hk t hA hc =>
      refine fin (.init ht ht fun a => ?_) (by decide)
      show (updN s.tk t _ a).waiting = (s.tk a).waiting
      unfold updN
      split
      · rename_i e; rw [e]
      · rfl
    | exit hk t hA hc =>
      refine fin (Pn.core (FL := []) .wake (exit_INV hi hc) (.init ht ht fun a => ?_)) (by decide)
      show (updN s.tk t _ a).waiting = (s.tk a).waiting
      unfold updN
      split
      · rename_i e; rw [e, hc.wait]; rfl
      · rfl
    | tick hk h16 => exact fin (Pn.core (Core.tick h16) (tick0_INV hi) (.init ht ht fun _ => rfl)) (by decide)
    | detect hk v hv hv16 => exact fin (Pn.core (FL := []) (s := s) ((Core.abort (.refl s) v hv16).trans .wake) hi (.init ht ht fun _ => rfl)) (by decide)
  exact key (step_R hB hi)
end Go.Proofs.Qxb6500834aGreatDoor

