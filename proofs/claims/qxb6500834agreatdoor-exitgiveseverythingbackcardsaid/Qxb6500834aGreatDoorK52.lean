import Derived.Test.Qxb6500834aGreatDoorK51
set_option linter.unusedVariables false
set_option linter.unusedSimpArgs false
set_option maxRecDepth 20000
namespace Go.Proofs.Qxb6500834aGreatDoor
open Go.RowKit Go.E1 Go.Kern
variable {w0 : World} {l X : List HI} {w : World} {s s' s0 : KS} {t r N n : Nat} {qv qv' : Nat → Value}

/-! Who is rolled back in a step. -/
theorem toldP_snoc {L : List (Nat × Nat × Nat)} {a : Nat × Nat × Nat} {c : Int} : toldP (L ++ [a]) c = toldF c (toldP L c) a := by unfold toldP; rw [List.foldl_append]; rfl
theorem toldF_hit {a : Nat × Nat × Nat} {c : Int} {m : Nat} (h : (a.2.2 : Int) = c) : toldF c m a = m ||| 2 ^ a.1 := if_pos h
theorem toldF_miss {a : Nat × Nat × Nat} {c : Int} {m : Nat} (h : (a.2.2 : Int) ≠ c) : toldF c m a = m := if_neg h
def abB (s : KS) (t : Nat) : Bool := (toldP s.told 3).testBit t
theorem abB_abort {u : Nat} : abB (abortP s u) t = (abB s t || decide (u = t)) := by
  unfold abB
  rw [abort_told, toldP_snoc, toldF_hit (a := (u, (s.tk u).epoch, 3)) (c := 3) rfl, Nat.testBit_or, Nat.testBit_two_pow]
theorem abB_ans {x : KS} {u c e : Nat} (h : x.told = s.told ++ [(u, e, c)]) (hc : c ≠ 3) : abB x t = abB s t := by
  unfold abB
  rw [h, toldP_snoc, toldF_miss (fun k => hc (by have k : (c : Int) = 3 := k; omega))]
theorem abB_nil (h : s.told = []) : abB s t = false := by
  unfold abB
  rw [h]
  exact Nat.zero_testBit t
structure Nb (s0 s : KS) : Prop where
  n : ∀ t, (s.tk t).n = if abB s t then 0 else (s0.tk t).n
  e : ∀ t, (s.tk t).ec = (s0.tk t).ec
theorem Core.nb {FL : List (Nat × Nat × Nat)} (h : Core FL s s') (h0 : s.told = []) : Nb s s' := by
  refine ⟨?_, fun t => (h.lb t).c⟩
  induction h using Core.elim with
  | refl => intro t; rw [abB_nil h0]; rfl
  | abort h u hu ih =>
    intro t
    rw [abort_tk, abB_abort]
    by_cases e : t = u
    · subst e; rw [updN_same]; simp [abT]
    · rw [updN_ne e, ih t]
      have : decide (u = t) = false := by simpa using fun k => e k.symm
      rw [this, Bool.or_false]
  | @grant x h r q Q hr hQ ha ih =>
    intro t
    rw [abB_ans (s := x) (x := answerP (grantS x r q Q) q.1 0) rfl (by decide)]
    show (updN x.tk q.1 (anT (x.tk q.1)) t).n = _
    unfold updN
    split
    · rename_i e; rw [e]; exact ih q.1
    · exact ih t
  | @timeout x h f hf hf16 hw ht ih =>
    intro t
    rw [abB_ans (s := x) (x := answerP { x with queue := withdrawP x.queue f.2.2 } f.2.2 4) rfl (by decide)]
    show (updN x.tk f.2.2 (anT (x.tk f.2.2)) t).n = _
    unfold updN
    split
    · rename_i e; rw [e]; exact ih f.2.2
    · exact ih t
/-- A vacant slot has nothing logged. -/
def VN (s : KS) : Prop := ∀ t, (s.tk t).live = false → (s.tk t).n = 0
theorem Core.vn {FL : List (Nat × Nat × Nat)} (h : Core FL s s') (h0 : VN s) : VN s' := by
  have := h.row (R := fun T U => U.live = T.live ∧ (T.n = 0 → U.n = 0)) (fun _ => ⟨rfl, id⟩) (fun _ _ h => ⟨h.1, fun _ => rfl⟩) (fun _ _ h => h)
  exact fun t hl => (this t).2 (h0 t (by rw [← (this t).1]; exact hl))
theorem VN.upd {T : TK} (h : VN s) (hT : T.live = false → T.n = 0) (h1 : s'.tk = updN s.tk t T) : VN s' := fun a hl => by
  rw [h1] at hl ⊢
  unfold updN at hl ⊢
  split
  · rename_i e; rw [if_pos e] at hl; exact hT hl
  · rename_i e; rw [if_neg e] at hl; exact h a hl
theorem VN.step {o : Kern.Op} (hB : KB N s) (hi : INV s) (h : VN s) : VN (stepP s o).1 := by
  have key : ∀ {s' : KS} {c k : Int}, StepR s o s' c k → VN s' := by
    intro s' c k hR
    cases hR using StepR.elim with
    | refuse c h0' h1 h3 => exact h
    | mode hk m hm ha => exact h
    | born hk t hs => exact h.upd (fun _ => rfl) rfl
    | declare hk t r u hA hB hC hc hr hu hh => exact h
    | take hk t r u hA hB hC h' hcl W hW ha hat => exact (Core.wound (FL := []) (s := s) (W := W) (wound_lt hW)).vn h
    | pend hk t r u tim hA hB' hC ht0 htim h' hcl W hW hd' ha0 ha hat =>
      have h1 := (Core.wound (FL := []) (s := s) (W := W) (by rw [hW]; exact woundL_lt)).vn h
      exact h1.upd (T := enT (woundS s W) t tim) (fun k => by have h2 := h1 t; cases tim <;> exact h2 k) enq_tk
    | die hk t r u hA hB hC h' hd' ha0 => exact ((Core.abort (FL := []) (.refl s) t h'.c.lt).trans .wake).vn h
    | release hk t r hA hB hc hr hn => exact (Core.wake (FL := [])).vn h
    | write hk t c hA hB hc hc12 hh hn => exact h.upd (fun k => by have k : (s.tk t).live = false := k; rw [hc.live] at k; cases k) rfl
    | commit hk t hA hc => exact h.upd (fun _ => rfl) rfl
    | exit hk t hA hc => exact (Core.wake (FL := [])).vn (h.upd (fun _ => rfl) rfl)
    | tick hk h16 => exact (Core.tick h16).vn h
    | detect hk v hv hv16 => exact ((Core.abort (FL := []) (.refl s) v hv16).trans .wake).vn h
  exact key (step_R hB hi)
theorem run_VN (op : Nat → Kern.Op) : ∀ i, VN (runP op i)
  | 0 => fun _ _ => rfl
  | i + 1 => VN.step (o := op i) (run_KI op i).b (run_INV op i) (run_VN op i)
def nnF (s : KS) (t : Nat) : Nat := (s.tk t).n
/-- The numbers of logged writes before the rollbacks of a step. -/
def wrM (s : KS) (o : Kern.Op) (c : Int) : Nat → Nat :=
  if c = 0 ∧ o.kind = 7 then updN (nnF s) o.A.toNat (nnF s o.A.toNat + 1) else if c = 0 ∧ (o.kind = 8 ∨ o.kind = 9) then updN (nnF s) o.A.toNat 0 else nnF s
theorem nnF_upd {T : TK} {f : Nat → Nat} (h1 : s'.tk = updN s.tk t T) (h2 : T.n = f t) (h3 : ∀ a, a ≠ t → f a = nnF s a) (a : Nat) : nnF s' a = f a := by
  unfold nnF
  rw [h1]
  by_cases e : a = t
  · rw [e, updN_same, h2]
  · rw [updN_ne e, h3 a e]; rfl
theorem full_step {o : Kern.Op} (hB : KB N s) (hi : INV s) (hv : VN s) (h0 : s.told = []) : ∀ t, (((stepP s o).1).tk t).n = if abB (stepP s o).1 t then 0 else wrM s o (stepP s o).2.1 t := by
  have key : ∀ {s' : KS} {c k : Int}, StepR s o s' c k → ∀ t, (s'.tk t).n = if abB s' t then 0 else wrM s o c t := by
    intro s' c k hR
    have core : ∀ {FL : List (Nat × Nat × Nat)} {s1 s2 : KS} {c : Int}, Core FL s1 s2 → s1.told = [] → (∀ t, nnF s1 t = wrM s o c t) → ∀ t, (s2.tk t).n = if abB s2 t then 0 else wrM s o c t := fun hc h01 h1 t => by
      rw [(hc.nb h01).n t, ← h1 t]; rfl
    have triv : ∀ {s1 : KS} {c : Int}, s1.told = [] → (∀ t, nnF s1 t = wrM s o c t) → ∀ t, (s1.tk t).n = if abB s1 t then 0 else wrM s o c t := fun h01 h1 => core (FL := []) (.refl _) h01 h1
    have e7 : ∀ {c : Int}, ¬ (c = 0 ∧ o.kind = 7) → ¬ (c = 0 ∧ (o.kind = 8 ∨ o.kind = 9)) → wrM s o c = nnF s := fun h1 h2 => by unfold wrM; rw [if_neg h1, if_neg h2]
    cases hR using StepR.elim with
    | refuse c h0' h1 h3 => exact triv h0 fun t => by rw [e7 (fun k => h0' k.1) (fun k => h0' k.1)]
    | mode hk m hm ha => exact triv h0 fun t => by rw [e7 (by omega) (by omega)]; rfl
    | born hk t hs =>
      refine triv h0 fun a => ?_
      rw [e7 (by omega) (by omega)]
      have hl : (s.tk t).live = false := by simpa using List.find?_some hs
      exact nnF_upd (s := s) (t := t) (T := bornT s t) (f := nnF s) rfl (hv t hl).symm (fun _ _ => rfl) a
    | declare hk t r u hA hB hC hc hr hu hh => exact triv h0 fun t => by rw [e7 (by omega) (by omega)]; rfl
    | take hk t r u hA hB hC h' hcl W hW ha hat =>
      have h1 := core (c := 0) (FL := []) (s1 := s) (s2 := woundS s W) (Core.wound (wound_lt hW)) h0 fun t => by rw [e7 (by omega) (by omega)]
      exact h1
    | pend hk t r u tim hA hB' hC ht0 htim h' hcl W hW hd' ha0 ha hat =>
      have h1 := core (c := 1) (FL := []) (s1 := s) (Core.wound (W := W) (by rw [hW]; exact woundL_lt)) h0 fun t => by rw [e7 (by omega) (by omega)]
      intro a
      have h2 := h1 a
      have e3 : abB (enqP (woundS s W) t r u tim) a = abB (woundS s W) a := by unfold abB; rw [enq_told]
      rw [e3, ← h2]
      exact nnF_upd (s := woundS s W) (f := nnF (woundS s W)) enq_tk (by cases tim <;> rfl) (fun _ _ => rfl) a
    | die hk t r u hA hB hC h' hd' ha0 => exact core (FL := []) ((Core.abort (.refl s) t h'.c.lt).trans .wake) h0 fun t => by rw [e7 (by omega) (by omega)]
    | release hk t r hA hB hc hr hn => exact core (FL := []) .wake h0 fun t => by rw [e7 (by omega) (by omega)]; rfl
    | write hk t c hA hB hc hc12 hh hn =>
      refine triv h0 fun a => ?_
      have e : wrM s o 0 = updN (nnF s) t (nnF s t + 1) := by unfold wrM; rw [if_pos ⟨rfl, hk⟩, hA, Int.toNat_natCast]
      rw [e]
      exact nnF_upd (s := s) (t := t) (T := pushP (s.tk t) c (s.cells c)) rfl updN_same.symm (fun _ h => updN_ne h) a
    | commit hk t hA hc =>
      refine triv h0 fun a => ?_
      have e : wrM s o 0 = updN (nnF s) t 0 := by unfold wrM; rw [if_neg (by omega), if_pos ⟨rfl, .inl hk⟩, hA, Int.toNat_natCast]
      rw [e]
      exact nnF_upd (s := s) (t := t) (T := { s.tk t with n := 0 }) rfl updN_same.symm (fun _ h => updN_ne h) a
    | exit hk t hA hc =>
      refine core (FL := []) .wake h0 fun a => ?_
      have e : wrM s o 0 = updN (nnF s) t 0 := by unfold wrM; rw [if_neg (by omega), if_pos ⟨rfl, .inr hk⟩, hA, Int.toNat_natCast]
      rw [e]
      exact nnF_upd (s := s) (t := t) (T := { tk0 with epoch := inc64 (s.tk t).epoch }) rfl updN_same.symm (fun _ h => updN_ne h) a
    | tick hk h16 => exact core (Core.tick h16) h0 fun t => by rw [e7 (by omega) (by omega)]; rfl
    | detect hk v hv hv16 => exact core (FL := []) ((Core.abort (.refl s) v hv16).trans .wake) h0 fun t => by rw [e7 (by omega) (by omega)]
  exact key (step_R hB hi)
/-- What a write's answer hangs on. -/
theorem write_code {o : Kern.Op} (h7 : o.kind = 7) (hf : cfB s o = true) (hb : 0 ≤ o.B ∧ o.B < 12) (hh : s.held o.A.toNat (8 + o.B.toNat) = 16) :
    ((s.tk o.A.toNat).n = 64 → (stepP s o).2.1 = 20 ∧ (stepP s o).1 = s) ∧ ((s.tk o.A.toNat).n ≠ 64 → (stepP s o).2.1 = 0) := by
  have hc := (cfB_iff (by omega) (by omega)).1 hf
  have hA := callerP_ok hc
  have eA : nameP o.A 16 = o.A := (nameP_in hA.1).symm
  have eB : nameP o.B 12 = o.B := nameP_eq hb
  have e : stepP s o = ((writeP s o.A o.B o.X).1, (writeP s o.A o.B o.X).2, -1) := by unfold stepP; rw [h7, eA, eB]; rfl
  rw [eA] at hc
  rw [e]
  unfold writeP
  rw [if_neg (fun k => k hc), if_neg (by omega), if_neg (fun k => k hh)]
  refine ⟨fun hn => ?_, fun hn => ?_⟩
  · rw [if_pos hn]; exact ⟨rfl, rfl⟩
  · rw [if_neg hn]
theorem code20 {o : Kern.Op} (h : (stepP s o).2.1 = 20) : o.kind = 7 ∧ cfB s o = true ∧ (0 ≤ o.B ∧ o.B < 12) ∧ s.held o.A.toNat (8 + o.B.toNat) = 16 ∧ (s.tk o.A.toNat).n = 64 := by
  have h7 : o.kind = 7 := Classical.byContradiction fun k => (codes_of.1 k).2 h
  have e : stepP s o = ((writeP s (nameP o.A 16) (nameP o.B 12) o.X).1, (writeP s (nameP o.A 16) (nameP o.B 12) o.X).2, -1) := by unfold stepP; rw [h7]; rfl
  rw [e] at h
  have h : (writeP s (nameP o.A 16) (nameP o.B 12) o.X).2 = 20 := h
  have hcc := callerP_codes (s := s) (t := nameP o.A 16)
  unfold writeP at h
  split at h
  · dsimp only at h; omega
  rename_i hc
  have hc := Classical.not_not.1 hc
  split at h
  · cases h
  rename_i hb
  split at h
  · cases h
  rename_i hh
  split at h
  · rename_i hn
    have eA := nameP_in (callerP_ok hc).1
    have eB := nameP_in (v := o.B) (m := 12) (by omega)
    rw [← eA, ← eB] at hh
    rw [← eA] at hn
    exact ⟨h7, (cfB_iff (by omega) (by omega)).2 hc, by omega, Classical.not_not.1 hh, hn⟩
  · cases h
theorem cf_T {o : Kern.Op} (h : cfB s o = true) : ∃ t : Nat, t < 16 ∧ o.A = t ∧ cfT o = t ∧ (s.tk t).live = true ∧ (s.tk t).waiting = false := by
  unfold cfB at h
  unfold cfT
  by_cases hq : callQ o
  · rw [if_pos hq] at h ⊢
    have h1 := hq.2.2.1
    have h2 := hq.2.2.2
    obtain ⟨t, ht⟩ : ∃ t : Nat, o.A = t := ⟨o.A.toNat, by omega⟩
    rw [ht] at h
    have h : ((s.tk t).live && !(s.tk t).waiting) = true := h
    rw [Bool.and_eq_true] at h
    exact ⟨t, by omega, ht, ht, h.1, by simpa using h.2⟩
  · rw [if_neg hq] at h; cases h
theorem cf_of {o : Kern.Op} (h2 : 2 ≤ o.kind) (h9 : o.kind ≤ 9) (hA : o.A = t) (hc : CallOK s t) : cfB s o = true := by
  have := hc.lt
  rw [cfB_iff h2 h9, nameP_eq (by omega), hA]
  unfold callerP
  rw [if_neg (by omega), Int.toNat_natCast, hc.live, hc.wait]; rfl
/-- Who gets OK can make the call. -/
theorem call_ok0 {o : Kern.Op} (hB : KB N s) (hi : INV s) (h2 : 2 ≤ o.kind) (h9 : o.kind ≤ 9) (h0 : (stepP s o).2.1 = 0) : cfB s o = true := by
  have key : ∀ {s' : KS} {c k : Int}, StepR s o s' c k → c = 0 → cfB s o = true := by
    intro s' c k hR h0
    cases hR using StepR.elim with
    | refuse c h0' h1 h3 => exact absurd h0 h0'
    | mode hk m hm ha => omega
    | born hk t hs => omega
    | declare hk t r u hA hB hC hc hr hu hh => exact cf_of h2 h9 hA hc
    | take hk t r u hA hB hC h' hcl W hW ha hat => exact cf_of h2 h9 hA h'.c
    | pend hk t r u tim hA hB' hC ht0 htim h' hcl W hW hd' ha0 ha hat => exact cf_of h2 h9 hA h'.c
    | die hk t r u hA hB hC h' hd' ha0 => exact cf_of h2 h9 hA h'.c
    | release hk t r hA hB hc hr hn => exact cf_of h2 h9 hA hc
    | write hk t c hA hB hc hc12 hh hn => exact cf_of h2 h9 hA hc
    | commit hk t hA hc => exact cf_of h2 h9 hA hc
    | exit hk t hA hc => exact cf_of h2 h9 hA hc
    | tick hk h16 => omega
    | detect hk v hv hv16 => omega
  exact key (step_R hB hi) h0
theorem write_ok0 {o : Kern.Op} (hB : KB N s) (hi : INV s) (h7 : o.kind = 7) (h0 : (stepP s o).2.1 = 0) : cfB s o = true ∧ (0 ≤ o.B ∧ o.B < 12) ∧ s.held o.A.toNat (8 + o.B.toNat) = 16 := by
  have key : ∀ {s' : KS} {c k : Int}, StepR s o s' c k → c = 0 → cfB s o = true ∧ (0 ≤ o.B ∧ o.B < 12) ∧ s.held o.A.toNat (8 + o.B.toNat) = 16 := by
    intro s' c k hR h0
    cases hR using StepR.elim with
    | refuse c h0' h1 h3 => exact absurd h0 h0'
    | mode hk m hm ha => omega
    | born hk t hs => omega
    | declare hk t r u hA hB hC hc hr hu hh => omega
    | take hk t r u hA hB hC h' hcl W hW ha hat => omega
    | pend hk t r u tim hA hB' hC ht0 htim h' hcl W hW hd' ha0 ha hat => omega
    | die hk t r u hA hB hC h' hd' ha0 => omega
    | release hk t r hA hB hc hr hn => omega
    | write hk t c hA hB hc hc12 hh hn => exact ⟨cf_of (by omega) (by omega) hA hc, by omega, by rw [hA, hB]; exact hh⟩
    | commit hk t hA hc => omega
    | exit hk t hA hc => omega
    | tick hk h16 => omega
    | detect hk v hv hv16 => omega
  exact key (step_R hB hi) h0
/-! Dirty locks. -/
def tcF (s : KS) (t c : Nat) : Bool := touchesP (s.tk t) c
/-- What is written and not yet committed, before the rollbacks of a step. -/
def drM (s : KS) (o : Kern.Op) (c : Int) : Nat → Nat → Bool :=
  if c = 0 ∧ o.kind = 7 then upd2 (tcF s) o.A.toNat o.B.toNat true else if c = 0 ∧ (o.kind = 8 ∨ o.kind = 9) then (fun a b => if a = o.A.toNat then false else tcF s a b) else tcF s
theorem touch_push {T : TK} {c old a : Nat} : touchesP (pushP T c old) a = (touchesP T a || c == a) := by
  unfold touchesP pushP
  dsimp only
  rw [List.range_succ, List.any_append]
  congr 1
  · have : ∀ L : List Nat, (∀ i, i ∈ L → i < T.n) → (L.any fun i => updN T.ec T.n c i == a) = L.any fun i => T.ec i == a := by
      intro L
      induction L with
      | nil => exact fun _ => rfl
      | cons x L ih =>
        intro h
        rw [List.any_cons, List.any_cons, ih fun i hi => h i (List.mem_cons_of_mem _ hi)]
        have := h x List.mem_cons_self
        unfold updN
        rw [if_neg (by omega)]
    exact this _ fun i hi => List.mem_range.1 hi
  · simp [updN]
theorem touch_n0 {T : TK} {a : Nat} (h : T.n = 0) : touchesP T a = false := by unfold touchesP; rw [h]; rfl
theorem touch_eq {T U : TK} {a : Nat} (h1 : U.n = T.n) (h2 : U.ec = T.ec) : touchesP U a = touchesP T a := by unfold touchesP; rw [h1, h2]
/-- What is written lies under its lock. -/
def DL (s : KS) : Prop := ∀ t c, tcF s t c = true → s.held t (8 + c) = 16
theorem Nb.tc (h : Nb s0 s) (t c : Nat) : tcF s t c = if abB s t then false else tcF s0 t c := by
  have h1 := h.n t
  have h2 := h.e t
  unfold tcF
  by_cases hb : abB s t = true
  · rw [if_pos hb] at h1 ⊢
    exact touch_n0 h1
  · rw [if_neg hb] at h1 ⊢
    exact touch_eq h1 h2
theorem tc_upd {T : TK} {f : Nat → Nat → Bool} (h1 : s'.tk = updN s.tk t T) (h2 : ∀ c, touchesP T c = f t c) (h3 : ∀ a, a ≠ t → ∀ c, f a c = tcF s a c) (a c : Nat) : tcF s' a c = f a c := by
  unfold tcF
  rw [h1]
  by_cases e : a = t
  · rw [e, updN_same, h2]
  · rw [updN_ne e, h3 a e]; rfl
theorem dirty_step {o : Kern.Op} (hB : KB N s) (hi : INV s) (hv : VN s) (h0 : s.told = []) : ∀ t c, tcF (stepP s o).1 t c = if abB (stepP s o).1 t then false else drM s o (stepP s o).2.1 t c := by
  have key : ∀ {s' : KS} {c k : Int}, StepR s o s' c k → ∀ t b, tcF s' t b = if abB s' t then false else drM s o c t b := by
    intro s' c k hR
    have core : ∀ {FL : List (Nat × Nat × Nat)} {s1 s2 : KS} {c : Int}, Core FL s1 s2 → s1.told = [] → (∀ t b, tcF s1 t b = drM s o c t b) → ∀ t b, tcF s2 t b = if abB s2 t then false else drM s o c t b := fun hc h01 h1 t b => by
      rw [(hc.nb h01).tc t b, ← h1 t b]
    have triv : ∀ {s1 : KS} {c : Int}, s1.told = [] → (∀ t b, tcF s1 t b = drM s o c t b) → ∀ t b, tcF s1 t b = if abB s1 t then false else drM s o c t b := fun h01 h1 => core (FL := []) (.refl _) h01 h1
    have e7 : ∀ {c : Int}, ¬ (c = 0 ∧ o.kind = 7) → ¬ (c = 0 ∧ (o.kind = 8 ∨ o.kind = 9)) → drM s o c = tcF s := fun h1 h2 => by unfold drM; rw [if_neg h1, if_neg h2]
    cases hR using StepR.elim with
    | refuse c h0' h1 h3 => exact triv h0 fun t b => by rw [e7 (fun k => h0' k.1) (fun k => h0' k.1)]
    | mode hk m hm ha => exact triv h0 fun t b => by rw [e7 (by omega) (by omega)]; rfl
    | born hk t hs =>
      refine triv h0 fun a b => ?_
      rw [e7 (by omega) (by omega)]
      have hl : (s.tk t).live = false := by simpa using List.find?_some hs
      exact tc_upd (s := s) (t := t) (T := bornT s t) rfl (fun c => (touch_n0 rfl).trans (touch_n0 (hv t hl)).symm) (fun _ _ _ => rfl) a b
    | declare hk t r u hA hB hC hc hr hu hh => exact triv h0 fun t b => by rw [e7 (by omega) (by omega)]; rfl
    | take hk t r u hA hB hC h' hcl W hW ha hat =>
      have h1 := core (c := 0) (FL := []) (s1 := s) (s2 := woundS s W) (Core.wound (wound_lt hW)) h0 fun t b => by rw [e7 (by omega) (by omega)]
      exact h1
    | pend hk t r u tim hA hB' hC ht0 htim h' hcl W hW hd' ha0 ha hat =>
      have h1 := core (c := 1) (FL := []) (s1 := s) (Core.wound (W := W) (by rw [hW]; exact woundL_lt)) h0 fun t b => by rw [e7 (by omega) (by omega)]
      intro a b
      have h2 := h1 a b
      have e3 : abB (enqP (woundS s W) t r u tim) a = abB (woundS s W) a := by unfold abB; rw [enq_told]
      rw [e3, ← h2]
      exact tc_upd (s := woundS s W) (f := tcF (woundS s W)) enq_tk (fun c => touch_eq (by cases tim <;> rfl) (by cases tim <;> rfl)) (fun _ _ _ => rfl) a b
    | die hk t r u hA hB hC h' hd' ha0 => exact core (FL := []) ((Core.abort (.refl s) t h'.c.lt).trans .wake) h0 fun t b => by rw [e7 (by omega) (by omega)]
    | release hk t r hA hB hc hr hn => exact core (FL := []) .wake h0 fun t b => by rw [e7 (by omega) (by omega)]; rfl
    | write hk t c hA hB hc hc12 hh hn =>
      refine triv h0 fun a b => ?_
      have e : drM s o 0 = upd2 (tcF s) t c true := by unfold drM; rw [if_pos ⟨rfl, hk⟩, hA, hB, Int.toNat_natCast, Int.toNat_natCast]
      rw [e]
      refine tc_upd (s := s) (t := t) (T := pushP (s.tk t) c (s.cells c)) (f := upd2 (tcF s) t c true) rfl (fun d => ?_) (fun a ha d => if_neg (fun k => ha k.1)) a b
      rw [touch_push]
      unfold upd2 tcF
      by_cases hd : d = c
      · subst hd; simp
      · have : (c == d) = false := by simpa using fun k => hd k.symm
        rw [this, if_neg (fun k => hd k.2), Bool.or_false]
    | commit hk t hA hc =>
      refine triv h0 fun a b => ?_
      have e : drM s o 0 = fun a b => if a = t then false else tcF s a b := by unfold drM; rw [if_neg (by omega), if_pos ⟨rfl, .inl hk⟩, hA, Int.toNat_natCast]
      rw [e]
      exact tc_upd (s := s) (t := t) (T := { s.tk t with n := 0 }) (f := fun a b => if a = t then false else tcF s a b) rfl (fun d => (touch_n0 rfl).trans (if_pos rfl).symm) (fun a h d => if_neg h) a b
    | exit hk t hA hc =>
      refine core (FL := []) .wake h0 fun a b => ?_
      have e : drM s o 0 = fun a b => if a = t then false else tcF s a b := by unfold drM; rw [if_neg (by omega), if_pos ⟨rfl, .inr hk⟩, hA, Int.toNat_natCast]
      rw [e]
      exact tc_upd (s := s) (t := t) (T := { tk0 with epoch := inc64 (s.tk t).epoch }) (f := fun a b => if a = t then false else tcF s a b) rfl (fun d => (touch_n0 rfl).trans (if_pos rfl).symm) (fun a h d => if_neg h) a b
    | tick hk h16 => exact core (Core.tick h16) h0 fun t b => by rw [e7 (by omega) (by omega)]; rfl
    | detect hk v hv hv16 => exact core (FL := []) ((Core.abort (.refl s) v hv16).trans .wake) h0 fun t b => by rw [e7 (by omega) (by omega)]
  exact key (step_R hB hi)
/-- What is held under a full write lock isn't touched but by its task's rollback. -/
theorem DL.core {FL : List (Nat × Nat × Nat)} (h : Core FL s s') (hi : INV s) (hd : DL s) : DL s' := by
  refine h.ind hi hd (fun x t _ hx ht a c k => ?_) (fun x r q Q hI hx hr hQ ha a c k => ?_) (fun x f hI hx hf h16 hw htm a c k => ?_)
  · unfold tcF at k
    rw [abort_tk] at k
    by_cases e : a = t
    · rw [e, updN_same, touch_n0 rfl] at k; cases k
    · rw [updN_ne e] at k
      rw [abort_held]
      unfold zapRow
      rw [if_neg e]
      exact hx a c k
  · have k' : tcF x a c = true := by
      rw [← k]
      refine (tc_upd (s := x) (t := q.1) (T := anT (x.tk q.1)) (f := tcF x) rfl (fun c => touch_eq rfl rfl) (fun _ _ _ => rfl) a c).symm
    have h1 := hx a c k'
    show upd2 x.held q.1 r _ a (8 + c) = 16
    unfold upd2
    split
    · rename_i e
      have h2 := (hI.qt r q (by rw [hQ]; exact List.mem_cons_self)).2.2.2
      have h3 := h2.2 (by omega)
      rw [← e.1, ← e.2, h1] at h3
      omega
    · exact h1
  · refine hx a c ?_
    rw [← k]
    exact (tc_upd (s := x) (t := f.2.2) (T := anT (x.tk f.2.2)) (f := tcF x) rfl (fun c => touch_eq rfl rfl) (fun _ _ _ => rfl) a c).symm
theorem DL.step {o : Kern.Op} (hB : KB N s) (hi : INV s) (hv : VN s) (h : DL s) : DL (stepP s o).1 := by
  have key : ∀ {s' : KS} {c k : Int}, StepR s o s' c k → DL s' := by
    intro s' c k hR
    cases hR using StepR.elim with
    | refuse c h0' h1 h3 => exact h
    | mode hk m hm ha => exact h
    | born hk t hs =>
      intro a c k
      refine h a c ?_
      rw [← k]
      have hl : (s.tk t).live = false := by simpa using List.find?_some hs
      exact (tc_upd (s := s) (t := t) (T := bornT s t) rfl (fun c => (touch_n0 rfl).trans (touch_n0 (hv t hl)).symm) (fun _ _ _ => rfl) a c).symm
    | declare hk t r u hA hB hC hc hr hu hh => exact h
    | take hk t r u hA hB hC h' hcl W hW ha hat =>
      have h1 := DL.core (FL := []) (Core.wound (wound_lt hW)) hi h
      intro a c k
      have h2 := h1 a c k
      show upd2 (woundS s W).held t r _ a (8 + c) = 16
      unfold upd2
      split
      · rename_i e
        have h3 := ha.lk (by omega)
        rw [← e.1, ← e.2, h2] at h3
        omega
      · exact h2
    | pend hk t r u tim hA hB' hC ht0 htim h' hcl W hW hd' ha0 ha hat =>
      have h1 := DL.core (FL := []) (Core.wound (s := s) (W := W) (by rw [hW]; exact woundL_lt)) hi h
      intro a c k
      rw [enq_held]
      refine h1 a c ?_
      rw [← k]
      exact (tc_upd (s := woundS s W) (f := tcF (woundS s W)) enq_tk (fun c => touch_eq (by cases tim <;> rfl) (by cases tim <;> rfl)) (fun _ _ _ => rfl) a c).symm
    | die hk t r u hA hB hC h' hd' ha0 => exact DL.core (FL := []) ((Core.abort (.refl s) t h'.c.lt).trans .wake) hi h
    | release hk t r hA hB hc hr hn =>
      refine DL.core (FL := []) .wake (rel_INV hi hc hr hn) fun a c k => ?_
      have k : tcF s a c = true := k
      show upd2 s.held t r 0 a (8 + c) = 16
      unfold upd2
      split
      · rename_i e
        have := hn (by omega)
        rw [← e.2, ← e.1, show 8 + c - 8 = c by omega] at this
        unfold tcF at k
        rw [k] at this; cases this
      · exact h a c k
    | write hk t c hA hB hc hc12 hh hn =>
      intro a b k
      by_cases e : a = t ∧ b = c
      · rw [e.1, e.2]; exact hh
      · refine h a b ?_
        have k : touchesP (updN s.tk t (pushP (s.tk t) c (s.cells c)) a) b = true := k
        by_cases ea : a = t
        · rw [ea, updN_same, touch_push] at k
          have : (c == b) = false := by simpa using fun k => e ⟨ea, k.symm⟩
          rw [this, Bool.or_false] at k
          rw [ea]; exact k
        · rw [updN_ne ea] at k; exact k
    | commit hk t hA hc =>
      intro a b k
      have k : touchesP (updN s.tk t { s.tk t with n := 0 } a) b = true := k
      by_cases ea : a = t
      · rw [ea, updN_same, touch_n0 rfl] at k; cases k
      · rw [updN_ne ea] at k; exact h a b k
    | exit hk t hA hc =>
      refine DL.core (FL := []) .wake (exit_INV hi hc) fun a b k => ?_
      have k : touchesP (updN s.tk t { tk0 with epoch := inc64 (s.tk t).epoch } a) b = true := k
      by_cases ea : a = t
      · rw [ea, updN_same, touch_n0 rfl] at k; cases k
      · rw [updN_ne ea] at k
        show zapRow s.held t a (8 + b) = 16
        unfold zapRow
        rw [if_neg ea]
        exact h a b k
    | tick hk h16 => exact DL.core (Core.tick h16) (tick0_INV hi) h
    | detect hk v hv hv16 => exact DL.core (FL := []) ((Core.abort (.refl s) v hv16).trans .wake) hi h
  exact key (step_R hB hi)
theorem run_DL (op : Nat → Kern.Op) : ∀ i, DL (runP op i)
  | 0 => (fun _ _ k => by cases k)
  | i + 1 => DL.step (o := op i) (run_KI op i).b (run_INV op i) (run_VN op i) (run_DL op i)
end Go.Proofs.Qxb6500834aGreatDoor

