import Derived.Test.Qxb6500834aGreatDoorK37
set_option linter.unusedVariables false
set_option linter.unusedSimpArgs false
set_option maxRecDepth 20000
namespace Go.Proofs.Qxb6500834aGreatDoor
open Go.RowKit Go.E1 Go.Kern
variable {s s' : KS} {t r N n : Nat}

/-! Who waits is in one queue. -/
def cntP (queue : Nat → List (Nat × Nat)) (t : Nat) : Nat := sumP (fun r => (queue r).countP fun p => p.1 == t) 20
theorem cnt_pos {queue : Nat → List (Nat × Nat)} {p : Nat × Nat} (hr : r < 20) (hp : p ∈ queue r) : 1 ≤ cntP queue p.1 := by
  have h1 : 0 < (queue r).countP fun q => q.1 == p.1 := List.countP_pos_iff.2 ⟨p, hp, by simp⟩
  have h2 := sumP_ge (f := fun r => (queue r).countP fun q => q.1 == p.1) 20 hr
  unfold cntP
  have h3 : ((queue r).countP fun q => q.1 == p.1) ≤ sumP (fun r => (queue r).countP fun q => q.1 == p.1) 20 := h2
  omega
theorem cnt_upd {queue : Nat → List (Nat × Nat)} {Q : List (Nat × Nat)} (hr : r < 20) : cntP (updN queue r Q) t + (queue r).countP (fun p => p.1 == t) = cntP queue t + Q.countP fun p => p.1 == t := by
  have h := sumP_upd (f := fun a => (queue a).countP fun p => p.1 == t) (r := r) (v := Q.countP fun p => p.1 == t) 20 hr
  have e : cntP (updN queue r Q) t = sumP (updN (fun a => (queue a).countP fun p => p.1 == t) r (Q.countP fun p => p.1 == t)) 20 := by
    unfold cntP
    refine sumP_congr 20 fun a _ => ?_
    unfold updN
    split <;> rfl
  rw [e]
  exact h
theorem cnt_withdraw {queue : Nat → List (Nat × Nat)} {u : Nat} : cntP (withdrawP queue u) t = if t = u then 0 else cntP queue t := by
  unfold cntP withdrawP
  by_cases h : t = u
  · subst h
    rw [if_pos rfl, sumP_congr (g := fun _ => 0) 20 fun r _ => ?_]
    · rfl
    · rw [List.countP_filter]
      refine List.countP_eq_zero.2 fun p _ => ?_
      cases p.1 == t <;> simp
  · rw [if_neg h]
    refine sumP_congr 20 fun r _ => ?_
    rw [List.countP_filter]
    refine List.countP_congr fun p _ => ?_
    by_cases hp : p.1 = t
    · simp [hp, h]
    · simp [hp]
structure INV (s : KS) : Prop where
  q : ∀ t, t < 16 → cntP s.queue t = if (s.tk t).waiting then 1 else 0
  wl : ∀ t, (s.tk t).waiting = true → (s.tk t).live = true
  hl : ∀ t r, s.held t r ≠ 0 → (s.tk t).live = true
  cl : ∀ t r, s.claim t r ≠ 0 → (s.tk t).live = true
  su : ∀ r, sumP (fun t => s.held t r) 16 ≤ totP r
  lk : ∀ t r, 8 ≤ r → s.held t r = 0 ∨ s.held t r = 1 ∨ s.held t r = 16
  qt : ∀ r p, p ∈ s.queue r → r < 20 ∧ p.1 < 16 ∧ 1 ≤ p.2 ∧ s.held p.1 r + p.2 ≤ totP r ∧ (8 ≤ r → (p.2 = 1 ∨ p.2 = 16) ∧ s.held p.1 r = 0)
theorem INV.noQ (h : INV s) : ∀ t, t < 16 → (s.tk t).waiting = false → NoQ s t := fun t ht hw r p hr hp e => by
  have h1 := cnt_pos hr hp
  rw [e, h.q t ht, hw] at h1
  exact absurd h1 (by decide)
theorem INV.wait (h : INV s) {p : Nat × Nat} (hp : p ∈ s.queue r) : (s.tk p.1).waiting = true := by
  have hq := h.qt r p hp
  have h1 := cnt_pos hq.1 hp
  rw [h.q p.1 hq.2.1] at h1
  cases hw : (s.tk p.1).waiting with
  | true => rfl
  | false => rw [hw] at h1; exact absurd h1 (by decide)
theorem sum_zap {held : Nat → Nat → Nat} : sumP (fun a => zapRow held t a r) 16 ≤ sumP (fun a => held a r) 16 := sumP_mono (fun a => by unfold zapRow; split <;> omega) 16
theorem sum_upd2 {held : Nat → Nat → Nat} {b x : Nat} (ht : t < 16) : sumP (fun a => upd2 held t r x a b) 16 + (if b = r then held t r else 0) = sumP (fun a => held a b) 16 + (if b = r then x else 0) := by
  by_cases h : b = r
  · subst h
    rw [if_pos rfl, if_pos rfl]
    have : (fun a => upd2 held t b x a b) = updN (fun a => held a b) t x := by
      funext a; unfold upd2 updN; simp
    rw [this]
    exact sumP_upd (f := fun a => held a b) 16 ht
  · rw [if_neg h, if_neg h]
    have : (fun a => upd2 held t r x a b) = fun a => held a b := by
      funext a; unfold upd2; rw [if_neg (fun k => h k.2)]
    rw [this]
theorem answer_tk {u c : Nat} : (answerP s u c).tk = updN s.tk u { s.tk u with waiting := false, timer := 0, deadline := 0 } := rfl
/-- A task's wait ends, its request having left the queues. -/
theorem INV.answer {q' : Nat → List (Nat × Nat)} {held' : Nat → Nat → Nat} {u c : Nat} (h : INV s) (hq : ∀ t, t < 16 → cntP q' t = if t = u then 0 else cntP s.queue t)
    (hh : ∀ t r, held' t r ≠ 0 → (s.tk t).live = true) (hs : ∀ r, sumP (fun t => held' t r) 16 ≤ totP r) (hl : ∀ t r, 8 ≤ r → held' t r = 0 ∨ held' t r = 1 ∨ held' t r = 16)
    (ht : ∀ r p, p ∈ q' r → p ∈ s.queue r ∧ p.1 ≠ u) (hu : ∀ t r, t ≠ u → held' t r = s.held t r) : INV (answerP { s with queue := q', held := held' } u c) where
  q t ht := by
    show cntP q' t = if (updN s.tk u _ t).waiting then 1 else 0
    rw [hq t ht]
    unfold updN
    by_cases e : t = u
    · rw [if_pos e, if_pos e]; rfl
    · rw [if_neg e, if_neg e]; exact h.q t ht
  wl t := by
    show (updN s.tk u _ t).waiting = true → (updN s.tk u _ t).live = true
    unfold updN
    split
    · intro k; cases k
    · exact h.wl t
  hl t r k := by
    show (updN s.tk u _ t).live = true
    unfold updN
    split
    · rename_i e; rw [← e]; exact hh t r k
    · exact hh t r k
  cl t r k := by
    show (updN s.tk u _ t).live = true
    unfold updN
    split
    · rename_i e; rw [← e]; exact h.cl t r k
    · exact h.cl t r k
  su := hs
  lk := hl
  qt r p hp := by
    obtain ⟨h1, h2⟩ := ht r p hp
    have := h.qt r p h1
    show r < 20 ∧ p.1 < 16 ∧ 1 ≤ p.2 ∧ held' p.1 r + p.2 ≤ totP r ∧ (8 ≤ r → (p.2 = 1 ∨ p.2 = 16) ∧ held' p.1 r = 0)
    rw [hu p.1 r h2]
    exact this
theorem updTK {P : TK → Prop} {tk : Nat → TK} {T : TK} {a : Nat} (h : P (tk a)) (hT : a = t → P T) : P (updN tk t T a) := by
  unfold updN
  split
  · rename_i e; exact hT e
  · exact h
/-- A task's row turned, its being alive and waiting as they were. -/
theorem INV.tk {T : TK} {cells' : Nat → Nat} (h : INV s) (hl : T.live = (s.tk t).live) (hw : T.waiting = (s.tk t).waiting) : INV { s with tk := updN s.tk t T, cells := cells' } where
  q a ha := by
    show cntP s.queue a = if (updN s.tk t T a).waiting then 1 else 0
    rw [h.q a ha]
    unfold updN
    by_cases e : a = t
    · rw [if_pos e, hw, e]
    · rw [if_neg e]
  wl a := by
    show (updN s.tk t T a).waiting = true → (updN s.tk t T a).live = true
    unfold updN
    split
    · rw [hw, hl]; exact h.wl t
    · exact h.wl a
  hl a r k := by
    show (updN s.tk t T a).live = true
    exact updTK (P := fun T => T.live = true) (h.hl a r k) fun e => by rw [hl, ← e]; exact h.hl a r k
  cl a r k := by
    show (updN s.tk t T a).live = true
    exact updTK (P := fun T => T.live = true) (h.cl a r k) fun e => by rw [hl, ← e]; exact h.cl a r k
  su := h.su
  lk := h.lk
  qt := h.qt
theorem INV.abort (h : INV s) : INV (abortP s t) := by
  have h1 : INV { s with tk := updN s.tk t { s.tk t with n := 0 }, cells := rollC (s.tk t).ec (s.tk t).eo (s.tk t).n s.cells } := h.tk rfl rfl
  have h2 : INV (answerP (abort1 s t) t 3) := by
    refine INV.answer (q' := withdrawP s.queue t) (held' := zapRow s.held t) (u := t) (c := 3) h1 (fun a ha => cnt_withdraw) (fun a r k => ?_) (fun r => Nat.le_trans sum_zap (h.su r)) (fun a r h8 => ?_) (fun r p hp => ?_) fun a r ha => ?_
    · refine h1.hl a r ?_
      unfold zapRow at k
      split at k
      · exact absurd rfl k
      · exact k
    · unfold zapRow
      split
      · exact .inl rfl
      · exact h.lk a r h8
    · have := List.mem_filter.1 hp
      exact ⟨this.1, by simpa using this.2⟩
    · show zapRow s.held t a r = s.held a r
      unfold zapRow
      rw [if_neg ha]
  exact h2.tk rfl rfl
theorem INV.grant {q : Nat × Nat} {Q : List (Nat × Nat)} (h : INV s) (hr : r < 20) (hQ : s.queue r = q :: Q) (ha : admissibleP s q.1 r q.2 = true) : INV (answerP (grantS s r q Q) q.1 0) := by
  have hm : q ∈ s.queue r := by rw [hQ]; exact List.mem_cons_self
  have hq := h.qt r q hm
  have hw := h.wait hm
  have hfree : (q.2 : Int) ≤ freeP s.held r := by
    unfold admissibleP at ha
    by_cases h1 : freeP s.held r < q.2
    · rw [if_pos h1] at ha; cases ha
    · omega
  have hcq : ∀ a, cntP (updN s.queue r Q) a = if a = q.1 then cntP s.queue a - 1 else cntP s.queue a := fun a => by
    have := cnt_upd (queue := s.queue) (Q := Q) (t := a) hr
    rw [hQ, List.countP_cons] at this
    by_cases e : a = q.1
    · rw [if_pos e]; simp [e] at this ⊢; omega
    · rw [if_neg e]
      have e2 : (q.1 == a) = false := by simpa using fun h => e h.symm
      simp [e2] at this; omega
  have hc1 : cntP s.queue q.1 = 1 := by rw [h.q q.1 hq.2.1, hw]; rfl
  have hn0 : cntP (updN s.queue r Q) q.1 = 0 := by rw [hcq, if_pos rfl, hc1]
  refine INV.answer (q' := updN s.queue r Q) (held' := upd2 s.held q.1 r (s.held q.1 r + q.2)) h (fun a _ => ?_) (fun a b k => ?_) (fun b => ?_) (fun a b h8 => ?_) (fun b p hp => ?_) fun a b ha => ?_
  · rw [hcq]
    by_cases e : a = q.1
    · rw [if_pos e, if_pos e, e, hc1]
    · rw [if_neg e, if_neg e]
  · unfold upd2 at k
    split at k
    · rename_i e; rw [e.1]; exact h.wl _ hw
    · exact h.hl a b k
  · have h1 := sum_upd2 (held := s.held) (t := q.1) (r := r) (b := b) (x := s.held q.1 r + q.2) hq.2.1
    have h2 := h.su b
    by_cases e : b = r
    · subst e
      rw [if_pos rfl, if_pos rfl] at h1
      unfold freeP at hfree
      omega
    · rw [if_neg e, if_neg e] at h1
      omega
  · unfold upd2
    split
    · rename_i e
      rw [e.2] at h8
      have := hq.2.2.2.2 h8
      omega
    · exact h.lk a b h8
  · have hp2 : p ∈ s.queue b := by
      unfold updN at hp
      split at hp
      · rename_i e; rw [e, hQ]; exact List.mem_cons_of_mem _ hp
      · exact hp
    refine ⟨hp2, fun e => ?_⟩
    have h1 := cnt_pos (queue := updN s.queue r Q) (h.qt b p hp2).1 hp
    rw [e, hn0] at h1
    exact absurd h1 (by decide)
  · show upd2 s.held q.1 r _ a b = _
    unfold upd2
    rw [if_neg (fun k => ha k.1)]
theorem INV.held {held' : Nat → Nat → Nat} (h : INV s) (hh : ∀ t r, held' t r ≠ 0 → (s.tk t).live = true) (hs : ∀ r, sumP (fun t => held' t r) 16 ≤ totP r) (hl : ∀ t r, 8 ≤ r → held' t r = 0 ∨ held' t r = 1 ∨ held' t r = 16) (hu : ∀ t r, (s.tk t).waiting = true → held' t r = s.held t r) : INV { s with held := held' } :=
  ⟨h.q, h.wl, hh, h.cl, hs, hl, fun r p hp => by
    have := h.qt r p hp
    show r < 20 ∧ p.1 < 16 ∧ 1 ≤ p.2 ∧ held' p.1 r + p.2 ≤ totP r ∧ (8 ≤ r → (p.2 = 1 ∨ p.2 = 16) ∧ held' p.1 r = 0)
    rw [hu p.1 r (h.wait hp)]
    exact this⟩
theorem INV.arm {armed' : Nat} {timers' : List (Nat × Nat × Nat)} (h : INV s) : INV { s with armed := armed', timers := timers' } := ⟨h.q, h.wl, h.hl, h.cl, h.su, h.lk, h.qt⟩
theorem INV.step : Tr s s' → INV s → INV s' := by
  intro hT h
  cases hT using Tr.elim with
  | abort t ht => exact h.abort
  | grant r q Q hr hQ ha => exact h.grant hr hQ ha
  | take t r u hA ha =>
    have hfree : (u : Int) ≤ freeP s.held r := by
      unfold atOnceP admissibleP at ha
      rw [Bool.and_eq_true] at ha
      by_cases h1 : freeP s.held r < u
      · rw [if_pos h1] at ha; exact absurd ha.2 (by decide)
      · omega
    refine h.held (fun a b k => ?_) (fun b => ?_) (fun a b h8 => ?_) fun a b hw => ?_
    · unfold upd2 at k
      split at k
      · rename_i e; rw [e.1]; exact hA.c.live
      · exact h.hl a b k
    · have h1 := sum_upd2 (held := s.held) (t := t) (r := r) (b := b) (x := s.held t r + u) hA.c.lt
      have h2 := h.su b
      by_cases e : b = r
      · subst e
        rw [if_pos rfl, if_pos rfl] at h1
        unfold freeP at hfree
        omega
      · rw [if_neg e, if_neg e] at h1
        omega
    · unfold upd2
      split
      · rename_i e
        rw [e.2] at h8
        have := hA.lk h8
        omega
      · exact h.lk a b h8
    · unfold upd2
      rw [if_neg (fun e => by rw [e.1, hA.c.wait] at hw; cases hw)]
  | enq t r u tim hA =>
    have h1 : INV (enq1 s t r u) := by
      have hc0 : cntP s.queue t = 0 := by rw [h.q t hA.c.lt, hA.c.wait]; rfl
      have hcq : ∀ a, cntP (updN s.queue r (s.queue r ++ [(t, u)])) a = if a = t then 1 else cntP s.queue a := fun a => by
        have := cnt_upd (queue := s.queue) (Q := s.queue r ++ [(t, u)]) (t := a) hA.hr
        rw [List.countP_append, List.countP_cons, List.countP_nil] at this
        by_cases e : a = t
        · subst e; rw [if_pos rfl]; simp at this; omega
        · rw [if_neg e]
          have e2 : (t == a) = false := by simpa using fun h => e h.symm
          simp [e2] at this; omega
      refine ⟨fun a ha => ?_, fun a => ?_, fun a b k => ?_, fun a b k => ?_, h.su, h.lk, fun b p hp => ?_⟩
      · show cntP (updN s.queue r (s.queue r ++ [(t, u)])) a = if (updN s.tk t _ a).waiting then 1 else 0
        rw [hcq]
        unfold updN
        by_cases e : a = t
        · rw [if_pos e, if_pos e]; rfl
        · rw [if_neg e, if_neg e]; exact h.q a ha
      · show (updN s.tk t _ a).waiting = true → (updN s.tk t _ a).live = true
        unfold updN
        split
        · intro _; exact hA.c.live
        · exact h.wl a
      · exact updTK (P := fun T => T.live = true) (h.hl a b k) fun e => by rw [e] at k; exact h.hl t b k
      · exact updTK (P := fun T => T.live = true) (h.cl a b k) fun e => by rw [e] at k; exact h.cl t b k
      · have hp : p ∈ updN s.queue r (s.queue r ++ [(t, u)]) b := hp
        unfold updN at hp
        split at hp
        · rename_i e
          subst e
          rcases List.mem_append.1 hp with hp | hp
          · exact h.qt b p hp
          · obtain rfl : p = (t, u) := by simpa using hp
            exact ⟨hA.hr, hA.c.lt, hA.hu, hA.room, hA.lk⟩
        · exact h.qt b p hp
    cases tim with
    | none => exact h1
    | some k => exact (h1.tk (t := t) (T := { (enq1 s t r u).tk t with timer := s.armed + 1, deadline := deadP s.now k }) (cells' := s.cells) rfl rfl).arm
  | mode m hm => exact ⟨h.q, h.wl, h.hl, h.cl, h.su, h.lk, h.qt⟩
  | born t ht =>
    have hsl := List.find?_some ht
    have hl : (s.tk t).live = false := by simpa using hsl
    have hw : (s.tk t).waiting = false := by
      cases hx : (s.tk t).waiting with
      | false => rfl
      | true => rw [h.wl t hx] at hl; cases hl
    refine ⟨fun a ha => ?_, fun a => ?_, fun a b k => ?_, fun a b k => ?_, h.su, h.lk, h.qt⟩
    · show cntP s.queue a = if (updN s.tk t _ a).waiting then 1 else 0
      rw [h.q a ha]
      unfold updN
      by_cases e : a = t
      · rw [if_pos e, e, hw]; rfl
      · rw [if_neg e]
    · show (updN s.tk t _ a).waiting = true → (updN s.tk t _ a).live = true
      unfold updN
      split
      · intro k; cases k
      · exact h.wl a
    · exact updTK (P := fun T => T.live = true) (h.hl a b k) fun e => rfl
    · exact updTK (P := fun T => T.live = true) (h.cl a b k) fun e => rfl
  | declare t r u hc hr hu hh =>
    refine ⟨h.q, h.wl, h.hl, fun a b k => ?_, h.su, h.lk, h.qt⟩
    have k : upd2 s.claim t r u a b ≠ 0 := k
    unfold upd2 at k
    split at k
    · rename_i e; show (s.tk a).live = true; rw [e.1]; exact hc.live
    · exact h.cl a b k
  | release t r hc hr hn =>
    refine h.held (fun a b k => ?_) (fun b => ?_) (fun a b h8 => ?_) fun a b hw => ?_
    · unfold upd2 at k
      split at k
      · exact absurd rfl k
      · exact h.hl a b k
    · have h1 := sum_upd2 (held := s.held) (t := t) (r := r) (b := b) (x := 0) hc.lt
      have h2 := h.su b
      split at h1 <;> omega
    · unfold upd2
      split
      · exact .inl rfl
      · exact h.lk a b h8
    · unfold upd2
      rw [if_neg (fun e => by rw [e.1, hc.wait] at hw; cases hw)]
  | write t c x hc hcc hh hn => exact h.tk rfl rfl
  | commit t hc => exact h.tk (cells' := s.cells) rfl rfl
  | exit t hc =>
    refine ⟨fun a ha => ?_, fun a => ?_, fun a b k => ?_, fun a b k => ?_, fun b => Nat.le_trans sum_zap (h.su b), fun a b h8 => ?_, fun b p hp => ?_⟩
    · show cntP s.queue a = if (updN s.tk t _ a).waiting then 1 else 0
      rw [h.q a ha]
      unfold updN
      by_cases e : a = t
      · rw [if_pos e, e, hc.wait]; rfl
      · rw [if_neg e]
    · show (updN s.tk t _ a).waiting = true → (updN s.tk t _ a).live = true
      unfold updN
      split
      · intro k; cases k
      · exact h.wl a
    · have k : zapRow s.held t a b ≠ 0 := k
      unfold zapRow at k
      split at k
      · exact absurd rfl k
      · rename_i e
        show (updN s.tk t _ a).live = true
        rw [updN_ne e]; exact h.hl a b k
    · have k : zapRow s.claim t a b ≠ 0 := k
      unfold zapRow at k
      split at k
      · exact absurd rfl k
      · rename_i e
        show (updN s.tk t _ a).live = true
        rw [updN_ne e]; exact h.cl a b k
    · show zapRow s.held t a b = 0 ∨ zapRow s.held t a b = 1 ∨ zapRow s.held t a b = 16
      unfold zapRow
      split
      · exact .inl rfl
      · exact h.lk a b h8
    · have h1 := h.qt b p hp
      have hne : p.1 ≠ t := fun e => by have := h.wait hp; rw [e, hc.wait] at this; cases this
      show b < 20 ∧ p.1 < 16 ∧ 1 ≤ p.2 ∧ zapRow s.held t p.1 b + p.2 ≤ totP b ∧ (8 ≤ b → (p.2 = 1 ∨ p.2 = 16) ∧ zapRow s.held t p.1 b = 0)
      unfold zapRow
      rw [if_neg hne]
      exact h1
  | tick0 => exact ⟨h.q, h.wl, h.hl, h.cl, h.su, h.lk, h.qt⟩
  | timeout t ht hw =>
    refine INV.answer (q' := withdrawP s.queue t) (held' := s.held) h (fun a _ => cnt_withdraw) h.hl h.su h.lk (fun r p hp => ?_) fun _ _ _ => rfl
    have := List.mem_filter.1 hp
    exact ⟨this.1, by simpa using this.2⟩
theorem INV.init : INV ks0 := ⟨fun t _ => by show cntP (fun _ => []) t = 0; exact (sumP_congr (g := fun _ => 0) 20 fun r _ => rfl).trans rfl, (fun t h => by cases h), (fun t r h => absurd rfl h), (fun t r h => absurd rfl h), fun r => by show sumP (fun _ => 0) 16 ≤ _; exact Nat.zero_le _, fun t r _ => .inl rfl, fun r p hp => by cases hp⟩
theorem run_INV (op : Nat → Kern.Op) : ∀ i, INV (runP op i)
  | 0 => INV.init
  | i + 1 => by
    have h := run_INV op i
    have h2 := (step_trs (o := op i) (run_KI op i).b h.noQ).inv (fun _ _ => INV.step) h
    exact ⟨h2.q, h2.wl, h2.hl, h2.cl, h2.su, h2.lk, h2.qt⟩
end Go.Proofs.Qxb6500834aGreatDoor

