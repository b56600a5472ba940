import Derived.Test.Qxb6500834aGreatDoorK21
set_option linter.unusedVariables false
set_option linter.unusedSimpArgs false
set_option maxRecDepth 20000
namespace Go.Proofs.Qxb6500834aGreatDoor
open Go.RowKit Go.E1 Go.Kern
variable {w0 : World} {L L' l I J K K' X Y : List HI} {w : World} {s : KS} {B : KA} {t r N : Nat}

/-! What the kernel's data keep to, at every moment. -/
def qsum (queue : Nat → List (Nat × Nat)) : Nat := sumP (fun r => (queue r).length) 20
structure KB (N : Nat) (s : KS) : Prop where
  held : ∀ t r, s.held t r ≤ 16
  claim : ∀ t r, s.claim t r ≤ 16
  qt : ∀ r p, p ∈ s.queue r → p.1 < 16 ∧ p.2 ≤ 16
  n : ∀ t, (s.tk t).n ≤ 64
  ec : ∀ t i, (s.tk t).ec i < 12
  tt : ∀ p, p ∈ s.timers → p.2.2 < 16
  td : s.timers.Pairwise fun a b => a.1 < b.1
  ta : ∀ p, p ∈ s.timers → p.1 ≤ s.armed
  tn : s.timers.length ≤ s.armed
  nn : qsum s.queue + s.told.length ≤ N
theorem sumP_congr {f g : Nat → Nat} : ∀ n, (∀ i, i < n → f i = g i) → sumP f n = sumP g n
  | 0, _ => rfl
  | n + 1, h => by show sumP f n + f n = sumP g n + g n; rw [sumP_congr n fun i hi => h i (by omega), h n (by omega)]
theorem sumP_mono {f g : Nat → Nat} (h : ∀ i, f i ≤ g i) : ∀ n, sumP f n ≤ sumP g n
  | 0 => Nat.le_refl _
  | n + 1 => by have := sumP_mono h n; have := h n; show sumP f n + f n ≤ sumP g n + g n; omega
theorem sumP_upd {f : Nat → Nat} {r v : Nat} : ∀ n, r < n → sumP (updN f r v) n + f r = sumP f n + v
  | 0, h => absurd h (Nat.not_lt_zero _)
  | n + 1, h => by
    show sumP (updN f r v) n + updN f r v n + f r = sumP f n + f n + v
    by_cases hr : r = n
    · subst hr
      rw [updN_same, sumP_congr (f := updN f r v) (g := f) r fun i hi => updN_ne (by omega)]; omega
    · rw [updN_ne (fun e => hr e.symm)]
      have := sumP_upd (f := f) (r := r) (v := v) n (by omega)
      omega
theorem qsum_upd {queue : Nat → List (Nat × Nat)} {Q : List (Nat × Nat)} (hr : r < 20) : qsum (updN queue r Q) + (queue r).length = qsum queue + Q.length := by
  unfold qsum
  have : (fun a => (updN queue r Q a).length) = updN (fun a => (queue a).length) r Q.length := by
    funext a; unfold updN; split <;> rfl
  rw [this]
  exact sumP_upd (f := fun a => (queue a).length) 20 hr
theorem q_len_le {queue : Nat → List (Nat × Nat)} (hr : r < 20) : (queue r).length ≤ qsum queue := sumP_ge (f := fun r => (queue r).length) 20 hr
theorem qsum_withdraw {queue : Nat → List (Nat × Nat)} : qsum (withdrawP queue t) ≤ qsum queue := sumP_mono (fun r => List.length_filter_le _ _) 20
theorem updTK_n {tk : Nat → TK} {T : TK} {b : Nat} (h : ∀ t, (tk t).n ≤ b) (hT : T.n ≤ b) : ∀ a, (updN tk t T a).n ≤ b := fun a => by unfold updN; split; exact hT; exact h a
theorem updTK_ec {tk : Nat → TK} {T : TK} (h : ∀ t i, (tk t).ec i < 12) (hT : ∀ i, T.ec i < 12) : ∀ a i, (updN tk t T a).ec i < 12 := fun a i => by unfold updN; split; exact hT i; exact h a i
theorem KB.answer {code : Nat} (h : KB N s) : KB (N + 1) (answerP s t code) where
  held := h.held
  claim := h.claim
  qt := h.qt
  n := updTK_n h.n (h.n t)
  ec := updTK_ec h.ec (h.ec t)
  tt p hp := by
    unfold answerP cancelP at hp; dsimp only at hp; split at hp
    · exact h.tt p hp
    · exact h.tt p (List.mem_filter.1 hp).1
  td := by
    unfold answerP cancelP; dsimp only; split
    · exact h.td
    · exact h.td.filter _
  ta p hp := by
    unfold answerP cancelP at hp; dsimp only at hp; split at hp
    · exact h.ta p hp
    · exact h.ta p (List.mem_filter.1 hp).1
  tn := by
    have h1 := h.tn
    unfold answerP cancelP; dsimp only; split
    · exact h1
    · have := List.length_filter_le (fun p => !(p.1 == (s.tk t).timer)) s.timers; omega
  nn := by
    have := h.nn
    show qsum s.queue + (s.told ++ [(t, (s.tk t).epoch, code)]).length ≤ N + 1
    rw [List.length_append]
    show qsum s.queue + (s.told.length + 1) ≤ N + 1
    omega
theorem zapRow_le {held : Nat → Nat → Nat} (h : ∀ t r, held t r ≤ 16) : ∀ a b, zapRow held t a b ≤ 16 := fun a b => by unfold zapRow; split; omega; exact h a b
theorem KB.abort1 (h : KB N s) : KB N (abort1 s t) where
  held := zapRow_le h.held
  claim := h.claim
  qt r p hp := h.qt r p (List.mem_filter.1 hp).1
  n := updTK_n h.n (Nat.zero_le _)
  ec := updTK_ec h.ec (h.ec t)
  tt := h.tt
  td := h.td
  ta := h.ta
  tn := h.tn
  nn := by have := h.nn; have := qsum_withdraw (queue := s.queue) (t := t); show qsum (withdrawP s.queue t) + s.told.length ≤ N; omega
theorem KB.bump (h : KB N s) : KB N (bumpP s t) where
  held := h.held
  claim := h.claim
  qt := h.qt
  n := updTK_n h.n (h.n t)
  ec := updTK_ec h.ec (h.ec t)
  tt := h.tt
  td := h.td
  ta := h.ta
  tn := h.tn
  nn := h.nn
theorem KB.abort (h : KB N s) : KB (N + 1) (abortP s t) := h.abort1.answer.bump
theorem KB.mono {M : Nat} (h : KB N s) (hM : N ≤ M) : KB M s := ⟨h.held, h.claim, h.qt, h.n, h.ec, h.tt, h.td, h.ta, h.tn, Nat.le_trans h.nn hM⟩
def grantS (s : KS) (r : Nat) (q : Nat × Nat) (Q : List (Nat × Nat)) : KS := { s with held := upd2 s.held q.1 r (s.held q.1 r + q.2), queue := updN s.queue r Q }
theorem upd2_le {held : Nat → Nat → Nat} {x : Nat} (h : ∀ t r, held t r ≤ 16) (hx : x ≤ 16) : ∀ a b, upd2 held t r x a b ≤ 16 := fun a b => by unfold upd2; split; exact hx; exact h a b
theorem KB.grantHead {q : Nat × Nat} {Q : List (Nat × Nat)} (h : KB N s) (hr : r < 20) (hQ : s.queue r = q :: Q) (ha : admissibleP s q.1 r q.2 = true) : KB N (answerP (grantS s r q Q) q.1 0) := by
  have hq := h.qt r q (by rw [hQ]; exact List.mem_cons_self)
  have hroom := admissible_room hq.1 ha
  have htp := totP_le r
  have hnn := h.nn
  have hqs := qsum_upd (queue := s.queue) (Q := Q) hr
  rw [hQ, List.length_cons] at hqs
  have h' : KB (N - 1) (grantS s r q Q) := {
    held := upd2_le h.held (by omega)
    claim := h.claim
    qt := fun a p hp => by
      unfold grantS updN at hp
      dsimp only at hp
      split at hp
      · exact h.qt r p (by rw [hQ]; exact List.mem_cons_of_mem _ hp)
      · exact h.qt a p hp
    n := h.n
    ec := h.ec
    tt := h.tt
    td := h.td
    ta := h.ta
    tn := h.tn
    nn := by show qsum (updN s.queue r Q) + s.told.length ≤ N - 1; omega }
  have := h'.answer (t := q.1) (code := 0)
  rw [show N - 1 + 1 = N by omega] at this
  exact this
/-! Waking. -/
def wakeR : Nat → KS → Nat → KS × Bool
  | 0, s, _ => (s, false)
  | n + 1, s, r => match s.queue r with
    | [] => (s, false)
    | q :: Q => if admissibleP s q.1 r q.2 then ((wakeR n (answerP (grantS s r q Q) q.1 0) r).1, true) else (s, false)
def wakeQ (s : KS) (r : Nat) : KS × Bool := wakeR (s.queue r).length s r
def passN (s : KS) : Nat → KS × Bool
  | 0 => (s, false)
  | r + 1 => ((wakeQ (passN s r).1 r).1, (passN s r).2 || (wakeQ (passN s r).1 r).2)
def wakeO : Nat → KS → KS
  | 0, s => s
  | k + 1, s => if (passN s 20).2 then wakeO k (passN s 20).1 else (passN s 20).1
def wakeP (s : KS) : KS := wakeO (qsum s.queue + 1) s
theorem wakeR_kb (hr : r < 20) : ∀ (n : Nat) {s : KS}, KB N s → KB N (wakeR n s r).1 ∧ qsum (wakeR n s r).1.queue + (if (wakeR n s r).2 then 1 else 0) ≤ qsum s.queue
  | 0, s, h => ⟨h, Nat.le_refl _⟩
  | n + 1, s, h => by
    unfold wakeR
    split
    · exact ⟨h, Nat.le_refl _⟩
    · rename_i q Q hQ
      split
      · rename_i ha
        have h1 := h.grantHead hr hQ ha
        have h2 := wakeR_kb hr n h1
        refine ⟨h2.1, ?_⟩
        have hqs := qsum_upd (queue := s.queue) (Q := Q) hr
        rw [hQ, List.length_cons] at hqs
        have h3 : qsum (wakeR n (answerP (grantS s r q Q) q.1 0) r).1.queue ≤ qsum (updN s.queue r Q) := Nat.le_trans (Nat.le_add_right _ _) h2.2
        show qsum (wakeR n (answerP (grantS s r q Q) q.1 0) r).1.queue + 1 ≤ _
        omega
      · exact ⟨h, Nat.le_refl _⟩
theorem passN_kb (h : KB N s) : ∀ r, r ≤ 20 → KB N (passN s r).1 ∧ qsum (passN s r).1.queue + (if (passN s r).2 then 1 else 0) ≤ qsum s.queue
  | 0, _ => ⟨h, Nat.le_refl _⟩
  | r + 1, hr => by
    obtain ⟨h1, h2⟩ := passN_kb h r (by omega)
    obtain ⟨h3, h4⟩ := wakeR_kb (r := r) (by omega) ((passN s r).1.queue r).length h1
    refine ⟨h3, ?_⟩
    show qsum (wakeQ (passN s r).1 r).1.queue + (if ((passN s r).2 || (wakeQ (passN s r).1 r).2) then 1 else 0) ≤ _
    have h4 : qsum (wakeQ (passN s r).1 r).1.queue + (if (wakeQ (passN s r).1 r).2 then 1 else 0) ≤ qsum (passN s r).1.queue := h4
    revert h2 h4
    cases (passN s r).2 <;> cases (wakeQ (passN s r).1 r).2 <;> simp <;> intro a b <;> omega
theorem wakeO_kb : ∀ (k : Nat) {s : KS}, KB N s → KB N (wakeO k s)
  | 0, s, h => h
  | k + 1, s, h => by
    unfold wakeO
    split
    · exact wakeO_kb k (passN_kb h 20 (Nat.le_refl _)).1
    · exact (passN_kb h 20 (Nat.le_refl _)).1
theorem KB.wake (h : KB N s) : KB N (wakeP s) := wakeO_kb _ h
end Go.Proofs.Qxb6500834aGreatDoor

