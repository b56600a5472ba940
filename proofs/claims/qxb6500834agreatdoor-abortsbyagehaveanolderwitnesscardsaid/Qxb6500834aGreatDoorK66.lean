import Derived.Test.Qxb6500834aGreatDoorK63
set_option linter.unusedVariables false
set_option linter.unusedSimpArgs false
set_option maxRecDepth 20000
namespace Go.Proofs.Qxb6500834aGreatDoor
open Go.RowKit Go.E1 Go.Kern
variable {w0 : World} {l X : List HI} {w : World} {s s' s0 : KS} {t r N n : Nat} {qv qv' : Nat → Value}
variable {held claim : Nat → Nat → Nat} {a b : Nat → Bool} {φ ψ : (Nat → Bool) → Nat → Prop}

/-! Orders of completion. -/
def Sub16 (a b : Nat → Bool) : Prop := ∀ t, t < 16 → a t = true → b t = true
def Mono (φ : (Nat → Bool) → Nat → Prop) : Prop := ∀ a b t, Sub16 a b → φ a t → φ b t
def CanB (φ : (Nat → Bool) → Nat → Prop) (i0 : (Nat → Bool)) : Prop := ∀ R : (Nat → Bool) → Prop, (∀ (a : Nat → Bool) (h : ∀ t, t < 16 → a t = true), R a) → (∀ (a : Nat → Bool) (t : Nat) (ht : t < 16) (hf : a t = false) (hp : φ a t) (h : R (updN a t true)), R a) → R i0
theorem CanB.all {φ : (Nat → Bool) → Nat → Prop} {a : Nat → Bool} (h : ∀ t, t < 16 → a t = true) : CanB φ a := fun R z0 z1 => z0 a h
theorem CanB.step {φ : (Nat → Bool) → Nat → Prop} {a : Nat → Bool} (t : Nat) (ht : t < 16) (hf : a t = false) (hp : φ a t) (h : CanB φ (updN a t true)) : CanB φ a := fun R z0 z1 => z1 a t ht hf hp (h R z0 z1)
theorem CanB.elim {φ : (Nat → Bool) → Nat → Prop} {motive : ∀ (i0 : (Nat → Bool)), CanB φ i0 → Prop} (all : ∀ {a : Nat → Bool} (h : ∀ t, t < 16 → a t = true), motive a (CanB.all h)) (step : ∀ {a : Nat → Bool} (t : Nat) (ht : t < 16) (hf : a t = false) (hp : φ a t) (h : CanB φ (updN a t true)) (ih_h : motive (updN a t true) h), motive a (CanB.step t ht hf hp h)) {i0 : (Nat → Bool)} (h : CanB φ i0) : motive i0 h := by
  obtain ⟨_, k⟩ := h (fun i0 => ∃ g : CanB φ i0, motive i0 g) (fun a h => ⟨CanB.all h, all h⟩) (fun a t ht hf hp ⟨h, m_h⟩ => ⟨CanB.step t ht hf hp h, step t ht hf hp h m_h⟩)
  exact k
theorem sub_upd {t : Nat} : Sub16 a (updN a t true) := fun u _ h => by
  unfold updN
  split
  · rfl
  · exact h
theorem sub_both {t : Nat} (h : Sub16 a b) : Sub16 (updN a t true) (updN b t true) := fun u hu k => by
  unfold updN at k ⊢
  split
  · rfl
  · rename_i e; rw [if_neg e] at k; exact h u hu k
theorem sub_of {t : Nat} (h : Sub16 a b) (ht : b t = true) : Sub16 (updN a t true) b := fun u hu k => by
  unfold updN at k
  split at k
  · rename_i e; rw [e]; exact ht
  · exact h u hu k
theorem CanB.mono (hm : Mono φ) (h : CanB φ a) : ∀ b, Sub16 a b → CanB φ b := by
  induction h using CanB.elim with
  | all h => exact fun b hs => .all fun t ht => hs t ht (h t ht)
  | step t ht hf hp h ih =>
    intro b hs
    cases hb : b t with
    | true => exact ih b (sub_of hs hb)
    | false => exact .step t ht hb (hm _ _ t hs hp) (ih _ (sub_both hs))
theorem CanB.fits (hm : Mono φ) (ht : t < 16) (hf : a t = false) (hp : φ a t) : CanB φ a ↔ CanB φ (updN a t true) := ⟨fun h => h.mono hm _ sub_upd, fun h => .step t ht hf hp h⟩
theorem CanB.closed (hc : ∀ t, t < 16 → a t = false → ¬ φ a t) (hn : ∃ t, t < 16 ∧ a t = false) : ¬ CanB φ a := by
  intro h
  cases h using CanB.elim with
  | all h => obtain ⟨t, ht, e⟩ := hn; rw [h t ht] at e; cases e
  | step t ht hf hp h ih => exact hc t ht hf hp
/-- The fits at one set are the fits at another, of those that are not in it. -/
theorem CanB.turn (P : (Nat → Bool) → (Nat → Bool) → Prop) (hP : ∀ a b t, P a b → t < 16 → a t = false → φ a t → b t = false ∧ ψ b t ∧ P (updN a t true) (updN b t true)) (hA : ∀ a b, P a b → (∀ t, t < 16 → a t = true) → CanB ψ b) (h : CanB φ a) : ∀ b, P a b → CanB ψ b := by
  induction h using CanB.elim with
  | all h => exact fun b hb => hA _ b hb h
  | step t ht hf hp h ih =>
    intro b hb
    obtain ⟨h1, h2, h3⟩ := hP _ b t hb ht hf hp
    exact .step t ht h1 h2 (ih _ h3)
/-! Free units. -/
def fuB (held : Nat → Nat → Nat) (r : Nat) (a : Nat → Bool) : Int := (totP r : Int) - (sumP (fun t => if a t then 0 else held t r) 16 : Nat)
theorem sumP_le_lt {f g : Nat → Nat} : ∀ n, (∀ i, i < n → f i ≤ g i) → sumP f n ≤ sumP g n
  | 0, _ => Nat.le_refl _
  | n + 1, h => Nat.add_le_add (sumP_le_lt n fun i hi => h i (by omega)) (h n (by omega))
theorem fuB_mono (h : Sub16 a b) : fuB held r a ≤ fuB held r b := by
  unfold fuB
  have := sumP_le_lt (f := fun t => if b t then 0 else held t r) (g := fun t => if a t then 0 else held t r) 16 fun i hi => by
    cases ha : a i with
    | true => rw [h i hi ha]; simp
    | false => cases b i <;> simp
  omega
theorem fuB_none : fuB held r (fun _ => false) = freeP held r := rfl
theorem fuB_upd (ht : t < 16) (hf : a t = false) : fuB held r (updN a t true) = fuB held r a + held t r := by
  unfold fuB
  have e : (fun u => if updN a t true u then 0 else held u r) = updN (fun u => if a u then 0 else held u r) t 0 := by
    funext u; unfold updN; split <;> simp
  rw [e]
  have := sumP_upd (f := fun u => if a u then 0 else held u r) (r := t) (v := 0) 16 ht
  rw [hf] at this
  simp at this
  omega
theorem fuB_le : fuB held r a ≤ totP r := by unfold fuB; omega
theorem fuB_ge (h : sumP (fun t => held t r) 16 ≤ totP r) : 0 ≤ fuB held r a := by
  have := sumP_le_lt (f := fun t => if a t then 0 else held t r) (g := fun t => held t r) 16 fun i hi => by cases a i <;> simp
  unfold fuB
  omega
def fitC (claim held : Nat → Nat → Nat) (a : Nat → Bool) (t : Nat) : Prop := ∀ r, r < 20 → (claim t r : Int) - held t r ≤ fuB held r a
theorem fitC_mono : Mono (fitC claim held) := fun a b t h k r hr => Int.le_trans (k r hr) (fuB_mono h)
abbrev Sf (claim held : Nat → Nat → Nat) : Prop := CanB (fitC claim held) fun _ => false
/-! The banker's question, plainly. -/
def unN (a : Nat → Bool) : Nat := sumP (fun t => if a t then 0 else 1) 16
theorem unN_upd (ht : t < 16) (hf : a t = false) : unN (updN a t true) + 1 = unN a := by
  unfold unN
  have e : (fun u => if updN a t true u then 0 else 1) = updN (fun u => if a u then 0 else 1) t 0 := by
    funext u; unfold updN; split <;> simp
  rw [e]
  have := sumP_upd (f := fun u => if a u then 0 else 1) (r := t) (v := 0) 16 ht
  rw [hf] at this
  simpa using this
theorem unN_zero (h : unN a = 0) : ∀ t, t < 16 → a t = true := fun t ht => by
  have := sumP_ge (f := fun t => if a t then 0 else 1) 16 ht
  unfold unN at h
  rw [h] at this
  cases hx : a t with
  | true => rfl
  | false => rw [hx] at this; simp at this
theorem unN_pos (h : 0 < unN a) : ∃ t, t < 16 ∧ a t = false := by
  refine Classical.byContradiction fun k => ?_
  have : unN a = 0 := by
    unfold unN
    rw [sumP_congr (g := fun _ => 0) 16 fun t ht => ?_]
    · rfl
    · cases hx : a t with
      | true => rfl
      | false => exact absurd ⟨t, ht, hx⟩ k
  omega
structure SI (claim held : Nat → Nat → Nat) (S : SS) : Prop where
  f : ∀ r, S.F r = fuB held r S.fin
  n : S.left = (unN S.fin : Nat)
  c : CanB (fitC claim held) S.fin ↔ Sf claim held
theorem fitsP_iff {S : SS} (h : SI claim held S) : fitsP claim held S.F t = true ↔ fitC claim held S.fin t := by
  unfold fitsP fitC
  rw [allN_iff]
  constructor
  · intro k r hr
    have := of_decide_eq_true (k r hr)
    rw [h.f] at this; exact this
  · intro k r hr
    have := k r hr
    rw [← h.f] at this
    exact decide_eq_true this
theorem SI.turn {S : SS} (h : SI claim held S) (ht : t < 16) : SI claim held (safeT claim held S t) ∧ (safeT claim held S t).left ≤ S.left ∧ ((safeT claim held S t).found = false → S.found = false ∧ safeT claim held S t = S ∧ (S.fin t = true ∨ ¬ fitC claim held S.fin t)) ∧ ((safeT claim held S t).found = true → S.found = false → (safeT claim held S t).left < S.left) := by
  unfold safeT
  by_cases hc : (S.fin t || !fitsP claim held S.F t) = true
  · rw [if_pos hc]
    refine ⟨h, Int.le_refl _, fun hf => ⟨hf, rfl, ?_⟩, fun k1 k2 => by rw [k1] at k2; cases k2⟩
    rw [Bool.or_eq_true] at hc
    rcases hc with hc | hc
    · exact .inl hc
    · refine .inr fun k => ?_
      rw [(fitsP_iff h).2 k] at hc; cases hc
  · rw [if_neg hc]
    rw [Bool.or_eq_true, not_or] at hc
    have hf : S.fin t = false := by simpa using hc.1
    have hp : fitsP claim held S.F t = true := by simpa using hc.2
    have hfit := (fitsP_iff h).1 hp
    have hu := unN_upd ht hf
    have hn := h.n
    refine ⟨⟨fun r => ?_, ?_, ?_⟩, by show S.left - 1 ≤ S.left; omega, (fun k => by cases k), fun _ _ => by show S.left - 1 < S.left; omega⟩
    · show S.F r + (held t r : Nat) = _
      rw [fuB_upd ht hf, h.f]
    · show S.left - 1 = (unN (updN S.fin t true) : Nat)
      omega
    · exact (CanB.fits fitC_mono ht hf hfit).symm.trans h.c
theorem SI.sweep {S : SS} (h : SI claim held S) : ∀ n, n ≤ 16 → SI claim held (sweepP claim held S n) ∧ (sweepP claim held S n).left ≤ S.left ∧ ((sweepP claim held S n).found = false → S.found = false ∧ sweepP claim held S n = S ∧ ∀ t, t < n → S.fin t = true ∨ ¬ fitC claim held S.fin t) ∧ ((sweepP claim held S n).found = true → S.found = false → (sweepP claim held S n).left < S.left)
  | 0, _ => ⟨h, Int.le_refl _, fun k => ⟨k, rfl, fun t ht => absurd ht (Nat.not_lt_zero _)⟩, fun k1 k2 => by rw [show sweepP claim held S 0 = S from rfl, k2] at k1; cases k1⟩
  | n + 1, hn => by
    obtain ⟨h1, h2, h3, h4⟩ := h.sweep n (by omega)
    obtain ⟨g1, g2, g3, g4⟩ := h1.turn (t := n) (by omega)
    refine ⟨g1, Int.le_trans g2 h2, fun k => ?_, fun k1 k2 => ?_⟩
    · obtain ⟨q1, q2, q3⟩ := g3 k
      obtain ⟨p1, p2, p3⟩ := h3 q1
      refine ⟨p1, q2.trans p2, fun t ht => ?_⟩
      by_cases e : t = n
      · subst e; rw [p2] at q3; exact q3
      · exact p3 t (by omega)
    · show (safeT claim held (sweepP claim held S n) n).left < _
      cases hx : (sweepP claim held S n).found with
      | true => exact Int.lt_of_le_of_lt g2 (h4 hx k2)
      | false => exact Int.lt_of_lt_of_le (g4 k1 hx) h2
theorem safeO_iff : ∀ (k : Nat) {S : SS}, SI claim held S → S.left < k → (safeO claim held k S = true ↔ Sf claim held)
  | 0, S, h, hl => by have := h.n; omega
  | k + 1, S, h, hl => by
    unfold safeO
    have hn := h.n
    split
    · rename_i h0
      exact ⟨fun _ => h.c.1 (.all (unN_zero (by omega))), fun _ => rfl⟩
    · rename_i h0
      have h' : SI claim held { S with found := false } := ⟨h.f, h.n, h.c⟩
      obtain ⟨g1, g2, g3, g4⟩ := h'.sweep 16 (Nat.le_refl _)
      split
      · rename_i hf
        have := g4 hf rfl
        have h5 : (sweepP claim held { S with found := false } 16).left < S.left := this
        exact safeO_iff k g1 (by omega)
      · rename_i hf
        obtain ⟨p1, p2, p3⟩ := g3 (by simpa using hf)
        have := CanB.closed (φ := fitC claim held) (a := S.fin) (fun t ht hf => (p3 t ht).resolve_left (by show ¬ S.fin t = true; rw [hf]; decide)) (unN_pos (by omega))
        exact ⟨(fun k => by cases k), fun k => absurd (h.c.2 k) this⟩
theorem safeP_iff : safeP claim held = true ↔ Sf claim held := by
  unfold safeP
  exact safeO_iff 17 ⟨fun r => fuB_none.symm, rfl, Iff.rfl⟩ (show (16 : Int) < ((17 : Nat) : Int) by decide)
/-! Fewer units held. -/
theorem sumP_upd_le {f g : Nat → Nat} (h : ∀ i, i < 16 → f i ≤ g i) : sumP f 16 ≤ sumP g 16 := sumP_le_lt 16 h
/-- Giving back some of one holding. -/
theorem Sf.less {x : Nat} (ht : t < 16) (hx : x ≤ held t r) (h : Sf claim held) : Sf claim (upd2 held t r x) := by
  refine h.turn (fun a b => a = b) (fun a b u hab hu hf hp => ?_) (fun a b hab h => .all (by rw [← hab]; exact h)) _ rfl
  subst hab
  refine ⟨hf, fun r' hr' => ?_, rfl⟩
  have h1 := hp r' hr'
  by_cases e : r' = r
  · subst e
    have h2 : fuB (upd2 held t r' x) r' a = fuB held r' a + (if a t then 0 else ((held t r' : Int) - x)) := by
      unfold fuB
      have e1 : (fun u => if a u then 0 else upd2 held t r' x u r') = updN (fun u => if a u then 0 else held u r') t (if a t then 0 else x) := by
        funext u; unfold upd2 updN
        by_cases eu : u = t
        · subst eu; simp
        · rw [if_neg eu, if_neg (c := u = t ∧ r' = r') (fun k => eu k.1)]
      rw [e1]
      have := sumP_upd (f := fun u => if a u then 0 else held u r') (r := t) (v := if a t then 0 else x) 16 ht
      cases hat : a t with
      | true => rw [hat] at this; simp at this ⊢; omega
      | false => rw [hat] at this; simp at this ⊢; omega
    rw [h2]
    unfold upd2
    by_cases eu : u = t
    · subst eu
      rw [if_pos ⟨rfl, rfl⟩, hf]
      simp
      omega
    · rw [if_neg (fun k => eu k.1)]
      cases a t with
      | true => simp; omega
      | false => simp; omega
  · have h2 : fuB (upd2 held t r x) r' a = fuB held r' a := by
      unfold fuB
      have e1 : (fun u => if a u then 0 else upd2 held t r x u r') = fun u => if a u then 0 else held u r' := by
        funext u; unfold upd2; rw [if_neg (c := u = t ∧ r' = r) (fun k => e k.2)]
      rw [e1]
    rw [h2]
    unfold upd2
    rw [if_neg (fun k => e k.2)]
    exact h1
/-- A task that leaves, with its claims. -/
theorem Sf.gone (hs : ∀ r, sumP (fun t => held t r) 16 ≤ totP r) (h : Sf claim held) : Sf (zapRow claim t) (zapRow held t) := by
  refine h.turn (fun a b => a = b) (fun a b u hab hu hf hp => ?_) (fun a b hab h => .all (by rw [← hab]; exact h)) _ rfl
  subst hab
  refine ⟨hf, fun r' hr' => ?_, rfl⟩
  have h1 := hp r' hr'
  have h2 : fuB held r' a ≤ fuB (zapRow held t) r' a := by
    unfold fuB
    have := sumP_le_lt (f := fun u => if a u then 0 else zapRow held t u r') (g := fun u => if a u then 0 else held u r') 16 fun i hi => by
      unfold zapRow
      cases a i <;> simp
      split <;> omega
    omega
  have h3 : 0 ≤ fuB (zapRow held t) r' a := fuB_ge (Nat.le_trans (sumP_le_lt 16 fun i hi => by unfold zapRow; split <;> omega) (hs r'))
  unfold zapRow at *
  by_cases e : u = t
  · rw [if_pos e, if_pos e]; simpa using h3
  · rw [if_neg e, if_neg e]; omega
/-- Those that hold nothing can go last. -/
def Idle (held : Nat → Nat → Nat) (t : Nat) : Prop := ∀ r, r < 20 → held t r = 0
theorem fuB_idle (hr : r < 20) (h1 : ∀ t, t < 16 → a t = true → b t = true) (h2 : ∀ t, t < 16 → b t = true → a t = true ∨ Idle held t) : fuB held r a = fuB held r b := by
  unfold fuB
  rw [sumP_congr (f := fun t => if a t then 0 else held t r) (g := fun t => if b t then 0 else held t r) 16 fun t ht => ?_]
  cases hb : b t with
  | false =>
    cases ha : a t with
    | false => rfl
    | true => rw [h1 t ht ha] at hb; cases hb
  | true =>
    rcases h2 t ht hb with k | k
    · rw [k]
    · have := k r hr
      cases a t <;> simp [this]
theorem CanB.rest (hc : ∀ t r, r < 20 → claim t r ≤ totP r) : ∀ (n : Nat) (a : Nat → Bool), unN a = n → (∀ t, t < 16 → a t = true ∨ Idle held t) → CanB (fitC claim held) a
  | 0, a, hn, _ => .all (unN_zero hn)
  | n + 1, a, hn, h => by
    obtain ⟨t, ht, hf⟩ := unN_pos (a := a) (by omega)
    have hi := (h t ht).resolve_left (by rw [hf]; decide)
    refine .step t ht hf (fun r hr => ?_) (CanB.rest hc n _ (by have := unN_upd ht hf; omega) fun u hu => ?_)
    · have e : fuB held r a = fuB held r fun _ => true := fuB_idle hr (fun _ _ _ => rfl) fun u hu _ => h u hu
      have e2 : fuB held r (fun _ => true) = totP r := by
        have : sumP (fun _ => 0) 16 = 0 := rfl
        show (totP r : Int) - ((sumP (fun _ => 0) 16 : Nat) : Int) = _
        rw [this]; simp
      rw [e, e2]
      have := hc t r hr
      omega
    · unfold updN
      split
      · exact .inl rfl
      · exact h u hu
theorem Sf.last (hc : ∀ t r, r < 20 → claim t r ≤ totP r) (hb : ∀ t, t < 16 → b t = true → Idle held t) : Sf claim held ↔ CanB (fitC claim held) b := by
  refine ⟨fun h => h.mono fitC_mono b (fun t _ k => by cases k), fun h => ?_⟩
  refine h.turn (fun x y => (∀ t, t < 16 → y t = true → x t = true) ∧ ∀ t, t < 16 → x t = true → y t = true ∨ Idle held t) (fun x y t hxy ht hf hp => ?_) (fun x y hxy hx => CanB.rest hc _ y rfl fun t ht => hxy.2 t ht (hx t ht)) _ ⟨(fun t _ k => by cases k), fun t ht k => .inr (hb t ht k)⟩
  have hy : y t = false := by
    cases k : y t with
    | false => rfl
    | true => rw [hxy.1 t ht k] at hf; cases hf
  refine ⟨hy, fun r hr => ?_, fun u hu k => ?_, fun u hu k => ?_⟩
  · rw [fuB_idle hr hxy.1 hxy.2]; exact hp r hr
  · unfold updN at k ⊢
    split
    · rfl
    · rename_i e; rw [if_neg e] at k; exact hxy.1 u hu k
  · unfold updN at k ⊢
    split
    · exact .inl rfl
    · rename_i e; rw [if_neg e] at k; exact hxy.2 u hu k
/-- The claims of those that hold nothing don't matter. -/
theorem Sf.claims {claim' : Nat → Nat → Nat} (hc : ∀ t r, r < 20 → claim t r ≤ totP r) (hc' : ∀ t r, r < 20 → claim' t r ≤ totP r) (he : ∀ t, t < 16 → ¬ Idle held t → ∀ r, claim' t r = claim t r) : Sf claim held → Sf claim' held := by
  classical
  intro h
  have h1 := (Sf.last (b := fun t => decide (Idle held t)) hc fun t _ k => of_decide_eq_true k).1 h
  refine (Sf.last (b := fun t => decide (Idle held t)) hc' fun t _ k => of_decide_eq_true k).2 ?_
  refine h1.turn (fun x y => x = y ∧ ∀ t, t < 16 → Idle held t → x t = true) (fun x y t hxy ht hf hp => ?_) (fun x y hxy hx => .all (by rw [← hxy.1]; exact hx)) _ ⟨rfl, fun t _ k => decide_eq_true k⟩
  obtain ⟨e, hi⟩ := hxy
  subst e
  have hni : ¬ Idle held t := fun k => by rw [hi t ht k] at hf; cases hf
  refine ⟨hf, fun r hr => by rw [he t ht hni]; exact hp r hr, rfl, fun u hu k => ?_⟩
  unfold updN
  split
  · rfl
  · exact hi u hu k
end Go.Proofs.Qxb6500834aGreatDoor

