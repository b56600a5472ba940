import Derived.Test.Qxb6500834aGreatDoorK67
set_option linter.unusedVariables false
set_option linter.unusedSimpArgs false
set_option maxRecDepth 20000
namespace Go.Proofs.Qxb6500834aGreatDoor
open Go.RowKit Go.E1 Go.Kern
variable {w0 : World} {l X : List HI} {w : World} {s s' s0 : KS} {t r N n : Nat} {qv qv' : Nat → Value}
variable {held claim : Nat → Nat → Nat} {queue : Nat → List (Nat × Nat)} {a b : Nat → Bool} {φ ψ : (Nat → Bool) → Nat → Prop}

/-! Reduction, plainly: who is completed whatever the order. -/
def Red (φ : (Nat → Bool) → Nat → Prop) (t : Nat) : Prop := ∀ g : Nat → Bool, (∀ u, u < 16 → φ g u → g u = true) → g t = true
theorem Red.step (hm : Mono φ) (ht : t < 16) (ha : ∀ u, u < 16 → a u = true → Red φ u) (hp : φ a t) : Red φ t := fun g hg => hg t ht (hm a g t (fun u hu k => ha u hu k g hg) hp)
theorem Red.closed (ha : ∀ u, u < 16 → a u = false → ¬ φ a u) (h : Red φ t) : a t = true := h a fun u hu hp => by
  cases hx : a u with
  | true => rfl
  | false => exact absurd hp (ha u hu hx)
def wantF (held : Nat → Nat → Nat) (queue : Nat → List (Nat × Nat)) (a : Nat → Bool) (t : Nat) : Prop := ∀ p, waitP queue t = some p → (p.2.2 : Int) ≤ fuB held p.1 a
theorem wantF_mono : Mono (wantF held queue) := fun a b t h k p hp => Int.le_trans (k p hp) (fuB_mono h)
theorem fuB_congr (h : ∀ t, t < 16 → a t = b t) : fuB held r a = fuB held r b := by
  unfold fuB
  rw [sumP_congr (f := fun t => if a t then 0 else held t r) (g := fun t => if b t then 0 else held t r) 16 fun t ht => by rw [h t ht]]
def finS (m : Nat) (t : Nat) : Bool := !m.testBit t
structure RI (held : Nat → Nat → Nat) (queue : Nat → List (Nat × Nat)) (S : RS) : Prop where
  f : ∀ r, S.F r = fuB held r (finS S.m)
  m : S.m < 65536
  d : ∀ t, t < 16 → S.m.testBit t = false → Red (wantF held queue) t
theorem fin_red {m : Nat} (ht : t < 16) : ∀ u, u < 16 → finS (m &&& (65535 - 2 ^ t)) u = updN (finS m) t true u := fun u hu => by
  unfold finS updN
  rw [Nat.testBit_and, compl_bit hu ht]
  by_cases e : u = t
  · rw [if_pos e, e]; simp
  · have : ¬ t = u := fun k => e k.symm
    rw [if_neg e]; simp [this]
theorem RI.turn {S : RS} (h : RI held queue S) (ht : t < 16) (hb : S.m.testBit t = true) : RI held queue (stT held queue S t) ∧ (∀ u, u ≠ t → (stT held queue S t).m.testBit u = S.m.testBit u ∨ ¬ u < 16) ∧ ((stT held queue S t).again = false → S.again = false ∧ stT held queue S t = S ∧ ¬ wantF held queue (finS S.m) t) ∧ ((stT held queue S t).again = true → S.again = true ∨ (tasksP (stT held queue S t).m).length < (tasksP S.m).length) ∧ (tasksP (stT held queue S t).m).length ≤ (tasksP S.m).length := by
  have hfin : finS S.m t = false := by unfold finS; rw [hb]; rfl
  have hdec : (tasksP (S.m &&& (65535 - 2 ^ t))).length < (tasksP S.m).length := by have := tasksP_dec ht hb; omega
  have hred : wantF held queue (finS S.m) t → RI held queue (redS held S t) := fun hw => by
    refine ⟨fun r => ?_, andlt h.m, fun u hu k => ?_⟩
    · show S.F r + (held t r : Nat) = fuB held r (finS (S.m &&& (65535 - 2 ^ t)))
      rw [fuB_congr (fin_red ht), fuB_upd ht hfin, h.f]
    · by_cases e : u = t
      · rw [e]
        refine Red.step wantF_mono ht (fun v hv k => h.d v hv ?_) hw
        unfold finS at k
        simpa using k
      · refine h.d u hu ?_
        have k : (S.m &&& (65535 - 2 ^ t)).testBit u = false := k
        rw [Nat.testBit_and, compl_bit hu ht] at k
        have : ¬ t = u := fun q => e q.symm
        simpa [this] using k
  have hoth : ∀ u, u ≠ t → (redS held S t).m.testBit u = S.m.testBit u ∨ ¬ u < 16 := fun u e => by
    by_cases hu : u < 16
    · refine .inl ?_
      show (S.m &&& (65535 - 2 ^ t)).testBit u = _
      rw [Nat.testBit_and, compl_bit hu ht]
      have : ¬ t = u := fun q => e q.symm
      simp [this]
    · exact .inr hu
  have yes : wantF held queue (finS S.m) t → stT held queue S t = redS held S t → RI held queue (stT held queue S t) ∧ (∀ u, u ≠ t → (stT held queue S t).m.testBit u = S.m.testBit u ∨ ¬ u < 16) ∧ ((stT held queue S t).again = false → S.again = false ∧ stT held queue S t = S ∧ ¬ wantF held queue (finS S.m) t) ∧ ((stT held queue S t).again = true → S.again = true ∨ (tasksP (stT held queue S t).m).length < (tasksP S.m).length) ∧ (tasksP (stT held queue S t).m).length ≤ (tasksP S.m).length := fun hw e => by
    rw [e]
    exact ⟨hred hw, hoth, (fun k => by cases k), fun _ => .inr hdec, Nat.le_of_lt hdec⟩
  cases hp : waitP queue t with
  | none => exact yes (fun p k => by rw [hp] at k; cases k) (by unfold stT; rw [hp])
  | some p =>
    by_cases hlt : S.F p.1 < p.2.2
    · have e : stT held queue S t = S := by unfold stT; rw [hp]; exact if_pos hlt
      rw [e]
      refine ⟨h, fun u _ => .inl rfl, fun k => ⟨k, rfl, fun hw => ?_⟩, fun k => .inl k, Nat.le_refl _⟩
      have := hw p hp
      rw [← h.f] at this
      omega
    · refine yes (fun q hq => ?_) (by unfold stT; rw [hp]; exact if_neg hlt)
      rw [hp] at hq
      cases hq
      rw [← h.f]
      omega
theorem RI.fold : ∀ (Ts : List Nat) {S : RS}, RI held queue S → Ts.Nodup → (∀ u, u ∈ Ts → u < 16 ∧ S.m.testBit u = true) → RI held queue (Ts.foldl (stT held queue) S) ∧ ((Ts.foldl (stT held queue) S).again = false → S.again = false ∧ Ts.foldl (stT held queue) S = S ∧ ∀ u, u ∈ Ts → ¬ wantF held queue (finS S.m) u) ∧ ((Ts.foldl (stT held queue) S).again = true → S.again = true ∨ (tasksP (Ts.foldl (stT held queue) S).m).length < (tasksP S.m).length) ∧ (tasksP (Ts.foldl (stT held queue) S).m).length ≤ (tasksP S.m).length
  | [], S, h, _, _ => ⟨h, fun k => ⟨k, rfl, fun u hu => by cases hu⟩, fun k => .inl k, Nat.le_refl _⟩
  | t :: Ts, S, h, hn, hT => by
    have ht := hT t List.mem_cons_self
    obtain ⟨h1, h2, h3, h4, h5⟩ := h.turn ht.1 ht.2
    have hn' := List.nodup_cons.1 hn
    obtain ⟨g1, g2, g3, g4⟩ := RI.fold Ts h1 hn'.2 fun u hu => by
      have hu' := hT u (List.mem_cons_of_mem _ hu)
      refine ⟨hu'.1, ?_⟩
      rcases h2 u (fun e => hn'.1 (e ▸ hu)) with k | k
      · rw [k]; exact hu'.2
      · exact absurd hu'.1 k
    rw [List.foldl_cons]
    refine ⟨g1, fun k => ?_, fun k => ?_, Nat.le_trans g4 h5⟩
    · obtain ⟨q1, q2, q3⟩ := g2 k
      obtain ⟨p1, p2, p3⟩ := h3 q1
      refine ⟨p1, q2.trans p2, fun u hu => ?_⟩
      rcases List.mem_cons.1 hu with e | hu
      · rw [e]; exact p3
      · rw [p2] at q3; exact q3 u hu
    · rcases g3 k with q | q
      · rcases h4 q with p | p
        · exact .inl p
        · exact .inr (by omega)
      · exact .inr (by omega)
theorem stO_spec : ∀ (k : Nat) {S : RS}, RI held queue S → (tasksP S.m).length < k → ∀ t, t < 16 → ((stO held queue k S).testBit t = true ↔ ¬ Red (wantF held queue) t)
  | 0, S, _, h, t, _ => by omega
  | k + 1, S, h, hl, t, ht => by
    have h' : RI held queue { S with again := false } := ⟨h.f, h.m, h.d⟩
    obtain ⟨g1, g2, g3, g4⟩ := RI.fold (tasksP S.m) h' (tasksP_nodup _) fun u hu => ⟨tasksP_lt hu, (tasksP_mem.1 hu).2⟩
    unfold stO
    split
    · rename_i hf
      rcases g3 hf with q | q
      · cases q
      · have q : (tasksP (stPass held queue S).m).length < (tasksP S.m).length := q
        exact stO_spec k (S := stPass held queue S) g1 (by omega) t ht
    · rename_i hf
      obtain ⟨q1, q2, q3⟩ := g2 (by have hf := Bool.eq_false_iff.2 hf; exact hf)
      have e : stPass held queue S = { S with again := false } := q2
      rw [e]
      show S.m.testBit t = true ↔ _
      constructor
      · intro hb hr
        have := Red.closed (a := finS S.m) (fun u hu k => q3 u (tasksP_mem.2 ⟨hu, by unfold finS at k; simpa using k⟩)) hr
        unfold finS at this
        rw [hb] at this; cases this
      · intro hr
        cases hx : S.m.testBit t with
        | true => rfl
        | false => exact absurd (h.d t ht hx) hr
theorem stuckP_spec (ht : t < 16) : (stuckP held queue).testBit t = true ↔ ¬ Red (wantF held queue) t := by
  unfold stuckP
  refine stO_spec 17 ⟨fun r => ?_, by show 65535 < 65536; decide, fun u hu k => ?_⟩ (Nat.lt_succ_of_le tasksP_len) t ht
  · show freeP held r = _
    rw [← fuB_none]
    exact fuB_congr fun u hu => by unfold finS; show false = !(65535 : Nat).testBit u; have : (65535 : Nat).testBit u = true := (by decide : ∀ v, v < 16 → (65535 : Nat).testBit v = true) u hu; rw [this]; rfl
  · have : (65535 : Nat).testBit u = true := (by decide : ∀ v, v < 16 → (65535 : Nat).testBit v = true) u hu
    have k : (65535 : Nat).testBit u = false := k
    rw [this] at k; cases k
/-! Ways through a relation. -/
def Pt (E : Nat → Nat → Prop) (k : Nat) (i0 : Nat) (i1 : Nat) : Prop := ∀ R : Nat → Nat → Prop, (∀ (a : Nat) (b : Nat) (h : E a b), R a b) → (∀ (a : Nat) (b : Nat) (c : Nat) (hc : c < k) (h : R a c) (g : R c b), R a b) → R i0 i1
theorem Pt.edge {E : Nat → Nat → Prop} {k : Nat} {a : Nat} {b : Nat} (h : E a b) : Pt E k a b := fun R z0 z1 => z0 a b h
theorem Pt.thru {E : Nat → Nat → Prop} {k : Nat} {a : Nat} {b : Nat} (c : Nat) (hc : c < k) (h : Pt E k a c) (g : Pt E k c b) : Pt E k a b := fun R z0 z1 => z1 a b c hc (h R z0 z1) (g R z0 z1)
theorem Pt.elim {E : Nat → Nat → Prop} {k : Nat} {motive : ∀ (i0 : Nat) (i1 : Nat), Pt E k i0 i1 → Prop} (edge : ∀ {a : Nat} {b : Nat} (h : E a b), motive a b (Pt.edge h)) (thru : ∀ {a : Nat} {b : Nat} (c : Nat) (hc : c < k) (h : Pt E k a c) (g : Pt E k c b) (ih_h : motive a c h) (ih_g : motive c b g), motive a b (Pt.thru c hc h g)) {i0 : Nat} {i1 : Nat} (h : Pt E k i0 i1) : motive i0 i1 h := by
  obtain ⟨_, k⟩ := h (fun i0 i1 => ∃ g : Pt E k i0 i1, motive i0 i1 g) (fun a b h => ⟨Pt.edge h, edge h⟩) (fun a b c hc ⟨h, m_h⟩ ⟨g, m_g⟩ => ⟨Pt.thru c hc h g, thru c hc h g m_h m_g⟩)
  exact k
theorem Pt.mono {E : Nat → Nat → Prop} {k k' x y : Nat} (hk : k ≤ k') (h : Pt E k x y) : Pt E k' x y := by
  induction h using Pt.elim with
  | edge h => exact .edge h
  | thru c hc h g ih1 ih2 => exact .thru c (by omega) ih1 ih2
theorem Pt.split {E : Nat → Nat → Prop} {k x y : Nat} (h : Pt E (k + 1) x y) : Pt E k x y ∨ (Pt E k x k ∧ Pt E k k y) := by
  induction h using Pt.elim with
  | edge h => exact .inl (.edge h)
  | @thru x y c hc h g ih1 ih2 =>
    by_cases e : c = k
    · subst e
      refine .inr ⟨?_, ?_⟩
      · rcases ih1 with q | q
        · exact q
        · exact q.1
      · rcases ih2 with q | q
        · exact q
        · exact q.2
    · have hc' : c < k := by omega
      rcases ih1 with q | q <;> rcases ih2 with p | p
      · exact .inl (.thru c hc' q p)
      · exact .inr ⟨.thru c hc' q p.1, p.2⟩
      · exact .inr ⟨q.1, .thru c hc' q.2 p⟩
      · exact .inr ⟨q.1, p.2⟩
def Ed (held : Nat → Nat → Nat) (queue : Nat → List (Nat × Nat)) (x y : Nat) : Prop := ∃ p, waitP queue x = some p ∧ y < 16 ∧ y ≠ x ∧ 0 < held y p.1
theorem waits_bit {x y : Nat} (hx : x < 16) : (waitsP held queue x).testBit y = true ↔ Ed held queue x y := by
  unfold waitsP Ed
  cases hp : waitP queue x with
  | none => simp
  | some p =>
    show (holdersP held p.1 &&& (65535 - 2 ^ x)).testBit y = true ↔ _
    unfold holdersP
    rw [Nat.testBit_and, maskP_bit, Bool.and_eq_true, Bool.and_eq_true]
    constructor
    · rintro ⟨⟨h1, h2⟩, h3⟩
      have h1 := of_decide_eq_true h1
      rw [compl_bit h1 hx] at h3
      exact ⟨p, rfl, h1, fun e => by rw [e] at h3; simp at h3, of_decide_eq_true h2⟩
    · rintro ⟨q, hq, h1, h2, h3⟩
      cases hq
      refine ⟨⟨decide_eq_true h1, decide_eq_true h3⟩, ?_⟩
      rw [compl_bit h1 hx]
      have : ¬ x = y := fun e => h2 e.symm
      simp [this]
def fR (t : Nat) (R : Nat → Nat) (via : Nat) : Nat → Nat := updN R t (R t ||| R via)
theorem fR_grow {R : Nat → Nat} {v x y : Nat} (h : (R x).testBit y = true) : (fR t R v x).testBit y = true := by
  unfold fR updN
  split
  · rename_i e; rw [Nat.testBit_or, ← e, h]; rfl
  · exact h
theorem fold_grow {x y : Nat} : ∀ (Ts : List Nat) {R : Nat → Nat}, (R x).testBit y = true → (Ts.foldl (fR t) R x).testBit y = true
  | [], R, h => h
  | v :: Ts, R, h => fold_grow Ts (fR_grow h)
theorem fold_via {v y : Nat} : ∀ (Ts : List Nat) {R : Nat → Nat}, v ∈ Ts → (R v).testBit y = true → (Ts.foldl (fR t) R t).testBit y = true
  | [], R, hm, _ => by cases hm
  | u :: Ts, R, hm, h => by
    rw [List.foldl_cons]
    rcases List.mem_cons.1 hm with e | hm
    · subst e
      refine fold_grow Ts ?_
      unfold fR
      rw [updN_same, Nat.testBit_or, h, Bool.or_true]
    · exact fold_via Ts hm (fR_grow h)
theorem ocT_eq {R : Nat → Nat} : ocT R t = (tasksP (R t)).foldl (fR t) R := rfl
theorem ocN_grow {R : Nat → Nat} {x y : Nat} (h : (R x).testBit y = true) : ∀ n, (ocN R n x).testBit y = true
  | 0 => h
  | n + 1 => by
    show (ocT (ocN R n) n x).testBit y = true
    rw [ocT_eq]
    exact fold_grow _ (ocN_grow h n)
theorem ocN_le {R : Nat → Nat} {x y m : Nat} : ∀ n, m ≤ n → (ocN R m x).testBit y = true → (ocN R n x).testBit y = true
  | 0, hm, h => by obtain rfl : m = 0 := by omega
                   exact h
  | n + 1, hm, h => by
    by_cases e : m = n + 1
    · rw [← e]; exact h
    · show (ocT (ocN R n) n x).testBit y = true
      rw [ocT_eq]
      exact fold_grow _ (ocN_le n (by omega) h)
theorem ocR_full {E : Nat → Nat → Prop} {R : Nat → Nat} (hR : ∀ x y, x < 16 → E x y → (R x).testBit y = true) (hE : ∀ x y, E x y → y < 16) : ∀ n, n ≤ 16 → ∀ x y, x < 16 → Pt E n x y → (ocR R n x).testBit y = true
  | 0, _, x, y, hx, h => by
    cases h using Pt.elim with
    | edge h => exact hR x y hx h
    | thru c hc h g ih1 ih2 => omega
  | n + 1, hn, x, y, hx, h => by
    have hlt : ∀ {k x y}, Pt E k x y → y < 16 := by
      intro k x y h
      induction h using Pt.elim with
      | edge h => exact hE _ _ h
      | thru c hc h g ih1 ih2 => exact ih2
    show (ocN (ocR R n) 16 x).testBit y = true
    rcases h.split with q | q
    · exact ocN_grow (ocR_full hR hE n (by omega) x y hx q) 16
    · have h1 := ocR_full hR hE n (by omega) x n hx q.1
      have h2 := ocR_full hR hE n (by omega) n y (by omega) q.2
      refine ocN_le (m := x + 1) 16 (by omega) ?_
      show (ocT (ocN (ocR R n) x) x x).testBit y = true
      rw [ocT_eq]
      exact fold_via _ (tasksP_mem.2 ⟨by omega, ocN_grow h1 x⟩) (ocN_grow h2 x)
theorem ocR_sound {E : Nat → Nat → Prop} {R : Nat → Nat} (hR : ∀ x y, x < 16 → (R x).testBit y = true → Pt E 16 x y) : ∀ n x y, x < 16 → (ocR R n x).testBit y = true → Pt E 16 x y := by
  have hf : ∀ (Ts : List Nat) {R : Nat → Nat} {t : Nat}, t < 16 → (∀ v, v ∈ Ts → v < 16 ∧ Pt E 16 t v) → (∀ x y, x < 16 → (R x).testBit y = true → Pt E 16 x y) → ∀ x y, x < 16 → (Ts.foldl (fR t) R x).testBit y = true → Pt E 16 x y := by
    intro Ts
    induction Ts with
    | nil => exact fun _ _ h => h
    | cons v Ts ih =>
      intro R t ht hT hR
      rw [List.foldl_cons]
      refine ih ht (fun u hu => hT u (List.mem_cons_of_mem _ hu)) fun x y hx hb => ?_
      unfold fR updN at hb
      split at hb
      · rename_i e
        rw [Nat.testBit_or, Bool.or_eq_true] at hb
        obtain ⟨hv, hp⟩ := hT v List.mem_cons_self
        rcases hb with hb | hb
        · rw [e]; exact hR t y ht hb
        · rw [e]; exact .thru v hv hp (hR v y hv hb)
      · exact hR x y hx hb
  have hN : ∀ {R : Nat → Nat}, (∀ x y, x < 16 → (R x).testBit y = true → Pt E 16 x y) → ∀ n, n ≤ 16 → ∀ x y, x < 16 → (ocN R n x).testBit y = true → Pt E 16 x y := by
    intro R hR n
    induction n with
    | zero => exact fun _ => hR
    | succ n ih =>
      intro hn
      have h1 := ih (by omega)
      show ∀ x y, x < 16 → (ocT (ocN R n) n x).testBit y = true → _
      rw [ocT_eq]
      exact hf _ (by omega) (fun v hv => ⟨tasksP_lt hv, h1 n v (by omega) (tasksP_mem.1 hv).2⟩) h1
  intro n
  induction n with
  | zero => exact hR
  | succ n ih => exact hN ih 16 (Nat.le_refl _)
theorem cycleP_spec (ht : t < 16) : (cycleP (waitsP held queue)).testBit t = true ↔ Pt (Ed held queue) 16 t t := by
  unfold cycleP
  rw [maskP_bit, Bool.and_eq_true]
  constructor
  · rintro ⟨_, h⟩
    exact ocR_sound (fun x y hx h => .edge ((waits_bit hx).1 h)) 16 t t ht h
  · intro h
    exact ⟨decide_eq_true ht, ocR_full (fun x y hx h => (waits_bit hx).2 h) (fun x y h => let ⟨p, _, h2, _⟩ := h; h2) 16 (Nat.le_refl _) t t ht h⟩
/-! Warshall's way. -/
def wsV (R : Nat → Nat → Bool) (v : Nat) : Nat → Nat → Bool := fun x y => R x y || (R x v && R v y)
def wsN (R : Nat → Nat → Bool) : Nat → Nat → Nat → Bool
  | 0 => R
  | n + 1 => wsV (wsN R n) n
theorem wsN_spec {E : Nat → Nat → Prop} {R : Nat → Nat → Bool} (hR : ∀ x y, R x y = true ↔ E x y) : ∀ n x y, wsN R n x y = true ↔ Pt E n x y
  | 0, x, y => by
    refine (hR x y).trans ⟨.edge, fun h => ?_⟩
    cases h using Pt.elim with
    | edge h => exact h
    | thru c hc h g ih1 ih2 => omega
  | n + 1, x, y => by
    show (wsN R n x y || (wsN R n x n && wsN R n n y)) = true ↔ _
    rw [Bool.or_eq_true, Bool.and_eq_true, wsN_spec hR n, wsN_spec hR n, wsN_spec hR n]
    constructor
    · rintro (h | ⟨h, g⟩)
      · exact h.mono (by omega)
      · exact .thru n (by omega) (h.mono (by omega)) (g.mono (by omega))
    · exact Pt.split
/-- The relation, read off the queues. -/
theorem waitF_none : ∀ (n r : Nat), waitF queue t n r = none → ∀ a, r ≤ a → a < r + n → ∀ p, p ∈ queue a → p.1 ≠ t
  | 0, r, _, a, h1, h2 => by omega
  | n + 1, r, h, a, h1, h2 => by
    unfold waitF at h
    split at h
    · cases h
    · rename_i hn
      intro p hp e
      by_cases ea : a = r
      · subst ea
        have := List.find?_eq_none.1 hn p hp
        simp [e] at this
      · exact waitF_none n (r + 1) h a (by omega) (by omega) p hp e
/-- Each task is in one queue at most, once. -/
def Once (queue : Nat → List (Nat × Nat)) : Prop := ∀ t, cntP queue t ≤ 1
theorem once_same (ho : Once queue) {r' : Nat} {p q : Nat × Nat} (hr : r < 20) (hr' : r' < 20) (hp : p ∈ queue r) (hq : q ∈ queue r') (e : p.1 = q.1) : r = r' := by
  refine Classical.byContradiction fun k => ?_
  have h1 : 1 ≤ (queue r).countP fun x => x.1 == q.1 := List.countP_pos_iff.2 ⟨p, hp, by simp [e]⟩
  have h2 : 1 ≤ (queue r').countP fun x => x.1 == q.1 := List.countP_pos_iff.2 ⟨q, hq, by simp⟩
  have h3 := sumP_upd (f := fun a => (queue a).countP fun x => x.1 == q.1) (r := r) (v := 0) 20 hr
  have h4 := sumP_ge (f := updN (fun a => (queue a).countP fun x => x.1 == q.1) r 0) 20 hr'
  have e4 : updN (fun a => (queue a).countP fun x => x.1 == q.1) r 0 r' = (queue r').countP fun x => x.1 == q.1 := updN_ne (fun q => k q.symm)
  rw [e4] at h4
  have h5 := ho q.1
  unfold cntP at h5
  omega
theorem waitP_iff (ho : Once queue) {q : Nat × Nat} (hr : r < 20) (hq : q ∈ queue r) : ∃ u, waitP queue q.1 = some (r, q.1, u) ∧ (q.1, u) ∈ queue r := by
  cases hp : waitP queue q.1 with
  | none => exact absurd rfl (waitF_none 20 0 hp r (by omega) (by omega) q hq)
  | some p =>
    obtain ⟨h1, h2, h3⟩ := waitP_mem hp
    have e := once_same ho h1 hr h2 hq h3
    obtain ⟨p1, p2, p3⟩ := p
    have h3 : p2 = q.1 := h3
    have e : p1 = r := e
    subst h3 e
    exact ⟨p3, rfl, h2⟩
end Go.Proofs.Qxb6500834aGreatDoor

