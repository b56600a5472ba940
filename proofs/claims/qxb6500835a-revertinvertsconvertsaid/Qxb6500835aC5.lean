/-
  C5: plain laws: a list in strict order is known by its elements; the groups of a conversion are known by its postings. No Go in sight.
-/
import Derived.Test.Qxb6500835aC4
import Derived.Test.Qxb6500835aC2
namespace Go.Conv

theorem perm_unique {α : Type} {R : α → α → Prop} (hR : ∀ a b, R a b → ¬ R b a) : ∀ {l m : List α}, l.Perm m → l.Pairwise R → m.Pairwise R → l = m
  | [], m, hp, _, _ => (List.nil_perm.1 hp).symm
  | a :: l, [], hp, _, _ => by have := hp.length_eq; simp at this
  | a :: l, b :: m, hp, h1, h2 => by
    have h1' := List.pairwise_cons.1 h1
    have h2' := List.pairwise_cons.1 h2
    have hab : a = b := by
      have ha : a ∈ b :: m := hp.mem_iff.1 (by simp)
      have hb : b ∈ a :: l := hp.mem_iff.2 (by simp)
      rcases List.mem_cons.1 ha with h | h
      · exact h
      · rcases List.mem_cons.1 hb with h' | h'
        · exact h'.symm
        · exact absurd (h2'.1 a h) (hR _ _ (h1'.1 b h'))
    subst hab
    rw [perm_unique hR (List.Perm.cons_inv hp) h1'.2 h2'.2]

theorem pairwise_range {α : Type} {R : α → α → Prop} {A : Nat → α} {n : Nat} (h : ∀ a b, a < b → b < n → R (A a) (A b)) : ((List.range n).map A).Pairwise R := by
  rw [List.pairwise_map]
  refine List.Pairwise.imp_of_mem ?_ List.pairwise_lt_range
  intro a b ha hb hlt
  exact h a b hlt (List.mem_range.1 hb)

theorem map_range_inj {α : Type} {A B : Nat → α} {n : Nat} (h : (List.range n).map A = (List.range n).map B) : ∀ k, k < n → A k = B k := by
  intro k hk
  have := congrArg (fun l => l[k]?) h
  simpa [hk] using this

/-- Two lists of postings in strict document order with the same postings are one. -/
theorem docs_unique {n : Nat} {X B : Nat → Pr} (hp : ((List.range n).map B).Perm ((List.range n).map X)) (hX : ∀ a b, a < b → b < n → (X a).1 < (X b).1) (hB : ∀ a b, a < b → b < n → (B a).1 < (B b).1) : ∀ k, k < n → B k = X k :=
  map_range_inj (perm_unique (R := fun p q : Pr => p.1 < q.1) (fun a b h => by omega) hp (pairwise_range hB) (pairwise_range hX))

theorem lexlt_trans {a b c : Pr} (h1 : lexlt a b) (h2 : lexlt b c) : lexlt a c := by unfold lexlt at *; omega

/-- Where a place lies among the groups. -/
theorem Out.place {n : Nat} {X A : Nat → Pr} {q : Nat} {S : Nat → Nat} (h : Out n X A q S) {k : Nat} (hk : k < n) : ∃ t, t < q ∧ S t ≤ k ∧ k < S (t + 1) := by
  have : ∀ t, t ≤ q → k < S t → ∃ u, u < t ∧ S u ≤ k ∧ k < S (u + 1) := fun t => by
    induction t with
    | zero => intro _ h0; rw [h.s0] at h0; omega
    | succ t ih =>
      intro ht hlt
      by_cases hc : k < S t
      · obtain ⟨u, h1, h2⟩ := ih (by omega) hc; exact ⟨u, by omega, h2⟩
      · exact ⟨t, by omega, by omega, hlt⟩
  obtain ⟨t, h1, h2⟩ := this q (Nat.le_refl _) (by rw [h.sq]; exact hk)
  exact ⟨t, h1, h2⟩

theorem Out.lex1 {n : Nat} {X A : Nat → Pr} {q : Nat} {S : Nat → Nat} (h : Out n X A q S) {k : Nat} (hk : k + 1 < n) : lexlt (A k) (A (k + 1)) := by
  obtain ⟨t, ht, h1, h2⟩ := h.place (k := k) (by omega)
  by_cases hc : k + 1 < S (t + 1)
  · have e1 := h.same t ht k h1 h2
    have e2 := h.same t ht (k + 1) (by omega) hc
    exact .inr ⟨by rw [e1, e2], h.rise t ht k h1 hc⟩
  · have he : k + 1 = S (t + 1) := by omega
    have htq : t + 1 < q := by
      by_cases hq : t + 1 = q
      · rw [hq, h.sq] at he; omega
      · omega
    have := h.fall (t + 1) (by omega) htq
    rw [show t + 1 - 1 = t by omega, ← h.same t ht k h1 h2, ← he] at this
    exact .inl this

theorem Out.lex {n : Nat} {X A : Nat → Pr} {q : Nat} {S : Nat → Nat} (h : Out n X A q S) : ∀ a b, a < b → b < n → lexlt (A a) (A b) := by
  intro a b
  induction b with
  | zero => intro h1; omega
  | succ b ih =>
    intro h1 h2
    by_cases hab : a = b
    · subst hab; exact h.lex1 h2
    · exact lexlt_trans (ih (by omega) (by omega)) (h.lex1 h2)

theorem Out.unique {n : Nat} {X A A' : Nat → Pr} {q q' : Nat} {S S' : Nat → Nat} (h : Out n X A q S) (h' : Out n X A' q' S') : (∀ k, k < n → A k = A' k) ∧ q = q' ∧ ∀ t, t ≤ q → S t = S' t := by
  have hA : ∀ k, k < n → A k = A' k := map_range_inj (perm_unique (R := lexlt) (fun a b h1 h2 => by unfold lexlt at *; omega) (h.perm.trans h'.perm.symm) (pairwise_range h.lex) (pairwise_range h'.lex))
  have step : ∀ {q1 q2 : Nat} {S1 S2 : Nat → Nat} {A1 A2 : Nat → Pr}, Out n X A1 q1 S1 → Out n X A2 q2 S2 → (∀ k, k < n → A1 k = A2 k) → ∀ t, t < q1 → t < q2 → S1 t = S2 t → ¬ S1 (t + 1) < S2 (t + 1) := by
    intro q1 q2 S1 S2 A1 A2 o1 o2 he t h1 h2 hs hlt
    have l1 := o1.lt t h1
    have l2 := S_le o2.lt (t + 1) q2 (by omega) (Nat.le_refl _)
    rw [o2.sq] at l2
    have htq : t + 1 < q1 := by
      by_cases hq : t + 1 = q1
      · have := o1.sq; rw [← hq] at this; omega
      · omega
    have f := o1.fall (t + 1) (by omega) htq
    rw [show t + 1 - 1 = t by omega] at f
    have g := o2.same t h2 (S1 (t + 1)) (by omega) hlt
    rw [← he _ (by omega), ← hs, ← he _ (by omega)] at g
    omega
  have hS : ∀ t, t ≤ q → t ≤ q' → S t = S' t := fun t => by
    induction t with
    | zero => intro _ _; rw [h.s0, h'.s0]
    | succ t ih =>
      intro h1 h2
      have e := ih (by omega) (by omega)
      have a1 := step h h' hA t (by omega) (by omega) e
      have a2 := step h' h (fun k hk => (hA k hk).symm) t (by omega) (by omega) e.symm
      omega
  have hq : q = q' := by
    rcases Nat.lt_trichotomy q q' with hl | hl | hl
    · have e := hS q (Nat.le_refl _) (by omega)
      have := S_le h'.lt (q + 1) q' (by omega) (Nat.le_refl _)
      have := h'.lt q hl
      rw [h.sq] at e; rw [h'.sq] at *; omega
    · exact hl
    · have e := hS q' (by omega) (Nat.le_refl _)
      have := S_le h.lt (q' + 1) q (by omega) (Nat.le_refl _)
      have := h.lt q' hl
      rw [h'.sq] at e; rw [h.sq] at *; omega
  exact ⟨hA, hq, fun t ht => hS t ht (by omega)⟩

end Go.Conv
