/-
  C3: plain laws on a map used as a counter of units: each key is set to one, later to zero. No Go on the road.
-/
import Derived.Test.Qxb6500835aE14
import Derived.Test.Qxb6500835aC2
namespace Go.Conv
open Go.E1

abbrev one : Value := .int .i64 1
abbrev zero : Value := .int .i64 0

/-- The units laid in so far. -/
structure Ins {ι : Type} (G : Value → Option Value) (K : ι → Value) (D : ι → Prop) : Prop where
  has : ∀ x, D x → G (K x) = some one
  only : ∀ v u, G v = some u → ∃ x, D x ∧ v = K x

theorem Ins.empty {ι : Type} (K : ι → Value) : Ins (fun _ => none) K (fun _ => False) := ⟨fun _ h => h.elim, fun v u h => by cases h⟩
theorem Ins.congr {ι : Type} {G : Value → Option Value} {K : ι → Value} {D D' : ι → Prop} (h : Ins G K D) (hd : ∀ x, D x ↔ D' x) : Ins G K D' := by
  have : D = D' := funext fun x => propext (hd x)
  rw [← this]; exact h
theorem Ins.congrK {ι : Type} {G : Value → Option Value} {K K' : ι → Value} {D : ι → Prop} (h : Ins G K D) (hk : ∀ x, D x → K x = K' x) : Ins G K' D :=
  ⟨fun x hx => by rw [← hk x hx]; exact h.has x hx, fun v u hv => by obtain ⟨x, h1, h2⟩ := h.only v u hv; exact ⟨x, h1, by rw [← hk x h1]; exact h2⟩⟩
theorem Ins.fresh {ι : Type} {G : Value → Option Value} {K : ι → Value} {D : ι → Prop} (h : Ins G K D) {x0 : ι} (hx : ∀ x, D x → K x ≠ K x0) : (G (K x0)).getD zero = zero := by
  cases hg : G (K x0) with
  | none => rfl
  | some u => obtain ⟨x, hD, he⟩ := h.only _ _ hg; exact absurd he.symm (hx x hD)
theorem Ins.set {ι : Type} {G G' : Value → Option Value} {K : ι → Value} {D : ι → Prop} (h : Ins G K D) {x0 : ι} (hx : ∀ x, D x → K x ≠ K x0) (hS : SetG G (K x0) one G') {D' : ι → Prop} (hd : ∀ x, D' x ↔ D x ∨ x = x0) : Ins G' K D' := by
  refine ⟨fun x hD => ?_, fun v u hv => ?_⟩
  · rcases (hd x).1 hD with h1 | h1
    · rw [hS.2 _ (hx x h1)]; exact h.has x h1
    · rw [h1]; exact hS.1
  · by_cases hvk : v = K x0
    · exact ⟨x0, (hd x0).2 (.inr rfl), hvk⟩
    · rw [hS.2 _ hvk] at hv
      obtain ⟨x, h1, h2⟩ := h.only v u hv
      exact ⟨x, (hd x).2 (.inl h1), h2⟩

/-- The units taken out so far. -/
structure Outs {ι : Type} (G : Value → Option Value) (K : ι → Value) (E D : ι → Prop) : Prop where
  gone : ∀ x, E x → D x → G (K x) = some zero
  left : ∀ x, E x → ¬ D x → G (K x) = some one
  only : ∀ v u, G v = some u → ∃ x, E x ∧ v = K x

theorem Ins.outs {ι κ : Type} {G : Value → Option Value} {K : ι → Value} {D : ι → Prop} {K' : κ → Value} {E : κ → Prop} (h : Ins G K D) (h1 : ∀ y, E y → ∃ x, D x ∧ K' y = K x) (h2 : ∀ x, D x → ∃ y, E y ∧ K x = K' y) : Outs G K' E (fun _ => False) := by
  refine ⟨fun _ _ h => h.elim, fun y hy _ => ?_, fun v u hv => ?_⟩
  · obtain ⟨x, hx, he⟩ := h1 y hy; rw [he]; exact h.has x hx
  · obtain ⟨x, hx, he⟩ := h.only v u hv
    obtain ⟨y, hy, he2⟩ := h2 x hx
    exact ⟨y, hy, he.trans he2⟩
theorem Outs.congr {ι : Type} {G : Value → Option Value} {K : ι → Value} {E D D' : ι → Prop} (h : Outs G K E D) (hd : ∀ x, D x ↔ D' x) : Outs G K E D' := by
  have : D = D' := funext fun x => propext (hd x)
  rw [← this]; exact h
theorem Outs.at_ {ι : Type} {G : Value → Option Value} {K : ι → Value} {E D : ι → Prop} (h : Outs G K E D) {x0 : ι} (hE : E x0) (hD : ¬ D x0) : (G (K x0)).getD zero = one := by rw [h.left x0 hE hD]; rfl
theorem Outs.set {ι : Type} {G G' : Value → Option Value} {K : ι → Value} {E D : ι → Prop} (h : Outs G K E D) {x0 : ι} (hE : E x0) (hinj : ∀ x, E x → K x = K x0 → x = x0) (hS : SetG G (K x0) zero G') {D' : ι → Prop} (hd : ∀ x, E x → (D' x ↔ D x ∨ x = x0)) : Outs G' K E D' := by
  refine ⟨fun x hx h1 => ?_, fun x hx h1 => ?_, fun v u hv => ?_⟩
  · by_cases hk : K x = K x0
    · rw [hk]; exact hS.1
    · rw [hS.2 _ hk]
      rcases (hd x hx).1 h1 with h2 | h2
      · exact h.gone x hx h2
      · exact absurd (by rw [h2]) hk
  · by_cases hk : K x = K x0
    · exact absurd ((hd x hx).2 (.inr (hinj x hx hk))) h1
    · rw [hS.2 _ hk]
      exact h.left x hx fun h2 => h1 ((hd x hx).2 (.inl h2))
  · by_cases hvk : v = K x0
    · exact ⟨x0, hE, hvk⟩
    · rw [hS.2 _ hvk] at hv; exact h.only v u hv
theorem Outs.done {ι : Type} {G : Value → Option Value} {K : ι → Value} {E D : ι → Prop} (h : Outs G K E D) (hd : ∀ x, E x → D x) {v u : Value} (hv : G v = some u) : u = zero := by
  obtain ⟨x, hx, rfl⟩ := h.only v u hv
  rw [h.gone x hx (hd x hx)] at hv
  cases hv; rfl

/-- A list of pairwise different elements, permuted, has them pairwise different. -/
theorem perm_inj {n : Nat} {A X : Nat → Pr} (hp : ((List.range n).map A).Perm ((List.range n).map X)) (hX : ∀ a b, a < n → b < n → X a = X b → a = b) : ∀ a b, a < n → b < n → A a = A b → a = b := by
  have hn : ((List.range n).map X).Nodup := by
    rw [List.nodup_iff_pairwise_ne] at *
    rw [List.pairwise_map]
    refine List.Pairwise.imp_of_mem ?_ List.pairwise_lt_range
    intro a b ha hb hlt he
    have := hX a b (List.mem_range.1 ha) (List.mem_range.1 hb) he
    omega
  have hA : ((List.range n).map A).Nodup := hp.nodup_iff.2 hn
  intro a b ha hb he
  have h1 : ((List.range n).map A)[a]? = some (A a) := by simp [ha]
  have h2 : ((List.range n).map A)[b]? = some (A a) := by simp [hb, he]
  exact (List.getElem?_inj (by simpa using ha) hA).1 (h1.trans h2.symm)
theorem perm_of {n : Nat} {A X : Nat → Pr} (hp : ((List.range n).map A).Perm ((List.range n).map X)) {k : Nat} (hk : k < n) : ∃ j, j < n ∧ A k = X j := by
  have : A k ∈ (List.range n).map X := hp.mem_iff.1 (List.mem_map.2 ⟨k, List.mem_range.2 hk, rfl⟩)
  obtain ⟨j, hj, he⟩ := List.mem_map.1 this
  exact ⟨j, List.mem_range.1 hj, he.symm⟩

end Go.Conv
