/-
  C4: plain laws on a binary heap kept in an array, and on merging. No Go in sight.
-/
import Derived.Test.Qxb6500835aC1
set_option linter.unusedSimpArgs false
namespace Go.Conv

variable {α : Type}

def swp (it : Nat → α) (i j : Nat) : Nat → α := fun k => if k = i then it j else if k = j then it i else it k

theorem swp_perm (it : Nat → α) {n i j : Nat} (hi : i < n) (hj : j < n) : ((List.range n).map (swp it i j)).Perm ((List.range n).map it) := by
  have hl : ((List.range n).map it).toArray.size = n := by simp
  have h := Array.swap_perm (xs := ((List.range n).map it).toArray) (i := i) (j := j) (by omega) (by omega)
  have h' := h.toList
  have e : (((List.range n).map it).toArray.swap i j (by omega) (by omega)).toList = (List.range n).map (swp it i j) := by
    apply List.ext_getElem?
    intro k
    simp only [Array.getElem?_toList, Array.getElem?_swap]
    by_cases hk : k < n
    · simp only [swp, List.getElem?_map, List.getElem?_range hk, Option.map_some]
      by_cases h1 : j = k
      · subst h1
        by_cases h2 : j = i
        · subst h2; simp [hk]
        · simp [h2, hi, hk]
      · by_cases h2 : i = k
        · subst h2; simp [h1, hj, hk]
        · simp [h1, h2, Ne.symm h1, Ne.symm h2, hk]
    · have h1 : ¬ j = k := by omega
      have h2 : ¬ i = k := by omega
      simp [h1, h2, hk, List.getElem?_eq_none]
  rw [e] at h'
  simpa using h'

/-- Every child is no less than its parent. -/
def HP (key : α → Int) (it : Nat → α) (n : Nat) : Prop := ∀ i, 0 < i → i < n → key (it ((i - 1) / 2)) ≤ key (it i)

theorem HP.top {key : α → Int} {it : Nat → α} {n : Nat} (h : HP key it n) : ∀ i, i < n → key (it 0) ≤ key (it i) := by
  intro i
  induction i using Nat.strongRecOn with
  | ind i ih =>
    intro hi
    by_cases h0 : i = 0
    · subst h0; exact Int.le_refl _
    · have h1 := ih ((i - 1) / 2) (by omega) (by omega)
      have h2 := h i (by omega) hi
      omega

/-- A heap but for place i, on the way up. -/
structure Up (key : α → Int) (it : Nat → α) (n i : Nat) : Prop where
  lt : i < n
  hp : ∀ k, 0 < k → k < n → k ≠ i → key (it ((k - 1) / 2)) ≤ key (it k)
  gp : 0 < i → ∀ k, 0 < k → k < n → (k - 1) / 2 = i → key (it ((i - 1) / 2)) ≤ key (it k)

theorem Up.start {key : α → Int} {it it' : Nat → α} {n : Nat} (h : HP key it n) (he : ∀ k, k < n → it' k = it k) : Up key it' (n + 1) n := by
  refine ⟨by omega, fun k h0 hk hne => ?_, fun _ k h0 hk he' => by omega⟩
  rw [he k (by omega), he ((k - 1) / 2) (by omega)]
  exact h k h0 (by omega)

theorem Up.done {key : α → Int} {it : Nat → α} {n i : Nat} (h : Up key it n i) (hd : i = 0 ∨ key (it ((i - 1) / 2)) ≤ key (it i)) : HP key it n := by
  intro k h0 hk
  by_cases hki : k = i
  · subst hki
    rcases hd with hd | hd
    · omega
    · exact hd
  · exact h.hp k h0 hk hki

theorem Up.step {key : α → Int} {it : Nat → α} {n i : Nat} (h : Up key it n i) (h0 : 0 < i) (hlt : key (it i) < key (it ((i - 1) / 2))) : Up key (swp it i ((i - 1) / 2)) n ((i - 1) / 2) := by
  have hin := h.lt
  refine ⟨by omega, fun k hk0 hk hne => ?_, fun hp k hk0 hk he => ?_⟩
  · unfold swp
    by_cases hki : k = i
    · subst hki
      rw [if_neg (show ¬ (k - 1) / 2 = k by omega), if_pos rfl, if_pos rfl]
      omega
    · rw [if_neg hki, if_neg hne]
      by_cases hp1 : (k - 1) / 2 = i
      · rw [if_pos hp1]; exact h.gp h0 k hk0 hk hp1
      · rw [if_neg hp1]
        by_cases hp2 : (k - 1) / 2 = (i - 1) / 2
        · rw [if_pos hp2]
          have := h.hp k hk0 hk hki
          rw [hp2] at this
          omega
        · rw [if_neg hp2]; exact h.hp k hk0 hk hki
  · unfold swp
    have hpp := h.hp ((i - 1) / 2) hp (by omega) (by omega)
    rw [if_neg (show ¬ ((i - 1) / 2 - 1) / 2 = i by omega), if_neg (show ¬ ((i - 1) / 2 - 1) / 2 = (i - 1) / 2 by omega)]
    by_cases hki : k = i
    · subst hki; rw [if_pos rfl]; exact hpp
    · rw [if_neg hki, if_neg (show ¬ k = (i - 1) / 2 by omega)]
      have := h.hp k hk0 hk hki
      rw [he] at this
      omega

/-- A heap but for place i, on the way down. -/
structure Down (key : α → Int) (it : Nat → α) (n i : Nat) : Prop where
  hp : ∀ k, 0 < k → k < n → (k - 1) / 2 ≠ i → key (it ((k - 1) / 2)) ≤ key (it k)
  gp : 0 < i → ∀ k, 0 < k → k < n → (k - 1) / 2 = i → key (it ((i - 1) / 2)) ≤ key (it k)

theorem Down.start {key : α → Int} {it it' : Nat → α} {n m : Nat} (h : HP key it n) (hm : m ≤ n) (he : ∀ k, 0 < k → k < m → it' k = it k) : Down key it' m 0 := by
  refine ⟨fun k h0 hk hne => ?_, fun h => by omega⟩
  rw [he k h0 hk, he ((k - 1) / 2) (by omega) (by omega)]
  exact h k h0 (by omega)

theorem Down.done {key : α → Int} {it : Nat → α} {n i : Nat} (h : Down key it n i) (h1 : 2 * i + 1 < n → key (it i) ≤ key (it (2 * i + 1))) (h2 : 2 * i + 2 < n → key (it i) ≤ key (it (2 * i + 2))) : HP key it n := by
  intro k h0 hk
  by_cases hp : (k - 1) / 2 = i
  · rw [hp]
    by_cases hl : k = 2 * i + 1
    · subst hl; exact h1 hk
    · have hr : k = 2 * i + 2 := by omega
      subst hr; exact h2 hk
  · exact h.hp k h0 hk hp

/-- The lesser child c goes up. -/
theorem Down.step {key : α → Int} {it : Nat → α} {n i c : Nat} (h : Down key it n i) (hc : c < n) (hcp : c = 2 * i + 1 ∨ c = 2 * i + 2) (hlt : key (it c) < key (it i))
    (hmin : ∀ k, 0 < k → k < n → (k - 1) / 2 = i → key (it c) ≤ key (it k)) : Down key (swp it i c) n c := by
  have hpc : (c - 1) / 2 = i := by omega
  refine ⟨fun k h0 hk hne => ?_, fun h0c k h0 hk he => ?_⟩
  · unfold swp
    by_cases hkc : k = c
    · subst hkc
      rw [hpc, if_pos rfl, if_neg (show ¬ k = i by omega), if_pos rfl]; omega
    · by_cases hki : k = i
      · subst hki
        rw [if_neg (show ¬ (k - 1) / 2 = k by omega), if_neg (show ¬ (k - 1) / 2 = c by omega), if_pos rfl]
        exact h.gp h0 c (by omega) hc hpc
      · rw [if_neg hki, if_neg hkc]
        by_cases hp1 : (k - 1) / 2 = i
        · rw [if_pos hp1]; exact hmin k h0 hk hp1
        · rw [if_neg hp1, if_neg hne]; exact h.hp k h0 hk hp1
  · unfold swp
    rw [hpc, if_pos rfl, if_neg (show ¬ k = i by omega), if_neg (show ¬ k = c by omega)]
    have := h.hp k h0 hk (by omega)
    rw [he] at this; exact this

end Go.Conv
