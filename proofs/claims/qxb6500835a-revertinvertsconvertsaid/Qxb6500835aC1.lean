/-
  C1: plain laws on the converter: insertion, runs of equal impact. No Go in sight.
-/
namespace Go.Conv

/-- (document, impact) -/
abbrev Pr := Int × Int

def lexlt (p q : Pr) : Prop := q.2 < p.2 ∨ (p.2 = q.2 ∧ p.1 < q.1)

/-- The array while A i is on its way down to place j. -/
def sh (A : Nat → Pr) (i j : Nat) : Nat → Pr := fun k => if k ≤ j then A k else if k ≤ i then A (k - 1) else A k
/-- The array once A i stands at place j. -/
def ins (A : Nat → Pr) (i j : Nat) : Nat → Pr := fun k => if k < j then A k else if k = j then A i else if k ≤ i then A (k - 1) else A k

theorem sh_start (A : Nat → Pr) (i k : Nat) : sh A i i k = A k := by
  unfold sh
  repeat' split
  all_goals first | rfl | omega
theorem sh_step (A : Nat → Pr) {i j : Nat} (hj : 0 < j) (hji : j ≤ i) (k : Nat) : sh A i (j - 1) k = if k = j then A (j - 1) else sh A i j k := by
  unfold sh
  repeat' split
  all_goals first | rfl | omega | (congr 1; omega)
theorem ins_of_sh (A : Nat → Pr) {i j : Nat} (k : Nat) : ins A i j k = if k = j then A i else sh A i j k := by
  unfold ins sh
  repeat' split
  all_goals first | rfl | omega | (congr 1; omega)

theorem range_split (A : Nat → Pr) (j m : Nat) : (List.range (j + m)).map A = (List.range j).map A ++ (List.range m).map (fun t => A (j + t)) := by
  rw [List.range_add, List.map_append, List.map_map]; rfl

theorem ins_perm (A : Nat → Pr) {i j : Nat} (hj : j ≤ i) : ((List.range (i + 1)).map (ins A i j)).Perm ((List.range (i + 1)).map A) := by
  have e1 : (List.range (i + 1)).map (ins A i j) = (List.range j).map A ++ (A i :: (List.range (i - j)).map (fun t => A (j + t))) := by
    rw [show i + 1 = j + (1 + (i - j)) by omega, range_split, range_split]
    congr 1
    · apply List.map_congr_left
      intro k hk
      have := List.mem_range.1 hk
      unfold ins; rw [if_pos this]
    · simp only [List.range_one, List.map_cons, List.map_nil, List.singleton_append]
      congr 1
      · unfold ins; rw [if_neg (show ¬ j + 0 < j by omega), if_pos (show j + 0 = j by omega)]
      · apply List.map_congr_left
        intro k hk
        have := List.mem_range.1 hk
        unfold ins; rw [if_neg (show ¬ j + (1 + k) < j by omega), if_neg (show ¬ j + (1 + k) = j by omega), if_pos (show j + (1 + k) ≤ i by omega)]
        congr 1; omega
  have e2 : (List.range (i + 1)).map A = (List.range j).map A ++ ((List.range (i - j)).map (fun t => A (j + t)) ++ [A i]) := by
    rw [show i + 1 = j + ((i - j) + 1) by omega, range_split, range_split]
    congr 2
    simp
    congr 1; omega
  rw [e1, e2]
  refine List.Perm.append_left _ ?_
  exact (List.perm_append_singleton _ _).symm

theorem ins_sorted (A : Nat → Pr) {i j : Nat} (hs : ∀ a b, a < b → b < i → lexlt (A a) (A b)) (hd : ∀ k, k < i → (A k).1 < (A i).1) (hj : j ≤ i)
    (h1 : j = 0 ∨ ¬ (A (j - 1)).2 < (A i).2) (h2 : ∀ k, j ≤ k → k < i → (A k).2 < (A i).2) : ∀ a b, a < b → b < i + 1 → lexlt (ins A i j a) (ins A i j b) := by
  intro a b hab hb
  have key : ∀ k, k < j → lexlt (A k) (A i) := fun k hk => by
    have hj0 : ¬ (A (j - 1)).2 < (A i).2 := by rcases h1 with h | h; omega; exact h
    have hk2 : (A (j - 1)).2 ≤ (A k).2 := by
      by_cases hkj : k = j - 1
      · subst hkj; exact Int.le_refl _
      · rcases hs k (j - 1) (by omega) (by omega) with h | h <;> omega
    have := hd k (by omega)
    unfold lexlt; omega
  unfold ins
  by_cases hbj : b < j
  · rw [if_pos hbj, if_pos (show a < j by omega)]; exact hs a b hab (by omega)
  · rw [if_neg hbj]
    by_cases hbe : b = j
    · subst hbe; rw [if_pos rfl, if_pos hab]; exact key a hab
    · rw [if_neg hbe, if_pos (show b ≤ i by omega)]
      by_cases haj : a < j
      · rw [if_pos haj]; exact hs a (b - 1) (by omega) (by omega)
      · rw [if_neg haj]
        by_cases hae : a = j
        · rw [if_pos hae]; exact .inl (h2 (b - 1) (by omega) (by omega))
        · rw [if_neg hae, if_pos (show a ≤ i by omega)]; exact hs (a - 1) (b - 1) (by omega) (by omega)

/-- How many of the first i places are followed by another impact. -/
def dc (A : Nat → Pr) : Nat → Nat
  | 0 => 0
  | i + 1 => dc A i + (if (A (i + 1)).2 = (A i).2 then 0 else 1)

theorem dc_mono (A : Nat → Pr) {i j : Nat} (h : i ≤ j) : dc A i ≤ dc A j := by
  induction j with
  | zero => rw [show i = 0 by omega]; exact Nat.le_refl _
  | succ j ih =>
    by_cases hij : i = j + 1
    · subst hij; exact Nat.le_refl _
    · have := ih (by omega)
      simp only [dc]; omega

theorem dc_le (A : Nat → Pr) (i : Nat) : dc A i ≤ i := by
  induction i with
  | zero => exact Nat.le_refl _
  | succ i ih => simp only [dc]; split <;> omega

/-- The groups that stand complete behind the first i places of n. -/
structure Runs (A : Nat → Pr) (n i q : Nat) (S : Nat → Nat) : Prop where
  s0 : S 0 = 0
  le : S q ≤ i
  lt : ∀ t, t < q → S t < S (t + 1)
  same : ∀ t, t < q → ∀ k, S t ≤ k → k < S (t + 1) → (A k).2 = (A (S t)).2
  cur : ∀ k, S q ≤ k → k < i → (A k).2 = (A (S q)).2 ∧ (k + 1 < n → (A (k + 1)).2 = (A (S q)).2)
  fall : ∀ t, 0 < t → t ≤ q → S t < n → (A (S t)).2 < (A (S (t - 1))).2
  cnt : i < n → q = dc A i

theorem Runs.start (A : Nat → Pr) (n : Nat) : Runs A n 0 0 (fun _ => 0) :=
  ⟨rfl, Nat.le_refl _, fun t h => by omega, fun t h => by omega, fun k h1 h2 => by omega, fun t h1 h2 => by omega, fun _ => rfl⟩

theorem Runs.stays {A : Nat → Pr} {n i q : Nat} {S : Nat → Nat} (h : Runs A n i q S) (hi : i + 1 < n) (he : (A (i + 1)).2 = (A i).2) : Runs A n (i + 1) q S := by
  have hcur : (A i).2 = (A (S q)).2 := by
    by_cases hs : S q < i
    · have := (h.cur (i - 1) (by omega) (by omega)).2 (by omega)
      rwa [show i - 1 + 1 = i by omega] at this
    · have : S q = i := by have := h.le; omega
      rw [this]
  refine ⟨h.s0, by have := h.le; omega, h.lt, h.same, fun k h1 h2 => ?_, h.fall, fun _ => ?_⟩
  · by_cases hk : k = i
    · subst hk; exact ⟨hcur, fun _ => by rw [he, hcur]⟩
    · exact h.cur k h1 (by omega)
  · have := h.cnt (by omega)
    simp only [dc, if_pos he]; omega

/-- A group more: places S q .. i. -/
theorem Runs.closes {A : Nat → Pr} {n i q : Nat} {S : Nat → Nat} (h : Runs A n i q S) (hs : ∀ a b, a < b → b < n → lexlt (A a) (A b)) (hi : i < n) (he : i + 1 = n ∨ (A (i + 1)).2 ≠ (A i).2) :
    Runs A n (i + 1) (q + 1) (fun t => if t ≤ q then S t else i + 1) := by
  have hle := h.le
  have hcur : (A i).2 = (A (S q)).2 := by
    by_cases hs' : S q < i
    · have := (h.cur (i - 1) (by omega) (by omega)).2 (by omega)
      rwa [show i - 1 + 1 = i by omega] at this
    · have : S q = i := by omega
      rw [this]
  refine ⟨by simp [h.s0], by show (if q + 1 ≤ q then S (q + 1) else i + 1) ≤ i + 1; rw [if_neg (show ¬ q + 1 ≤ q by omega)]; exact Nat.le_refl _, fun t ht => ?_, fun t ht k h1 h2 => ?_, fun k h1 h2 => ?_, fun t h1 h2 h3 => ?_, fun hn => ?_⟩
  · by_cases htq : t = q
    · subst htq; rw [if_pos (Nat.le_refl _), if_neg (show ¬ t + 1 ≤ t by omega)]; omega
    · rw [if_pos (show t ≤ q by omega), if_pos (show t + 1 ≤ q by omega)]; exact h.lt t (by omega)
  · rw [if_pos (show t ≤ q by omega)] at h1 ⊢
    by_cases htq : t = q
    · subst htq
      rw [if_neg (show ¬ t + 1 ≤ t by omega)] at h2
      by_cases hk : k = i
      · subst hk; exact hcur
      · exact (h.cur k h1 (by omega)).1
    · rw [if_pos (show t + 1 ≤ q by omega)] at h2; exact h.same t (by omega) k h1 h2
  · rw [if_neg (show ¬ q + 1 ≤ q by omega)] at h1; omega
  · by_cases htq : t = q + 1
    · subst htq
      rw [if_neg (show ¬ q + 1 ≤ q by omega)] at h3 ⊢
      rw [if_pos (show q + 1 - 1 ≤ q by omega), show q + 1 - 1 = q by omega, ← hcur]
      rcases hs i (i + 1) (by omega) h3 with h4 | h4
      · exact h4
      · rcases he with h5 | h5
        · omega
        · exact absurd h4.1.symm h5
    · rw [if_pos (show t ≤ q by omega)] at h3 ⊢
      rw [if_pos (show t - 1 ≤ q by omega)]; exact h.fall t h1 (by omega) h3
  · have := h.cnt hi
    rcases he with h5 | h5
    · omega
    · simp only [dc, if_neg h5]; omega

/-- The count at the end. -/
theorem Runs.room {A : Nat → Pr} {n i q : Nat} {S : Nat → Nat} (h : Runs A n i q S) (hi : i < n) : q + 1 ≤ 1 + dc A (n - 1) := by
  have := h.cnt hi
  have := dc_mono A (show i ≤ n - 1 by omega)
  omega

/-- What the conversion of the list X comes to: its postings in the order A, cut at S. -/
structure Out (n : Nat) (X A : Nat → Pr) (q : Nat) (S : Nat → Nat) : Prop where
  perm : ((List.range n).map A).Perm ((List.range n).map X)
  s0 : S 0 = 0
  sq : S q = n
  lt : ∀ t, t < q → S t < S (t + 1)
  same : ∀ t, t < q → ∀ k, S t ≤ k → k < S (t + 1) → (A k).2 = (A (S t)).2
  fall : ∀ t, 0 < t → t < q → (A (S t)).2 < (A (S (t - 1))).2
  rise : ∀ t, t < q → ∀ k, S t ≤ k → k + 1 < S (t + 1) → (A k).1 < (A (k + 1)).1

theorem S_le {q : Nat} {S : Nat → Nat} (h : ∀ t, t < q → S t < S (t + 1)) : ∀ t u, t ≤ u → u ≤ q → S t ≤ S u := by
  intro t u htu
  induction u with
  | zero => intro _; rw [show t = 0 by omega]; exact Nat.le_refl _
  | succ u ih =>
    intro hu
    by_cases h1 : t = u + 1
    · subst h1; exact Nat.le_refl _
    · have := ih (by omega) (by omega); have := h u (by omega); omega

theorem Runs.out {A X : Nat → Pr} {n q : Nat} {S : Nat → Nat} (h : Runs A n n q S) (hs : ∀ a b, a < b → b < n → lexlt (A a) (A b)) (hp : ((List.range n).map A).Perm ((List.range n).map X)) (hq : S q = n) : Out n X A q S := by
  refine ⟨hp, h.s0, hq, h.lt, h.same, fun t h1 h2 => h.fall t h1 (by omega) ?_, fun t ht k h1 h2 => ?_⟩
  · have := h.lt t h2
    have := S_le h.lt (t + 1) q (by omega) (Nat.le_refl _)
    omega
  · have hk := S_le h.lt (t + 1) q (by omega) (Nat.le_refl _)
    have e1 := h.same t ht k h1 (by omega)
    have e2 := h.same t ht (k + 1) (by omega) h2
    rcases hs k (k + 1) (by omega) (by omega) with h3 | h3
    · omega
    · exact h3.2

end Go.Conv
