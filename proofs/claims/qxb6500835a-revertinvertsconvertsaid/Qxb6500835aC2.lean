/-
  C2: plain laws on the converter's counting sort. No Go in sight.
-/
import Derived.Test.Qxb6500835aC1
namespace Go.Conv

/-- How many of the first i have the value v. -/
def cn (V : Nat → Nat) (v : Nat) : Nat → Nat
  | 0 => 0
  | i + 1 => cn V v i + (if V i = v then 1 else 0)

def bas (c : Nat → Nat) : Nat → Nat
  | 0 => 0
  | r + 1 => bas c r + c r
def qn (c : Nat → Nat) : Nat → Nat
  | 0 => 0
  | r + 1 => qn c r + (if 0 < c r then 1 else 0)

/-- Level s holds the value 255 - s. -/
def lc (V : Nat → Nat) (i s : Nat) : Nat := cn V (255 - s) i

theorem cn_mono (V : Nat → Nat) (v : Nat) {i j : Nat} (h : i ≤ j) : cn V v i ≤ cn V v j := by
  induction j with
  | zero => rw [show i = 0 by omega]; exact Nat.le_refl _
  | succ j ih =>
    by_cases hij : i = j + 1
    · subst hij; exact Nat.le_refl _
    · have := ih (by omega)
      simp only [cn]; omega
theorem cn_le (V : Nat → Nat) (v i : Nat) : cn V v i ≤ i := by
  induction i with
  | zero => exact Nat.le_refl _
  | succ i ih => simp only [cn]; split <;> omega
theorem cn_lt (V : Nat → Nat) {i n : Nat} (h : i < n) : cn V (V i) i < cn V (V i) n := by
  have := cn_mono V (V i) (show i + 1 ≤ n by omega)
  simp only [cn, if_true] at this; omega

theorem lc_step (V : Nat → Nat) {i s : Nat} (hs : s < 256) (hv : V i < 256) : lc V (i + 1) s = lc V i s + (if s = 255 - V i then 1 else 0) := by
  unfold lc
  simp only [cn]
  congr 1
  by_cases h : V i = 255 - s
  · rw [if_pos h, if_pos (by omega)]
  · rw [if_neg h, if_neg (by omega)]
theorem lc_mono (V : Nat → Nat) {i j : Nat} (h : i ≤ j) (s : Nat) : lc V i s ≤ lc V j s := cn_mono V _ h
theorem lc_lt (V : Nat → Nat) {i n : Nat} (h : i < n) (hv : V i < 256) : lc V i (255 - V i) < lc V n (255 - V i) := by
  unfold lc
  rw [show 255 - (255 - V i) = V i by omega]; exact cn_lt V h

theorem bas_congr {c d : Nat → Nat} {r : Nat} (h : ∀ s, s < r → c s = d s) : bas c r = bas d r := by
  induction r with
  | zero => rfl
  | succ r ih => simp only [bas]; rw [ih fun s hs => h s (by omega), h r (by omega)]
theorem bas_bump {c d : Nat → Nat} {r a : Nat} (h : ∀ s, s < r → d s = c s + (if s = a then 1 else 0)) : bas d r = bas c r + (if a < r then 1 else 0) := by
  induction r with
  | zero => rfl
  | succ r ih =>
    simp only [bas]
    rw [ih fun s hs => h s (by omega), h r (by omega)]
    by_cases h1 : a < r
    · rw [if_pos h1, if_pos (show a < r + 1 by omega), if_neg (show ¬ r = a by omega)]; omega
    · by_cases h2 : r = a
      · rw [if_neg h1, if_pos h2, if_pos (show a < r + 1 by omega)]; omega
      · rw [if_neg h1, if_neg h2, if_neg (show ¬ a < r + 1 by omega)]; omega
theorem bas_mono (c : Nat → Nat) {r s : Nat} (h : r ≤ s) : bas c r ≤ bas c s := by
  induction s with
  | zero => rw [show r = 0 by omega]; exact Nat.le_refl _
  | succ s ih =>
    by_cases hij : r = s + 1
    · subst hij; exact Nat.le_refl _
    · have := ih (by omega)
      simp only [bas]; omega
theorem qn_mono (c : Nat → Nat) {r s : Nat} (h : r ≤ s) : qn c r ≤ qn c s := by
  induction s with
  | zero => rw [show r = 0 by omega]; exact Nat.le_refl _
  | succ s ih =>
    by_cases hij : r = s + 1
    · subst hij; exact Nat.le_refl _
    · have := ih (by omega)
      simp only [qn]; omega
theorem qn_le (c : Nat → Nat) (r : Nat) : qn c r ≤ r := by
  induction r with
  | zero => exact Nat.le_refl _
  | succ r ih => simp only [qn]; split <;> omega
theorem qn_bump {c d : Nat → Nat} {r a : Nat} (h : ∀ s, s < r → d s = c s + (if s = a then 1 else 0)) : qn d r = qn c r + (if a < r ∧ c a = 0 then 1 else 0) := by
  induction r with
  | zero => rfl
  | succ r ih =>
    simp only [qn]
    rw [ih fun s hs => h s (by omega), h r (by omega)]
    by_cases h2 : r = a
    · subst h2
      rw [if_pos rfl, if_neg (show ¬ (r < r ∧ c r = 0) by omega)]
      by_cases h3 : c r = 0
      · rw [if_pos (show 0 < c r + 1 by omega), if_neg (show ¬ 0 < c r by omega), if_pos ⟨Nat.lt_succ_self r, h3⟩]
      · rw [if_pos (show 0 < c r + 1 by omega), if_pos (show 0 < c r by omega), if_neg (show ¬ (r < r + 1 ∧ c r = 0) by omega)]
    · rw [if_neg h2]
      by_cases h1 : a < r
      · by_cases h3 : c a = 0
        · rw [if_pos ⟨h1, h3⟩, if_pos (show a < r + 1 ∧ c a = 0 from ⟨by omega, h3⟩)]; simp only [Nat.add_zero]; omega
        · rw [if_neg (show ¬ (a < r ∧ c a = 0) from fun h => h3 h.2), if_neg (show ¬ (a < r + 1 ∧ c a = 0) from fun h => h3 h.2)]; rfl
      · rw [if_neg (show ¬ (a < r ∧ c a = 0) from fun h => h1 h.1), if_neg (show ¬ (a < r + 1 ∧ c a = 0) by omega)]; rfl

theorem bas_all (V : Nat → Nat) : ∀ i, (∀ k, k < i → V k < 256) → bas (lc V i) 256 = i := by
  intro i
  induction i with
  | zero =>
    intro _
    have : ∀ r, bas (lc V 0) r = 0 := fun r => by
      induction r with
      | zero => rfl
      | succ r ih => simp only [bas, ih]; rfl
    exact this 256
  | succ i ih =>
    intro h
    rw [bas_bump (fun s hs => lc_step V hs (h i (by omega))), ih fun k hk => h k (by omega), if_pos (by have := h i (by omega); omega)]

theorem qn_none (V : Nat → Nat) : ∀ r, qn (lc V 0) r = 0
  | 0 => rfl
  | r + 1 => by simp only [qn, qn_none V r]; rfl
theorem dist_step (V : Nat → Nat) {i : Nat} (hv : V i < 256) : qn (lc V (i + 1)) 256 = qn (lc V i) 256 + (if cn V (V i) i = 0 then 1 else 0) := by
  rw [qn_bump (fun s hs => lc_step V hs hv)]
  congr 1
  have e : lc V i (255 - V i) = cn V (V i) i := by unfold lc; rw [show 255 - (255 - V i) = V i by omega]
  rw [e]
  by_cases h : cn V (V i) i = 0
  · rw [if_pos ⟨by omega, h⟩, if_pos h]
  · rw [if_neg (fun h' => h h'.2), if_neg h]

/-- The groups laid out down to level r. -/
structure Lv (c : Nat → Nat) (r q : Nat) (T S : Nat → Nat) : Prop where
  s0 : S 0 = 0
  sq : S q = bas c r
  step : ∀ t, t < q → S (t + 1) = S t + c (T t)
  at_ : ∀ t, t < q → S t = bas c (T t)
  lt : ∀ t, t < q → T t < r ∧ 0 < c (T t)
  inc : ∀ t u, t < u → u < q → T t < T u
  has : ∀ s, s < r → 0 < c s → ∃ t, t < q ∧ T t = s
  cnt : q = qn c r

theorem Lv.start' (c : Nat → Nat) : Lv c 0 0 (fun _ => 0) (fun _ => 0) :=
  ⟨rfl, rfl, fun t h => by omega, fun t h => by omega, fun t h => by omega, fun t u h1 h2 => by omega, fun s h => by omega, rfl⟩

theorem Lv.skip {c : Nat → Nat} {r q : Nat} {T S : Nat → Nat} (h : Lv c r q T S) (hc : c r = 0) : Lv c (r + 1) q T S :=
  ⟨h.s0, by simp only [bas]; rw [hc]; exact h.sq, h.step, h.at_, fun t ht => ⟨by have := (h.lt t ht).1; omega, (h.lt t ht).2⟩, h.inc, fun s hs hcs => by
    by_cases hsr : s = r
    · subst hsr; omega
    · exact h.has s (by omega) hcs, by simp only [qn]; rw [if_neg (by omega)]; exact h.cnt⟩

theorem Lv.take {c : Nat → Nat} {r q : Nat} {T S : Nat → Nat} (h : Lv c r q T S) (hc : 0 < c r) : Lv c (r + 1) (q + 1) (fun t => if t < q then T t else r) (fun t => if t ≤ q then S t else bas c r + c r) := by
  refine ⟨by simp [h.s0], ?_, fun t ht => ?_, fun t ht => ?_, fun t ht => ?_, fun t u h1 h2 => ?_, fun s hs hcs => ?_, ?_⟩
  · show (if q + 1 ≤ q then S (q + 1) else bas c r + c r) = bas c r + c r
    rw [if_neg (show ¬ q + 1 ≤ q by omega)]
  · by_cases htq : t = q
    · subst htq; rw [if_pos (Nat.le_refl _), if_neg (show ¬ t + 1 ≤ t by omega), if_neg (show ¬ t < t by omega), h.sq]
    · rw [if_pos (show t ≤ q by omega), if_pos (show t + 1 ≤ q by omega), if_pos (show t < q by omega)]; exact h.step t (by omega)
  · by_cases htq : t = q
    · subst htq; rw [if_pos (Nat.le_refl _), if_neg (show ¬ t < t by omega), h.sq]
    · rw [if_pos (show t ≤ q by omega), if_pos (show t < q by omega)]; exact h.at_ t (by omega)
  · by_cases htq : t = q
    · subst htq; rw [if_neg (show ¬ t < t by omega)]; exact ⟨by omega, hc⟩
    · rw [if_pos (show t < q by omega)]; have := h.lt t (by omega); exact ⟨by omega, this.2⟩
  · rw [if_pos (show t < q by omega)]
    by_cases huq : u = q
    · subst huq; rw [if_neg (show ¬ u < u by omega)]; exact (h.lt t h1).1
    · rw [if_pos (show u < q by omega)]; exact h.inc t u h1 (by omega)
  · by_cases hsr : s = r
    · subst hsr; exact ⟨q, by omega, by rw [if_neg (show ¬ q < q by omega)]⟩
    · obtain ⟨t, ht, he⟩ := h.has s (by omega) hcs
      exact ⟨t, by omega, by rw [if_pos ht]; exact he⟩
  · simp only [qn]; rw [if_pos hc]; have := h.cnt; omega

/-- The documents dealt out so far. -/
structure Dealt (V : Nat → Nat) (X : Nat → Pr) (n i : Nat) (A : Nat → Pr) : Prop where
  src : ∀ s j, s < 256 → j < lc V i s → (A (bas (lc V n) s + j)).2 = ((255 - s : Nat) : Int) ∧ ∃ k, k < i ∧ A (bas (lc V n) s + j) = X k
  rise : ∀ s j, s < 256 → j + 1 < lc V i s → (A (bas (lc V n) s + j)).1 < (A (bas (lc V n) s + j + 1)).1
  perm : ((List.range 256).flatMap fun s => (List.range (lc V i s)).map fun j => A (bas (lc V n) s + j)).Perm ((List.range i).map X)

theorem Dealt.start' (V : Nat → Nat) (X A : Nat → Pr) (n : Nat) : Dealt V X n 0 A := by
  have h0 : ∀ s, lc V 0 s = 0 := fun s => rfl
  refine ⟨fun s j _ h => by rw [h0] at h; omega, fun s j _ h => by rw [h0] at h; omega, ?_⟩
  have : ((List.range 256).flatMap fun s => (List.range (lc V 0 s)).map fun j => A (bas (lc V n) s + j)) = [] := by
    rw [List.flatMap_eq_nil_iff]; intro s _; rw [h0]; rfl
  rw [this]
  exact List.Perm.refl _

theorem flatMap_bump {f g : Nat → List Pr} {a : Nat} {x : Pr} : ∀ (l : List Nat), l.Nodup → a ∈ l → (∀ s, s ∈ l → s ≠ a → g s = f s) → g a = f a ++ [x] → (l.flatMap g).Perm (l.flatMap f ++ [x])
  | [], _, h, _, _ => by cases h
  | s :: l, hn, hm, ho, ha => by
    simp only [List.flatMap_cons]
    have hn' := List.nodup_cons.1 hn
    by_cases hs : s = a
    · subst hs
      have e : l.flatMap g = l.flatMap f := by
        rw [List.flatMap_def, List.flatMap_def]
        congr 1
        apply List.map_congr_left
        intro t ht
        exact ho t (by simp [ht]) (fun h => hn'.1 (h ▸ ht))
      rw [ha, e, List.append_assoc, List.append_assoc]
      exact List.Perm.append_left _ List.perm_append_comm
    · rw [ho s (by simp) hs, List.append_assoc]
      refine List.Perm.append_left _ (flatMap_bump l hn'.2 ?_ (fun t ht h => ho t (by simp [ht]) h) ha)
      rcases List.mem_cons.1 hm with h | h
      · exact absurd h.symm hs
      · exact h

theorem Dealt.deal {V : Nat → Nat} {X : Nat → Pr} {n i : Nat} {A : Nat → Pr} (h : Dealt V X n i A) (hi : i < n) (hv : V i < 256) (hX2 : (X i).2 = (V i : Int)) (hX : ∀ a b, a < b → b < n → (X a).1 < (X b).1) :
    Dealt V X n (i + 1) (fun p => if p = bas (lc V n) (255 - V i) + lc V i (255 - V i) then X i else A p) := by
  have hlt := lc_lt V hi hv
  have hmn := fun s => lc_mono V (Nat.le_of_lt hi) s
  have hoff : ∀ s j, s < 256 → j < lc V i s → bas (lc V n) s + j ≠ bas (lc V n) (255 - V i) + lc V i (255 - V i) := fun s j hs hj he => by
    have h2 := hmn s
    rcases Nat.lt_trichotomy s (255 - V i) with h1 | h1 | h1
    · have h3 := bas_mono (lc V n) (show s + 1 ≤ 255 - V i by omega)
      simp only [bas] at h3; omega
    · subst h1; omega
    · have h3 := bas_mono (lc V n) (show 255 - V i + 1 ≤ s by omega)
      simp only [bas] at h3; omega
  have hst : ∀ s, s < 256 → lc V (i + 1) s = lc V i s + (if s = 255 - V i then 1 else 0) := fun s hs => lc_step V hs hv
  refine ⟨fun s j hs hj => ?_, fun s j hs hj => ?_, ?_⟩
  · by_cases hn : s = 255 - V i ∧ j = lc V i (255 - V i)
    · obtain ⟨rfl, rfl⟩ := hn
      rw [if_pos rfl]
      exact ⟨by rw [hX2]; omega, i, by omega, rfl⟩
    · have hj' : j < lc V i s := by
        rw [hst s hs] at hj
        split at hj
        · rename_i h1; subst h1; have : j ≠ lc V i (255 - V i) := fun h => hn ⟨rfl, h⟩; omega
        · omega
      rw [if_neg (hoff s j hs hj')]
      obtain ⟨h1, k, hk, h2⟩ := h.src s j hs hj'
      exact ⟨h1, k, by omega, h2⟩
  · have hj' : j < lc V i s := by rw [hst s hs] at hj; split at hj <;> omega
    rw [if_neg (hoff s j hs hj')]
    by_cases hn : s = 255 - V i ∧ j + 1 = lc V i (255 - V i)
    · obtain ⟨rfl, h3⟩ := hn
      rw [if_pos (by omega)]
      obtain ⟨_, k, hk, h2⟩ := h.src _ j hs hj'
      rw [h2]; exact hX k i hk hi
    · have hj2 : j + 1 < lc V i s := by
        rw [hst s hs] at hj
        split at hj
        · rename_i h1; subst h1; have : j + 1 ≠ lc V i (255 - V i) := fun h => hn ⟨rfl, h⟩; omega
        · omega
      rw [if_neg (by have := hoff s (j + 1) hs hj2; omega)]
      exact h.rise s j hs hj2
  · rw [List.range_succ (n := i), List.map_append]
    refine List.Perm.trans (flatMap_bump (f := fun s => (List.range (lc V i s)).map fun j => A (bas (lc V n) s + j)) (a := 255 - V i) (x := X i) _ List.nodup_range (List.mem_range.2 (by omega)) (fun s hs hne => ?_) ?_) (List.Perm.append_right _ h.perm)
    · have hs' := List.mem_range.1 hs
      rw [hst s hs', if_neg hne]
      apply List.map_congr_left
      intro j hj
      rw [if_neg (hoff s j hs' (List.mem_range.1 hj))]
    · rw [hst _ (by omega), if_pos rfl, List.range_succ, List.map_append]
      congr 1
      · apply List.map_congr_left
        intro j hj
        rw [if_neg (hoff _ j (by omega) (List.mem_range.1 hj))]
      · simp

theorem range_levels (c : Nat → Nat) (A : Nat → Pr) : ∀ r, ((List.range r).flatMap fun s => (List.range (c s)).map fun j => A (bas c s + j)) = (List.range (bas c r)).map A
  | 0 => rfl
  | r + 1 => by
    rw [List.range_succ, List.flatMap_append, range_levels c A r]
    simp only [bas]
    rw [range_split]
    simp

theorem Dealt.out {V : Nat → Nat} {X : Nat → Pr} {n q : Nat} {A : Nat → Pr} {T S : Nat → Nat} (h : Dealt V X n n A) (hv : ∀ k, k < n → V k < 256) (hL : Lv (lc V n) 256 q T S) : Out n X A q S := by
  have hst := bas_all V n hv
  have lev : ∀ t, t < q → ∀ k, S t ≤ k → k < S (t + 1) → k = bas (lc V n) (T t) + (k - S t) ∧ k - S t < lc V n (T t) := fun t ht k h1 h2 => by
    rw [hL.step t ht] at h2
    have := hL.at_ t ht
    omega
  have impc : ∀ t, t < q → ∀ k, S t ≤ k → k < S (t + 1) → (A k).2 = ((255 - T t : Nat) : Int) := fun t ht k h1 h2 => by
    obtain ⟨e1, e2⟩ := lev t ht k h1 h2
    rw [e1]; exact (h.src (T t) _ (hL.lt t ht).1 e2).1
  have slt : ∀ t, t < q → S t < S (t + 1) := fun t ht => by rw [hL.step t ht]; have := (hL.lt t ht).2; omega
  refine ⟨?_, hL.s0, by rw [hL.sq, hst], slt, fun t ht k h1 h2 => ?_, fun t h1 h2 => ?_, fun t ht k h1 h2 => ?_⟩
  · have := h.perm
    rwa [range_levels, hst] at this
  · rw [impc t ht k h1 h2, impc t ht (S t) (Nat.le_refl _) (slt t ht)]
  · have e := slt (t - 1) (by omega)
    rw [impc t h2 (S t) (Nat.le_refl _) (slt t h2), impc (t - 1) (by omega) (S (t - 1)) (Nat.le_refl _) e]
    have := hL.inc (t - 1) t (by omega) h2
    have := (hL.lt t h2).1
    omega
  · obtain ⟨e1, e2⟩ := lev t ht k h1 (by omega)
    obtain ⟨e3, e4⟩ := lev t ht (k + 1) (by omega) h2
    have := h.rise (T t) (k - S t) (hL.lt t ht).1 (by omega)
    rw [← e1] at this
    exact this

theorem level_of (c : Nat → Nat) {k : Nat} : ∀ r, k < bas c r → ∃ s, s < r ∧ ∃ j, j < c s ∧ k = bas c s + j
  | 0, h => absurd h (Nat.not_lt_zero _)
  | r + 1, h => by
    by_cases h1 : k < bas c r
    · obtain ⟨s, hs, j, hj, e⟩ := level_of c r h1
      exact ⟨s, by omega, j, hj, e⟩
    · simp only [bas] at h
      exact ⟨r, by omega, k - bas c r, by omega, by omega⟩

theorem Lv.inj {c : Nat → Nat} {r q : Nat} {T S : Nat → Nat} (h : Lv c r q T S) {t u : Nat} (ht : t < q) (hu : u < q) (he : T t = T u) : t = u := by
  rcases Nat.lt_trichotomy t u with h1 | h1 | h1
  · have := h.inc t u h1 hu; omega
  · exact h1
  · have := h.inc u t h1 ht; omega
end Go.Conv
