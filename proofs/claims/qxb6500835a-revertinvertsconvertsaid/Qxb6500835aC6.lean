/-
  C6: plain laws on merging groups back into one list. No Go in sight.
-/
import Derived.Test.Qxb6500835aC5
namespace Go.Conv

/-- The groups' postings one behind the other. -/
def cat (D : Nat → Nat → Int) (I : Nat → Int) (l : Nat → Nat) : Nat → Nat → Pr
  | 0, _ => (0, 0)
  | r + 1, p => if p < bas l r then cat D I l r p else (D r (p - bas l r), I r)

theorem cat_at (D : Nat → Nat → Int) (I : Nat → Int) (l : Nat → Nat) : ∀ q t j, t < q → j < l t → cat D I l q (bas l t + j) = (D t j, I t)
  | 0, t, j, h, _ => by omega
  | r + 1, t, j, h, hj => by
    unfold cat
    by_cases htr : t = r
    · subst htr
      rw [if_neg (by omega), show bas l t + j - bas l t = j by omega]
    · have hm := bas_mono l (show t + 1 ≤ r by omega)
      simp only [bas] at hm
      rw [if_pos (by omega)]
      exact cat_at D I l r t j (by omega) hj

/-- The groups that Revert takes. -/
def Vg (q : Nat) (l : Nat → Nat) (D : Nat → Nat → Int) (I : Nat → Int) : Prop :=
  ∀ g, g < q → I g ≠ 0 ∧ (0 < g → I g < I (g - 1)) ∧ 0 < l g ∧ ∀ j, 0 < j → j < l g → D g (j - 1) < D g j

def Dist (q : Nat) (l : Nat → Nat) (D : Nat → Nat → Int) : Prop := ∀ g j g' j', g < q → j < l g → g' < q → j' < l g' → D g j = D g' j' → g = g' ∧ j = j'

/-- The merge so far: at g of group g's documents are out. -/
structure Mg (q : Nat) (l : Nat → Nat) (D : Nat → Nat → Int) (I : Nat → Int) (at' : Nat → Nat) (k : Nat) (B : Nat → Pr) : Prop where
  le : ∀ g, g < q → at' g ≤ l g
  perm : ((List.range q).flatMap fun g => (List.range (at' g)).map fun j => (D g j, I g)).Perm ((List.range k).map B)
  inc : ∀ a b, a < b → b < k → (B a).1 < (B b).1
  low : ∀ g, g < q → at' g < l g → ∀ a, a < k → (B a).1 ≤ D g (at' g)

/-- The cursors in the heap. -/
structure HLok (q : Nat) (l : Nat → Nat) (at' : Nat → Nat) (HL : List (Nat × Nat)) : Prop where
  mem : ∀ c, c ∈ HL → c.1 < q ∧ c.2 = at' c.1 ∧ at' c.1 < l c.1
  nd : (HL.map (·.1)).Nodup
  all : ∀ g, g < q → at' g < l g → ∃ c, c ∈ HL ∧ c.1 = g

theorem HLok.perm {q : Nat} {l at' : Nat → Nat} {HL HL' : List (Nat × Nat)} (h : HLok q l at' HL) (hp : HL.Perm HL') : HLok q l at' HL' :=
  ⟨fun c hc => h.mem c (hp.mem_iff.2 hc), (hp.map _).nodup_iff.1 h.nd, fun g hg hlt => by obtain ⟨c, h1, h2⟩ := h.all g hg hlt; exact ⟨c, hp.mem_iff.1 h1, h2⟩⟩

theorem Mg.start (q : Nat) (l : Nat → Nat) (D : Nat → Nat → Int) (I : Nat → Int) (B : Nat → Pr) : Mg q l D I (fun _ => 0) 0 B := by
  refine ⟨fun g _ => Nat.zero_le _, ?_, fun a b _ h => by omega, fun g _ _ a h => by omega⟩
  have : ((List.range q).flatMap fun g => (List.range 0).map fun j => (D g j, I g)) = [] := by
    rw [List.flatMap_eq_nil_iff]; intro s _; rfl
  rw [this]
  exact List.Perm.refl _

def bump (at' : Nat → Nat) (g : Nat) : Nat → Nat := fun u => if u = g then at' g + 1 else at' u

theorem Mg.step {q : Nat} {l : Nat → Nat} {D : Nat → Nat → Int} {I : Nat → Int} {at' : Nat → Nat} {k : Nat} {B B' : Nat → Pr} (h : Mg q l D I at' k B) (hv : Vg q l D I) {g : Nat} (hg : g < q) (hlt : at' g < l g)
    (hmin : ∀ u, u < q → at' u < l u → D g (at' g) ≤ D u (at' u)) (hne : 0 < k → (B (k - 1)).1 ≠ D g (at' g)) (hB : ∀ a, a < k → B' a = B a) (hBk : B' k = (D g (at' g), I g)) : Mg q l D I (bump at' g) (k + 1) B' := by
  have hlast : ∀ a, a < k → (B a).1 < D g (at' g) := fun a ha => by
    have h1 := h.low g hg hlt (k - 1) (by omega)
    have h2 := hne (by omega)
    by_cases hak : a = k - 1
    · subst hak; omega
    · have := h.inc a (k - 1) (by omega) (by omega); omega
  refine ⟨fun u hu => ?_, ?_, fun a b hab hb => ?_, fun u hu hul a ha => ?_⟩
  · unfold bump
    by_cases he : u = g
    · subst he; rw [if_pos rfl]; omega
    · rw [if_neg he]; exact h.le u hu
  · rw [List.range_succ, List.map_append]
    have e : (List.range k).map B' = (List.range k).map B := List.map_congr_left fun a ha => hB a (List.mem_range.1 ha)
    rw [e]
    refine List.Perm.trans (flatMap_bump (f := fun u => (List.range (at' u)).map fun j => (D u j, I u)) (a := g) (x := (D g (at' g), I g)) _ List.nodup_range (List.mem_range.2 hg) (fun s _ hs => ?_) ?_) ?_
    · simp only [bump, if_neg hs]
    · show (List.range (if g = g then at' g + 1 else at' g)).map (fun j => (D g j, I g)) = _
      rw [if_pos rfl, List.range_succ, List.map_append]; rfl
    · have := List.Perm.append_right [(D g (at' g), I g)] h.perm
      simpa [hBk] using this
  · by_cases hbk : b = k
    · subst hbk
      rw [hB a hab, hBk]; exact hlast a hab
    · rw [hB a (by omega), hB b (by omega)]; exact h.inc a b hab (by omega)
  · unfold bump at hul ⊢
    by_cases he : u = g
    · subst he
      rw [if_pos rfl] at hul ⊢
      have hr := (hv u hu).2.2.2 (at' u + 1) (by omega) hul
      rw [show at' u + 1 - 1 = at' u by omega] at hr
      by_cases hak : a = k
      · subst hak; rw [hBk]; exact Int.le_of_lt hr
      · rw [hB a (by omega)]; have := hlast a (by omega); omega
    · rw [if_neg he] at hul ⊢
      by_cases hak : a = k
      · subst hak; rw [hBk]; exact hmin u hu hul
      · rw [hB a (by omega)]; exact h.low u hu hul a (by omega)

/-- The next document is the last one again: a document stands in two groups. -/
theorem Mg.dup {q : Nat} {l : Nat → Nat} {D : Nat → Nat → Int} {I : Nat → Int} {at' : Nat → Nat} {k : Nat} {B : Nat → Pr} (h : Mg q l D I at' k B) {g : Nat} (hg : g < q) (hlt : at' g < l g) (hk : 0 < k) (he : (B (k - 1)).1 = D g (at' g)) : ¬ Dist q l D := by
  intro hd
  have hm : B (k - 1) ∈ (List.range k).map B := List.mem_map.2 ⟨k - 1, List.mem_range.2 (by omega), rfl⟩
  have hm' := h.perm.mem_iff.2 hm
  obtain ⟨u, hu, hj⟩ := List.mem_flatMap.1 hm'
  obtain ⟨j, hj, e⟩ := List.mem_map.1 hj
  have hu' := List.mem_range.1 hu
  have hj' := List.mem_range.1 hj
  have := h.le u hu'
  obtain ⟨rfl, rfl⟩ := hd u j g (at' g) hu' (by omega) hg hlt (by rw [← he, ← e])
  omega

theorem HLok.moved {q : Nat} {l at' : Nat → Nat} {c : Nat × Nat} {tl HL' : List (Nat × Nat)} (h : HLok q l at' (c :: tl)) (hlt : at' c.1 + 1 < l c.1) (hp : HL'.Perm ((c.1, at' c.1 + 1) :: tl)) : HLok q l (bump at' c.1) HL' := by
  have hnd := h.nd
  simp only [List.map_cons, List.nodup_cons] at hnd
  have hne : ∀ d, d ∈ tl → d.1 ≠ c.1 := fun d hd he => hnd.1 (List.mem_map.2 ⟨d, hd, he⟩)
  refine HLok.perm ⟨fun d hd => ?_, ?_, fun g hg hgl => ?_⟩ hp.symm
  · rcases List.mem_cons.1 hd with rfl | hd
    · have hb : bump at' c.1 c.1 = at' c.1 + 1 := by unfold bump; rw [if_pos rfl]
      simp only [hb]
      exact ⟨(h.mem c (by simp)).1, trivial, hlt⟩
    · have := h.mem d (by simp [hd])
      simp only [bump, if_neg (hne d hd)]; exact this
  · simpa using h.nd
  · by_cases hgc : g = c.1
    · exact ⟨_, List.mem_cons_self .., hgc.symm⟩
    · simp only [bump, if_neg hgc] at hgl
      obtain ⟨d, hd, he⟩ := h.all g hg hgl
      rcases List.mem_cons.1 hd with rfl | hd
      · exact absurd he.symm hgc
      · exact ⟨d, by simp [hd], he⟩

theorem HLok.gone {q : Nat} {l at' : Nat → Nat} {c : Nat × Nat} {tl HL' : List (Nat × Nat)} (h : HLok q l at' (c :: tl)) (hlt : ¬ at' c.1 + 1 < l c.1) (hp : HL'.Perm tl) : HLok q l (bump at' c.1) HL' := by
  have hnd := h.nd
  simp only [List.map_cons, List.nodup_cons] at hnd
  have hne : ∀ d, d ∈ tl → d.1 ≠ c.1 := fun d hd he => hnd.1 (List.mem_map.2 ⟨d, hd, he⟩)
  refine HLok.perm ⟨fun d hd => ?_, hnd.2, fun g hg hgl => ?_⟩ hp.symm
  · have := h.mem d (by simp [hd])
    simp only [bump, if_neg (hne d hd)]; exact this
  · by_cases hgc : g = c.1
    · subst hgc
      unfold bump at hgl
      rw [if_pos rfl] at hgl; omega
    · simp only [bump, if_neg hgc] at hgl
      obtain ⟨d, hd, he⟩ := h.all g hg hgl
      rcases List.mem_cons.1 hd with rfl | hd
      · exact absurd he.symm hgc
      · exact ⟨d, hd, he⟩

theorem HLok.start {q : Nat} {l : Nat → Nat} {HL : List (Nat × Nat)} (hl : ∀ g, g < q → 0 < l g) (hp : HL.Perm ((List.range q).map fun g => (g, 0))) : HLok q l (fun _ => 0) HL := by
  refine HLok.perm ⟨fun c hc => ?_, ?_, fun g hg _ => ⟨(g, 0), List.mem_map.2 ⟨g, List.mem_range.2 hg, rfl⟩, rfl⟩⟩ hp.symm
  · obtain ⟨g, hg, rfl⟩ := List.mem_map.1 hc
    have := List.mem_range.1 hg
    exact ⟨this, rfl, hl g this⟩
  · rw [List.map_map]
    have : ((fun x : Nat × Nat => x.1) ∘ fun g => (g, 0)) = id := rfl
    rw [this, List.map_id]; exact List.nodup_range

/-- The end of the merge. -/
theorem Mg.out {q : Nat} {l : Nat → Nat} {D : Nat → Nat → Int} {I : Nat → Int} {at' : Nat → Nat} {k : Nat} {B : Nat → Pr} (h : Mg q l D I at' k B) (hv : Vg q l D I) (ha : ∀ g, g < q → at' g = l g) : k = bas l q ∧ Out k B (cat D I l q) q (bas l) := by
  have e : ((List.range q).flatMap fun g => (List.range (at' g)).map fun j => (D g j, I g)) = (List.range (bas l q)).map (cat D I l q) := by
    rw [← range_levels l (cat D I l q) q, List.flatMap_def, List.flatMap_def]
    congr 1
    apply List.map_congr_left
    intro g hg
    have hg' := List.mem_range.1 hg
    rw [ha g hg']
    apply List.map_congr_left
    intro j hj
    exact (cat_at D I l q g j hg' (List.mem_range.1 hj)).symm
  have hp := h.perm
  rw [e] at hp
  have hk : k = bas l q := by have := hp.length_eq; simpa using this.symm
  subst hk
  have lev : ∀ t, t < q → ∀ p, bas l t ≤ p → p < bas l (t + 1) → cat D I l q p = (D t (p - bas l t), I t) := fun t ht p h1 h2 => by
    simp only [bas] at h2
    have := cat_at D I l q t (p - bas l t) ht (by omega)
    rwa [show bas l t + (p - bas l t) = p by omega] at this
  have slt : ∀ t, t < q → bas l t < bas l (t + 1) := fun t ht => by simp only [bas]; have := (hv t ht).2.2.1; omega
  refine ⟨rfl, hp, rfl, rfl, slt, fun t ht p h1 h2 => ?_, fun t h1 h2 => ?_, fun t ht p h1 h2 => ?_⟩
  · rw [lev t ht p h1 h2, lev t ht (bas l t) (Nat.le_refl _) (slt t ht)]
  · have s1 := slt (t - 1) (by omega)
    rw [lev t h2 (bas l t) (Nat.le_refl _) (slt t h2), lev (t - 1) (by omega) (bas l (t - 1)) (Nat.le_refl _) s1]
    exact (hv t h2).2.1 h1
  · rw [lev t ht p h1 (by omega), lev t ht (p + 1) (by omega) h2]
    have h2' := h2
    simp only [bas] at h2'
    have := (hv t ht).2.2.2 (p + 1 - bas l t) (by omega) (by omega)
    rwa [show p + 1 - bas l t - 1 = p - bas l t by omega] at this

/-- The groups of a conversion are such groups, and their documents are pairwise different. -/
theorem Out.vg {n : Nat} {X A : Nat → Pr} {q : Nat} {S : Nat → Nat} (h : Out n X A q S) (h0 : ∀ k, k < n → (X k).2 ≠ 0) : Vg q (fun t => S (t + 1) - S t) (fun t j => (A (S t + j)).1) (fun t => (A (S t)).2) := by
  intro g hg
  have l1 := h.lt g hg
  have l2 := S_le h.lt (g + 1) q (by omega) (Nat.le_refl _)
  rw [h.sq] at l2
  refine ⟨?_, fun hp => h.fall g hp hg, by simp only; omega, fun j hj hjl => ?_⟩
  · have : A (S g) ∈ (List.range n).map X := h.perm.mem_iff.1 (List.mem_map.2 ⟨S g, List.mem_range.2 (by omega), rfl⟩)
    obtain ⟨j, hj, e⟩ := List.mem_map.1 this
    simp only
    rw [← e]; exact h0 j (List.mem_range.1 hj)
  · have hjl : j < S (g + 1) - S g := hjl
    have := h.rise g hg (S g + (j - 1)) (by omega) (by omega)
    rwa [show S g + (j - 1) + 1 = S g + j by omega] at this

theorem bas_S {q : Nat} {S : Nat → Nat} (h0 : S 0 = 0) (h : ∀ t, t < q → S t < S (t + 1)) : ∀ t, t ≤ q → bas (fun t => S (t + 1) - S t) t = S t
  | 0, _ => by rw [h0]; rfl
  | t + 1, ht => by
    simp only [bas]
    rw [bas_S h0 h t (by omega)]
    have := h t (by omega)
    omega

theorem Out.dist {n : Nat} {X A : Nat → Pr} {q : Nat} {S : Nat → Nat} (h : Out n X A q S) (hX : ∀ a b, a < b → b < n → (X a).1 < (X b).1) : Dist q (fun t => S (t + 1) - S t) (fun t j => (A (S t + j)).1) := by
  have hinj : ∀ a b, a < n → b < n → (A a).1 = (A b).1 → a = b := by
    have hn : (((List.range n).map X).map (·.1)).Nodup := by
      rw [List.map_map, List.nodup_iff_pairwise_ne, List.pairwise_map]
      refine List.Pairwise.imp_of_mem ?_ List.pairwise_lt_range
      intro a b ha hb hlt he
      have := hX a b hlt (List.mem_range.1 hb)
      simp only [Function.comp_apply] at he
      omega
    have hA : (((List.range n).map A).map (·.1)).Nodup := (h.perm.map _).nodup_iff.2 hn
    intro a b ha hb he
    have h1 : (((List.range n).map A).map (·.1))[a]? = some (A a).1 := by simp [ha]
    have h2 : (((List.range n).map A).map (·.1))[b]? = some (A a).1 := by simp [hb, he]
    exact (List.getElem?_inj (by simpa using ha) hA).1 (h1.trans h2.symm)
  have hle : ∀ t, t < q → S (t + 1) ≤ n := fun t ht => by
    have := S_le h.lt (t + 1) q (by omega) (Nat.le_refl _)
    rwa [h.sq] at this
  intro g j g' j' hg hj hg' hj' he
  simp only at hj hj' he
  have e1 := hle g hg
  have e2 := hle g' hg'
  have hp := hinj (S g + j) (S g' + j') (by omega) (by omega) he
  rcases Nat.lt_trichotomy g g' with hl | hl | hl
  · have := S_le h.lt (g + 1) g' (by omega) (by omega); omega
  · subst hl; exact ⟨rfl, by omega⟩
  · have := S_le h.lt (g' + 1) g (by omega) (by omega); omega

end Go.Conv
