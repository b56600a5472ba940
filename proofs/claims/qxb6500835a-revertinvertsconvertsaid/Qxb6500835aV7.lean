import Derived.Test.Qxb6500835aV6
set_option linter.unusedVariables false
set_option linter.unusedSimpArgs false
namespace Go.Proofs.Qxb6500835a
open Go.RowKit Go.E1 Go.Conv

/-- The groups of the script's operations. -/
structure Gps (w : World) (n : Nat) (C : Nat → List Value) (xa : Nat → Option Addr) (gn gcp xb xo : Nat → Nat) (I : Nat → Nat → Int) (da : Nat → Nat → Option Addr) (db dO dl dc : Nat → Nat → Nat) (D : Nat → Nat → Nat → Int) : Prop where
  val : ∀ i, i < n → nth (C i) 11 = .slice (xa i) (gn i) (gcp i)
  adr : ∀ i, i < n → 0 < gn i → xa i = some ⟨xb i, xo i, none⟩
  at_ : ∀ i, i < n → GIn w (xb i) (xo i) (gn i) (I i) (da i) (db i) (dO i) (dl i) (dc i) (D i)
  impc : ∀ i, i < n → ∀ g, g < gn i → 0 ≤ I i g ∧ I i g < 256
  doc : ∀ i, i < n → ∀ g, g < gn i → ∀ j, j < dl i g → 0 ≤ D i g j ∧ D i g j < 4294967296

/-- One group's parts. -/
structure GP where
  I : Int
  a : Option Addr
  b : Nat
  o : Nat
  l : Nat
  c : Nat
  D : Nat → Int

def GPok (w : World) (cs : List Value) (y : GP) : Prop :=
  nth cs 0 = .int .u8 y.I ∧ 0 ≤ y.I ∧ y.I < 256 ∧ nth cs 1 = .slice y.a y.l y.c ∧ (0 < y.l → y.a = some ⟨y.b, y.o, none⟩) ∧ ∀ j, j < y.l → w.cell? ⟨y.b, y.o + j * 1, none⟩ = some (.int .u32 (y.D j)) ∧ 0 ≤ y.D j ∧ y.D j < 4294967296

theorem group_one {w : World} {cs : List Value} (h : Rd Try.prog w 60 cs) : ∃ y, GPok w cs y := by
  obtain ⟨a, n, c, b, o, hv, h1, h2, h3, h4⟩ := group_docs h
  have m1 : IntKind.u32.min = 0 := rfl
  have m2 : IntKind.u32.max = 4294967295 := rfl
  have m3 : IntKind.u8.min = 0 := rfl
  have m4 : IntKind.u8.max = 255 := rfl
  obtain ⟨x, hx, x1, x2⟩ := rd_int ty_uint5 (rd_f1 0 ty_fs60 ty_cells60 rfl ty_cells5 (by omega) h)
  simp only [List.cons.injEq, and_true] at hx
  have h5 : ∀ k, ∃ p : Int, k < n → w.cell? ⟨b, o + k * 1, none⟩ = some (.int .u32 p) ∧ 0 ≤ p ∧ p < 4294967296 := fun k => by
    by_cases hk : k < n
    · obtain ⟨ecs, e1, e2, e3⟩ := h4 k hk
      match ecs, e1 with
      | [v], _ =>
        obtain ⟨y, hy, y1, y2⟩ := rd_int ty_uint50 e3
        simp only [List.cons.injEq, and_true] at hy
        refine ⟨y, fun _ => ⟨?_, by omega, by omega⟩⟩
        have := e2 0 (by omega)
        rw [hy] at this; exact this
    · exact ⟨0, fun h => absurd h hk⟩
  obtain ⟨f, hf⟩ := Classical.skolem.1 h5
  exact ⟨⟨x, a, b, o, n, c, f⟩, hx, by simp only; omega, by simp only; omega, hv, h3, hf⟩

theorem groups_one {w : World} {cs : List Value} (h : Rd Try.prog w 41 cs) :
    ∃ y : Option Addr × Nat × Nat × Nat × Nat × (Nat → GP), nth cs 11 = .slice y.1 y.2.1 y.2.2.1 ∧ (0 < y.2.1 → y.1 = some ⟨y.2.2.2.1, y.2.2.2.2.1, none⟩) ∧
      ∀ g, g < y.2.1 → w.cell? ⟨y.2.2.2.1, y.2.2.2.2.1 + g * 2, none⟩ = some (.int .u8 (y.2.2.2.2.2 g).I) ∧ w.cell? ⟨y.2.2.2.1, y.2.2.2.2.1 + g * 2 + 1, none⟩ = some (.slice (y.2.2.2.2.2 g).a (y.2.2.2.2.2 g).l (y.2.2.2.2.2 g).c) ∧ ∃ cs, GPok w cs (y.2.2.2.2.2 g) := by
  obtain ⟨a, n, c, b, o, hv, h1, h2, h3, h4⟩ := op_groups h
  have h5 : ∀ g, ∃ y : GP, g < n → w.cell? ⟨b, o + g * 2, none⟩ = some (.int .u8 y.I) ∧ w.cell? ⟨b, o + g * 2 + 1, none⟩ = some (.slice y.a y.l y.c) ∧ ∃ cs, GPok w cs y := fun g => by
    by_cases hg : g < n
    · obtain ⟨ecs, e1, e2, e3⟩ := h4 g hg
      obtain ⟨y, hy⟩ := group_one e3
      refine ⟨y, fun _ => ⟨?_, ?_, ecs, hy⟩⟩
      · have := e2 0 (by omega); rw [hy.1] at this; exact this
      · have := e2 1 (by omega); rw [hy.2.2.2.1] at this; exact this
    · exact ⟨⟨0, none, 0, 0, 0, 0, fun _ => 0⟩, fun h => absurd h hg⟩
  obtain ⟨f, hf⟩ := Classical.skolem.1 h5
  exact ⟨(a, n, c, b, o, f), hv, h3, hf⟩

theorem groups_of {w : World} {sb so n : Nat} {C : Nat → List Value} (hs : Scr w sb so n C) : ∃ xa gn gcp xb xo I da db dO dl dc D, Gps w n C xa gn gcp xb xo I da db dO dl dc D := by
  have h : ∀ i, ∃ y : Option Addr × Nat × Nat × Nat × Nat × (Nat → GP), i < n → nth (C i) 11 = .slice y.1 y.2.1 y.2.2.1 ∧ (0 < y.2.1 → y.1 = some ⟨y.2.2.2.1, y.2.2.2.2.1, none⟩) ∧
      ∀ g, g < y.2.1 → w.cell? ⟨y.2.2.2.1, y.2.2.2.2.1 + g * 2, none⟩ = some (.int .u8 (y.2.2.2.2.2 g).I) ∧ w.cell? ⟨y.2.2.2.1, y.2.2.2.2.1 + g * 2 + 1, none⟩ = some (.slice (y.2.2.2.2.2 g).a (y.2.2.2.2.2 g).l (y.2.2.2.2.2 g).c) ∧ ∃ cs, GPok w cs (y.2.2.2.2.2 g) := fun i => by
    by_cases hi : i < n
    · obtain ⟨y, hy⟩ := groups_one (hs.rd i hi)
      exact ⟨y, fun _ => hy⟩
    · exact ⟨(none, 0, 0, 0, 0, fun _ => ⟨0, none, 0, 0, 0, 0, fun _ => 0⟩), fun h => absurd h hi⟩
  obtain ⟨f, hf⟩ := Classical.skolem.1 h
  refine ⟨fun i => (f i).1, fun i => (f i).2.1, fun i => (f i).2.2.1, fun i => (f i).2.2.2.1, fun i => (f i).2.2.2.2.1, fun i g => ((f i).2.2.2.2.2 g).I, fun i g => ((f i).2.2.2.2.2 g).a, fun i g => ((f i).2.2.2.2.2 g).b, fun i g => ((f i).2.2.2.2.2 g).o, fun i g => ((f i).2.2.2.2.2 g).l, fun i g => ((f i).2.2.2.2.2 g).c, fun i g => ((f i).2.2.2.2.2 g).D,
    ⟨fun i hi => (hf i hi).1, fun i hi => (hf i hi).2.1, fun i hi g hg => ?_, fun i hi g hg => ?_, fun i hi g hg j hj => ?_⟩⟩
  · obtain ⟨h1, h2, cs, h3⟩ := (hf i hi).2.2 g hg
    exact ⟨h1, h2, h3.2.2.2.2.1, fun j hj => (h3.2.2.2.2.2 j hj).1⟩
  · obtain ⟨h1, h2, cs, h3⟩ := (hf i hi).2.2 g hg
    exact ⟨h3.2.1, h3.2.2.1⟩
  · obtain ⟨h1, h2, cs, h3⟩ := (hf i hi).2.2 g hg
    exact (h3.2.2.2.2.2 j hj).2

theorem GIn.old {w0 : World} {l : List HI} {w' : World} {g o q : Nat} {I : Nat → Int} {da : Nat → Option Addr} {db dO dl dc : Nat → Nat} {D : Nat → Nat → Int} (h : GIn w0 g o q I da db dO dl dc D) (s : St w0 (fun _ => False) l w') : GIn w' g o q I da db dO dl dc D := fun i hi =>
  ⟨s.old (fun h => h) (h i hi).1, s.old (fun h => h) (h i hi).2.1, (h i hi).2.2.1, fun j hj => s.old (fun h => h) ((h i hi).2.2.2 j hj)⟩

theorem GAt.gin {w' : World} {g o q : Nat} {I : Nat → Int} {db dO dl dc : Nat → Nat} {D : Nat → Nat → Int} (h : GAt w' g o q I db dO dl dc D) : GIn w' g o q I (fun t => some ⟨db t, dO t, none⟩) db dO dl dc D := fun i hi =>
  ⟨(h i hi).1, (h i hi).2.1, fun _ => rfl, (h i hi).2.2⟩

theorem GIn.gat {w' : World} {g o q : Nat} {I : Nat → Int} {da : Nat → Option Addr} {db dO dl dc : Nat → Nat} {D : Nat → Nat → Int} (h : GIn w' g o q I da db dO dl dc D) (hl : ∀ i, i < q → 0 < dl i) : GAt w' g o q I db dO dl dc D := fun i hi =>
  ⟨(h i hi).1, by rw [← (h i hi).2.2.1 (hl i hi)]; exact (h i hi).2.1, (h i hi).2.2.2⟩

theorem GAt.congr {w' : World} {g o q : Nat} {I I' : Nat → Int} {db dO dl dl' dc : Nat → Nat} {D D' : Nat → Nat → Int} (h : GAt w' g o q I' db dO dl' dc D') (hI : ∀ t, t < q → I' t = I t) (hl : ∀ t, t < q → dl' t = dl t) (hD : ∀ t, t < q → ∀ j, j < dl t → D' t j = D t j) : GAt w' g o q I db dO dl dc D := fun i hi => by
  obtain ⟨h1, h2, h3⟩ := h i hi
  rw [hI i hi] at h1
  rw [hl i hi] at h2 h3
  exact ⟨h1, h2, fun j hj => by rw [← hD i hi j hj]; exact h3 j hj⟩

/-- What a call of Revert gave, parted. -/
theorem rev_split {w0 : World} {M : Nat → Prop} {L : List HI} {q : Nat} {I : Nat → Int} {dl : Nat → Nat} {D : Nat → Nat → Int} {v : Value} {w' : World}
    (h : (¬ (Vg q dl D I ∧ Dist q dl D) ∧ (∃ b, v = .tuple #[.slice none 0 0, .iface 75 (.pointer (some ⟨b, 0, none⟩))]) ∧ St w0 M L w') ∨
      (Vg q dl D I ∧ ∃ lb B f, v = .tuple #[.slice (some ⟨lb, 0, none⟩) (bas dl q) (bas dl q), .nilIface] ∧ Out (bas dl q) B (cat D I dl q) q (bas dl) ∧ (∀ a b, a < b → b < bas dl q → (B a).1 < (B b).1) ∧ LsR f (bas dl q) B ∧ St w0 M ((lb, Row 63 (bas dl q * 2) f) :: L) w')) :
    ∃ lv er, v = .tuple #[lv, er] ∧ ((¬ (Vg q dl D I ∧ Dist q dl D) ∧ (∃ b, er = .iface 75 (.pointer (some ⟨b, 0, none⟩))) ∧ St w0 M L w') ∨
      (Vg q dl D I ∧ er = .nilIface ∧ ∃ lb B f, lv = .slice (some ⟨lb, 0, none⟩) (bas dl q) (bas dl q) ∧ Out (bas dl q) B (cat D I dl q) q (bas dl) ∧ (∀ a b, a < b → b < bas dl q → (B a).1 < (B b).1) ∧ LsR f (bas dl q) B ∧ St w0 M ((lb, Row 63 (bas dl q * 2) f) :: L) w')) := by
  rcases h with ⟨h1, ⟨b, rfl⟩, st⟩ | ⟨h1, lb, B, f, rfl, h2, h3, h4, st⟩
  · exact ⟨_, _, rfl, .inl ⟨h1, ⟨b, rfl⟩, st⟩⟩
  · exact ⟨_, _, rfl, .inr ⟨h1, rfl, lb, B, f, rfl, h2, h3, h4, st⟩⟩

/-- What a call of Convert gave, parted. -/
theorem conv_split {w0 : World} {M : Nat → Prop} {L : List HI} {cb n : Nat} {X : Nat → Pr} {F : Nat → Value} {fv : Value} {FI : List HI} {v : Value} {w' : World} (hF : ConvF F fv) (hfew : FewOk fv FI)
    (h : (¬ OKL n X ∧ (∃ b, v = .tuple #[.slice none 0 0, .iface 75 (.pointer (some ⟨b, 0, none⟩))]) ∧ St w0 M ((cb, Row 27 513 F) :: (FI ++ L)) w') ∨
        (OKL n X ∧ n = 0 ∧ v = .tuple #[.slice none 0 0, .nilIface] ∧ St w0 M ((cb, Row 27 513 F) :: (FI ++ L)) w') ∨
        (OKL n X ∧ 1 ≤ n ∧ ∃ gv, v = .tuple #[gv, .nilIface] ∧ Made w0 M L cb n X gv w')) :
    ∃ gv er, v = .tuple #[gv, er] ∧ ((¬ OKL n X ∧ (∃ b, er = .iface 75 (.pointer (some ⟨b, 0, none⟩))) ∧ St w0 M ((cb, Row 27 513 F) :: (FI ++ L)) w') ∨
      (OKL n X ∧ er = .nilIface ∧ ∃ ga gb gc q S A its F' fv' FI', gv = .slice ga q gc ∧ MadeAt w0 M L cb n X ga gb gc q S A its F' fv' FI' w')) := by
  rcases h with ⟨h1, ⟨b, rfl⟩, st⟩ | h
  · exact ⟨_, _, rfl, .inl ⟨h1, ⟨b, rfl⟩, st⟩⟩
  · obtain ⟨h1, ga, gb, gc, q, S, A, its, F', fv', FI', rfl, hM⟩ := made_any hF hfew h
    exact ⟨_, _, rfl, .inr ⟨h1, rfl, ga, gb, gc, q, S, A, its, F', fv', FI', rfl, hM⟩⟩

theorem perm_at {α : Type} {A B : Nat → α} {n p : Nat} (h : ((List.range n).map A).Perm ((List.range n).map B)) (hp : p < n) : ∃ j, j < n ∧ A p = B j := by
  have : A p ∈ (List.range n).map B := h.mem_iff.1 (List.mem_map.2 ⟨p, List.mem_range.2 hp, rfl⟩)
  obtain ⟨j, hj, he⟩ := List.mem_map.1 this
  exact ⟨j, List.mem_range.1 hj, he.symm⟩

/-- Each posting of a merged list stands in a group. -/
theorem out_in {q : Nat} {l : Nat → Nat} {D : Nat → Nat → Int} {I : Nat → Int} {B : Nat → Pr} (h : Out (bas l q) B (cat D I l q) q (bas l)) {k : Nat} (hk : k < bas l q) : ∃ g j, g < q ∧ j < l g ∧ B k = (D g j, I g) := by
  obtain ⟨p, hp, he⟩ := perm_at h.perm.symm hk
  obtain ⟨t, ht, h1, h2⟩ := h.place hp
  simp only [bas] at h2
  refine ⟨t, p - bas l t, ht, by omega, ?_⟩
  have := cat_at D I l q t (p - bas l t) ht (by omega)
  rw [show bas l t + (p - bas l t) = p by omega] at this
  rw [he, this]

theorem out_okl {q : Nat} {l : Nat → Nat} {D : Nat → Nat → Int} {I : Nat → Int} {B : Nat → Pr} (h : Out (bas l q) B (cat D I l q) q (bas l)) (hv : Vg q l D I) (hr : ∀ a b, a < b → b < bas l q → (B a).1 < (B b).1) : OKL (bas l q) B := fun k hk => by
  obtain ⟨g, j, hg, hj, he⟩ := out_in h hk
  exact ⟨by rw [he]; exact (hv g hg).1, fun h0 => hr (k - 1) k (by omega) hk⟩

/-- The groups made of a merged list are those that were merged. -/
theorem out_same {q q' : Nat} {l : Nat → Nat} {D : Nat → Nat → Int} {I : Nat → Int} {B A : Nat → Pr} {S : Nat → Nat} (h : Out (bas l q) B (cat D I l q) q (bas l)) (hv : Vg q l D I) (h' : Out (bas l q) B A q' S) :
    q = q' ∧ (∀ t, t < q → (A (S t)).2 = I t) ∧ (∀ t, t < q → S (t + 1) - S t = l t) ∧ ∀ t, t < q → ∀ j, j < l t → (A (S t + j)).1 = D t j := by
  obtain ⟨hA, rfl, hS⟩ := h.unique h'
  have hb : ∀ t, t < q → bas l t + l t ≤ bas l q := fun t ht => bas_mono l (show t + 1 ≤ q by omega)
  refine ⟨rfl, fun t ht => ?_, fun t ht => ?_, fun t ht j hj => ?_⟩
  · have h0 := (hv t ht).2.2.1
    have := hb t ht
    rw [← hS t (by omega), ← hA _ (by omega)]
    have := cat_at D I l q t 0 ht h0
    rw [Nat.add_zero] at this
    rw [this]
  · rw [← hS t (by omega), ← hS (t + 1) (by omega)]
    simp only [bas]; omega
  · have := hb t ht
    rw [← hS t (by omega), ← hA _ (by omega), cat_at D I l q t j ht hj]

theorem st_toEnd {w0 : World} {M : Nat → Prop} {b c : HI} {FI : List HI} {w : World} (h : St w0 M (b :: c :: FI) w) : St w0 M (c :: (FI ++ [b])) w :=
  h.perm (List.perm_append_comm (l₁ := [b]) (l₂ := c :: FI))
theorem st_inEnd {w0 : World} {M : Nat → Prop} {l b c : HI} {FI : List HI} {w : World} (h : St w0 M (l :: c :: (FI ++ [b])) w) : St w0 M (c :: (FI ++ [l, b])) w := by
  have e : c :: (FI ++ [l, b]) = (c :: FI) ++ l :: [b] := rfl
  rw [e]
  exact h.perm (List.perm_middle (l₁ := c :: FI) (l₂ := [b]) (a := l)).symm

/-- An operation's cells. -/
abbrev opL (C : List Value) : List Value := [nth C 0, nth C 1, nth C 2, nth C 3, nth C 4, nth C 5, nth C 6, nth C 7, nth C 8, nth C 9, nth C 10, nth C 11, nth C 12, nth C 13, nth C 14, nth C 15]
end Go.Proofs.Qxb6500835a

