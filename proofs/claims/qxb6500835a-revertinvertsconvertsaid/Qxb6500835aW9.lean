import Derived.Test.Qxb6500835aW8
import Derived.Test.Qxb6500835aC3
set_option linter.unusedVariables false
set_option linter.unusedSimpArgs false
namespace Go.Proofs.Qxb6500835a
open Go.RowKit Go.E1 Go.Conv

/-- The lists of the script's operations. -/
structure Lists (w : World) (n : Nat) (C : Nat → List Value) (la : Nat → Option Addr) (ln lcp lb lo : Nat → Nat) (X : Nat → Nat → Pr) (V : Nat → Nat → Nat) : Prop where
  val : ∀ i, i < n → nth (C i) 10 = .slice (la i) (ln i) (lcp i)
  adr : ∀ i, i < n → 0 < ln i → la i = some ⟨lb i, lo i, none⟩
  at_ : ∀ i, i < n → LAt w (lb i) (lo i) (ln i) (X i)
  impc : ∀ i, i < n → ∀ k, k < ln i → (X i k).2 = (V i k : Int) ∧ V i k < 256
  doc : ∀ i, i < n → ∀ k, k < ln i → 0 ≤ (X i k).1 ∧ (X i k).1 < 4294967296

theorem list_one {w : World} {cs : List Value} (h : Rd Try.prog w 41 cs) :
    ∃ y : Option Addr × Nat × Nat × Nat × Nat × (Nat → Pr) × (Nat → Nat), nth cs 10 = .slice y.1 y.2.1 y.2.2.1 ∧ (0 < y.2.1 → y.1 = some ⟨y.2.2.2.1, y.2.2.2.2.1, none⟩) ∧ LAt w y.2.2.2.1 y.2.2.2.2.1 y.2.1 y.2.2.2.2.2.1 ∧
      (∀ k, k < y.2.1 → (y.2.2.2.2.2.1 k).2 = (y.2.2.2.2.2.2 k : Int) ∧ y.2.2.2.2.2.2 k < 256) ∧ ∀ k, k < y.2.1 → 0 ≤ (y.2.2.2.2.2.1 k).1 ∧ (y.2.2.2.2.2.1 k).1 < 4294967296 := by
  obtain ⟨a, n, c, b, o, hv, h1, h2, h3, h4⟩ := op_list h
  have h5 : ∀ k, ∃ p : Int × Nat, k < n → w.cell? ⟨b, o + k * 2, none⟩ = some (.int .u32 p.1) ∧ w.cell? ⟨b, o + k * 2 + 1, none⟩ = some (.int .u8 (p.2 : Nat)) ∧ p.2 < 256 ∧ 0 ≤ p.1 ∧ p.1 < 4294967296 := fun k => by
    by_cases hk : k < n
    · obtain ⟨ecs, _, e2, e3⟩ := h4 k hk
      obtain ⟨x, hx, x1, x2⟩ := rd_int ty_uint50 (rd_f1 0 ty_fs63 ty_cells63 rfl ty_cells50 (by omega) e3)
      obtain ⟨y, hy, y1, y2⟩ := rd_int ty_uint5 (rd_f1 1 ty_fs63 ty_cells63 rfl ty_cells5 (by omega) e3)
      simp only [List.cons.injEq, and_true] at hx hy
      have m1 : IntKind.u32.min = 0 := rfl
      have m2 : IntKind.u32.max = 4294967295 := rfl
      have m3 : IntKind.u8.min = 0 := rfl
      have m4 : IntKind.u8.max = 255 := rfl
      refine ⟨(x, y.toNat), fun _ => ⟨?_, ?_, by simp only; omega, by simp only; omega, by simp only; omega⟩⟩
      · have := e2 0 (by omega); rw [hx] at this; exact this
      · have := e2 1 (by omega); rw [hy] at this
        rw [this]; congr 2; simp only; omega
    · exact ⟨(0, 0), fun h => absurd h hk⟩
  have h6 := Classical.skolem.1 h5
  obtain ⟨f, hf⟩ := h6
  refine ⟨(a, n, c, b, o, fun k => ((f k).1, ((f k).2 : Int)), fun k => (f k).2), hv, h3, fun k hk => ?_, fun k hk => ⟨rfl, ?_⟩, fun k hk => ?_⟩
  · obtain ⟨q1, q2, _⟩ := hf k hk; exact ⟨q1, q2⟩
  · exact (hf k hk).2.2.1
  · exact (hf k hk).2.2.2

theorem lists_of {w : World} {sb so n : Nat} {C : Nat → List Value} (hs : Scr w sb so n C) : ∃ la ln lcp lb lo X V, Lists w n C la ln lcp lb lo X V := by
  have h : ∀ i, ∃ y : Option Addr × Nat × Nat × Nat × Nat × (Nat → Pr) × (Nat → Nat), i < n → nth (C i) 10 = .slice y.1 y.2.1 y.2.2.1 ∧ (0 < y.2.1 → y.1 = some ⟨y.2.2.2.1, y.2.2.2.2.1, none⟩) ∧ LAt w y.2.2.2.1 y.2.2.2.2.1 y.2.1 y.2.2.2.2.2.1 ∧
      (∀ k, k < y.2.1 → (y.2.2.2.2.2.1 k).2 = (y.2.2.2.2.2.2 k : Int) ∧ y.2.2.2.2.2.2 k < 256) ∧ ∀ k, k < y.2.1 → 0 ≤ (y.2.2.2.2.2.1 k).1 ∧ (y.2.2.2.2.2.1 k).1 < 4294967296 := fun i => by
    by_cases hi : i < n
    · obtain ⟨y, hy⟩ := list_one (hs.rd i hi)
      exact ⟨y, fun _ => hy⟩
    · exact ⟨(none, 0, 0, 0, 0, fun _ => (0, 0), fun _ => 0), fun h => absurd h hi⟩
  obtain ⟨f, hf⟩ := Classical.skolem.1 h
  exact ⟨fun i => (f i).1, fun i => (f i).2.1, fun i => (f i).2.2.1, fun i => (f i).2.2.2.1, fun i => (f i).2.2.2.2.1, fun i => (f i).2.2.2.2.2.1, fun i => (f i).2.2.2.2.2.2,
    ⟨fun i hi => (hf i hi).1, fun i hi => (hf i hi).2.1, fun i hi => (hf i hi).2.2.1, fun i hi => (hf i hi).2.2.2.1, fun i hi => (hf i hi).2.2.2.2⟩⟩

/-- Each cell of an operation is one cell. -/
theorem one_int {w : World} {t : TypeId} {k : IntKind} {v : Value} (hu : Try.prog.underlying t = some (.int k)) (h : Rd Try.prog w t [v]) : v.oneCell' = true := by
  obtain ⟨x, hx, _⟩ := rd_int hu h
  simp only [List.cons.injEq, and_true] at hx
  rw [hx]; rfl
theorem one_sl {w : World} {e m : Nat} {v : Value} (h : SlIn w e m v) : v.oneCell' = true := by
  obtain ⟨a, n, c, b, o, hv, _⟩ := h
  rw [hv]; rfl
theorem op_one {w : World} {cs : List Value} (h : Rd Try.prog w 41 cs) : ([nth cs 0, nth cs 1, nth cs 2, nth cs 3, nth cs 4, nth cs 5, nth cs 6, nth cs 7, nth cs 8, nth cs 9, nth cs 10, nth cs 11, nth cs 12, nth cs 13, nth cs 14, nth cs 15].all (·.oneCell')) = true := by
  have h0 := one_int ty_uint28 (rd_f1 0 ty_fs41 ty_cells41 rfl ty_cells28 (by omega) h)
  have h1 := one_int ty_uint29 (rd_f1 1 ty_fs41 ty_cells41 rfl ty_cells29 (by omega) h)
  have h3 : (nth cs 3).oneCell' = true := by
    obtain ⟨b, hb⟩ := rd_bool ty_bool4 (rd_f1 3 ty_fs41 ty_cells41 rfl ty_cells4 (by omega) h)
    simp only [List.cons.injEq, and_true] at hb
    rw [hb]; rfl
  have h4 := one_int ty_uint3 (rd_f1 4 ty_fs41 ty_cells41 rfl ty_cells3 (by omega) h)
  have h5 := one_int ty_uint3 (rd_f1 5 ty_fs41 ty_cells41 rfl ty_cells3 (by omega) h)
  have t0 := one_int ty_uint3 (rd_f2 11 0 ty_fs41 ty_cells41 rfl ty_fs39 ty_cells39 rfl ty_cells3 (by omega) (by omega) h)
  have t1 := one_int ty_uint3 (rd_f2 11 1 ty_fs41 ty_cells41 rfl ty_fs39 ty_cells39 rfl ty_cells3 (by omega) (by omega) h)
  have t2 := one_int ty_uint3 (rd_f2 11 2 ty_fs41 ty_cells41 rfl ty_fs39 ty_cells39 rfl ty_cells3 (by omega) (by omega) h)
  have t3 := one_int ty_uint3 (rd_f2 11 3 ty_fs41 ty_cells41 rfl ty_fs39 ty_cells39 rfl ty_cells3 (by omega) (by omega) h)
  simp only [Nat.reduceAdd] at t0 t1 t2 t3
  simp only [List.all_cons, List.all_nil, Bool.and_true, h0, h1, one_sl (op_text h), h3, h4, h5, one_sl (op_picks h), one_sl (op_docs h), one_sl (op_terms h), one_sl (op_batch h), one_sl (op_list h), one_sl (op_groups h), t0, t1, t2, t3]

/-- A posting as a key. -/
def kv (p : Pr) : Value := .agg #[.int .u32 p.1, .int .u8 p.2]
theorem kv_inj {p q : Pr} (h : kv p = kv q) : p = q := by
  unfold kv at h
  simp only [Value.agg.injEq, Array.mk.injEq, List.cons.injEq, Value.int.injEq, true_and, and_true] at h
  exact Prod.ext h.1 h.2
theorem kv_good {p : Pr} {v : Nat} (h1 : 0 ≤ p.1) (h2 : p.1 < 4294967296) (h3 : p.2 = (v : Int)) (h4 : v < 256) : keyGood Try.prog 63 (kv p) := by
  have m1 : IntKind.u32.min = 0 := rfl
  have m2 : IntKind.u32.max = 4294967295 := rfl
  have m3 : IntKind.u8.min = 0 := rfl
  have m4 : IntKind.u8.max = 255 := rfl
  refine keyGood_of (vs := [.int .u32 p.1, .int .u8 p.2]) ty_some ty_kf63 ty_cells63 rfl fun q hq => ?_
  simp only [List.mem_cons, List.not_mem_nil, or_false] at hq
  rcases hq with rfl | rfl
  · exact ⟨by simp, keyPart_int ty_cells50 ty_uint50 (by simp only [m1]; exact h1) (by simp only [m2]; omega)⟩
  · exact ⟨by simp, keyPart_int ty_cells5 ty_uint5 (by simp only [m3]; omega) (by simp only [m4]; omega)⟩

theorem OKL.inj {n : Nat} {X : Nat → Pr} (h : OKL n X) : ∀ a b, a < n → b < n → X a = X b → a = b := by
  intro a b ha hb he
  rcases Nat.lt_trichotomy a b with h1 | h1 | h1
  · have := h.rise a b h1 hb; rw [he] at this; omega
  · exact h1
  · have := h.rise b a h1 ha; rw [he] at this; omega

theorem Out.q_le {n : Nat} {X A : Nat → Pr} {q : Nat} {S : Nat → Nat} (h : Out n X A q S) : q ≤ n := by
  have : ∀ t, t ≤ q → t ≤ S t := fun t => by
    induction t with
    | zero => intro _; omega
    | succ t ih => intro ht; have := ih (by omega); have := h.lt t (by omega); omega
  have := this q (Nat.le_refl _)
  rw [h.sq] at this; exact this

/-- A conversion's groups, whatever the list's length. -/
def MadeAt (w0 : World) (M : Nat → Prop) (L : List HI) (cb n : Nat) (X : Nat → Pr) (ga : Option Addr) (gb gc q : Nat) (S : Nat → Nat) (A : Nat → Pr) (its : List HI) (F' : Nat → Value) (fv' : Value) (FI' : List HI) (w' : World) : Prop :=
  (0 < q → ga = some ⟨gb, 0, none⟩) ∧ Out n X A q S ∧ GIs w0 M its gb q S A ∧ ConvF F' fv' ∧ FewOk fv' FI' ∧ St w0 M ((cb, Row 27 513 F') :: (FI' ++ (its ++ L))) w'

theorem made_any {w0 : World} {M : Nat → Prop} {L : List HI} {cb n : Nat} {X : Nat → Pr} {F : Nat → Value} {fv : Value} {FI : List HI} {v : Value} {w' : World} (hF : ConvF F fv) (hfew : FewOk fv FI)
    (h : (OKL n X ∧ n = 0 ∧ v = .tuple #[.slice none 0 0, .nilIface] ∧ St w0 M ((cb, Row 27 513 F) :: (FI ++ L)) w') ∨ (OKL n X ∧ 1 ≤ n ∧ ∃ gv, v = .tuple #[gv, .nilIface] ∧ Made w0 M L cb n X gv w')) :
    OKL n X ∧ ∃ ga gb gc q S A its F' fv' FI', v = .tuple #[.slice ga q gc, .nilIface] ∧ MadeAt w0 M L cb n X ga gb gc q S A its F' fv' FI' w' := by
  rcases h with ⟨h1, rfl, rfl, st⟩ | ⟨h1, h2, gv, rfl, gb, gc, q, S, A, its, F', fv', FI', rfl, hO, hG, hF', hfew', st⟩
  · refine ⟨h1, none, 0, 0, 0, fun _ => 0, X, [], F, fv, FI, rfl, fun h => by omega, ⟨List.Perm.refl _, rfl, rfl, fun t h => by omega, fun t h => by omega, fun t h1 h2 => by omega, fun t h => by omega⟩, ⟨0, fun _ => 0, fun l w' _ _ t ht => by omega⟩, hF, hfew, st⟩
  · exact ⟨h1, _, gb, gc, q, S, A, its, F', fv', FI', rfl, fun _ => rfl, hO, hG, hF', hfew', st⟩

end Go.Proofs.Qxb6500835a

