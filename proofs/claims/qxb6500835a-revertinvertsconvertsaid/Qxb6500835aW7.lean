import Derived.Test.Qxb6500835aW6
set_option linter.unusedVariables false
set_option linter.unusedSimpArgs false
namespace Go.Proofs.Qxb6500835a
open Go.RowKit Go.E1 Go.Conv

theorem reach_le {c k : Nat} (hk : 0 < k) (h : c * k ≤ reachBytes) : c ≤ 140737488355328 := by
  have h1 : c ≤ c * k := Nat.le_mul_of_pos_right c hk
  have h2 : reachBytes = 140737488351232 := rfl
  omega

/-- A slice that came in: elements of type e of m cells. -/
def SlIn (w : World) (e m : Nat) (v : Value) : Prop :=
  ∃ a n c b o, v = .slice a n c ∧ n ≤ c ∧ c ≤ 140737488355328 ∧ (0 < n → a = some ⟨b, o, none⟩) ∧ ∀ i, i < n → ∃ ecs : List Value, ecs.length = m ∧ (∀ j, j < m → w.cell? ⟨b, o + i * m + j, none⟩ = some (nth ecs j)) ∧ Rd Try.prog w e ecs

theorem slIn_of {w : World} {t e m k : Nat} {v : Value} (hu : Try.prog.underlying t = some (.slice e)) (hm : Try.prog.cellsOf e = m) (h0 : 0 < m) (hk : Try.prog.bytesOf e = k) (hk0 : 0 < k) (h : Rd Try.prog w t [v]) : SlIn w e m v := by
  obtain ⟨a, n, c, b, o, hv, h1, h2, h3, h4, h5⟩ := rd_slice hu (by omega) h
  rw [hk] at h3
  simp only [List.cons.injEq, and_true] at hv
  refine ⟨a, n, c, b, o, hv, h1, reach_le hk0 h3, h4, fun i hi => ?_⟩
  obtain ⟨ecs, e1, e2, e3⟩ := h5 i hi
  rw [hm] at e1 e2
  exact ⟨ecs, e1, e2, e3⟩

/-- The script: its operations' cells. -/
structure Scr (w : World) (sb so n : Nat) (C : Nat → List Value) : Prop where
  cell : ∀ i, i < n → ∀ j, j < 16 → w.cell? ⟨sb, so + i * 16 + j, none⟩ = some (nth (C i) j)
  rd : ∀ i, i < n → Rd Try.prog w 41 (C i)

theorem scr_of {w : World} {v : Value} (h : Rd Try.prog w 22 [v]) : ∃ a n c sb so C, v = .slice a n c ∧ n ≤ c ∧ c ≤ 140737488355328 ∧ (0 < n → a = some ⟨sb, so, none⟩) ∧ Scr w sb so n C := by
  obtain ⟨a, n, c, b, o, hv, h1, h2, h3, h4⟩ := slIn_of ty_usl22 ty_cells41 (by omega) ty_bytes41 (by omega) h
  refine ⟨a, n, c, b, o, fun i => if h : i < n then Classical.choose (h4 i h) else [], hv, h1, h2, h3, ⟨fun i hi j hj => ?_, fun i hi => ?_⟩⟩
  · have := (Classical.choose_spec (h4 i hi)).2.1 j hj
    simp only [dif_pos hi]; exact this
  · have := (Classical.choose_spec (h4 i hi)).2.2
    simp only [dif_pos hi]; exact this

theorem op_text {w : World} {cs : List Value} (h : Rd Try.prog w 41 cs) : SlIn w 5 1 (nth cs 2) := slIn_of ty_usl30 ty_cells5 (by omega) ty_bytes5 (by omega) (rd_f1 2 ty_fs41 ty_cells41 rfl ty_cells30 (by omega) h)
theorem op_picks {w : World} {cs : List Value} (h : Rd Try.prog w 41 cs) : SlIn w 3 1 (nth cs 6) := slIn_of ty_usl31 ty_cells3 (by omega) ty_bytes3 (by omega) (rd_f1 6 ty_fs41 ty_cells41 rfl ty_cells31 (by omega) h)
theorem op_docs {w : World} {cs : List Value} (h : Rd Try.prog w 41 cs) : SlIn w 52 3 (nth cs 7) := slIn_of ty_usl32 ty_cells52 (by omega) ty_bytes52 (by omega) (rd_f2 7 0 ty_fs41 ty_cells41 rfl ty_fs35 ty_cells35 rfl ty_cells32 (by omega) (by omega) h)
theorem op_terms {w : World} {cs : List Value} (h : Rd Try.prog w 41 cs) : SlIn w 55 2 (nth cs 8) := slIn_of ty_usl33 ty_cells55 (by omega) ty_bytes55 (by omega) (rd_f2 7 1 ty_fs41 ty_cells41 rfl ty_fs35 ty_cells35 rfl ty_cells33 (by omega) (by omega) h)
theorem op_batch {w : World} {cs : List Value} (h : Rd Try.prog w 41 cs) : SlIn w 57 2 (nth cs 9) := slIn_of ty_usl36 ty_cells57 (by omega) ty_bytes57 (by omega) (rd_f1 8 ty_fs41 ty_cells41 rfl ty_cells36 (by omega) h)
theorem op_list {w : World} {cs : List Value} (h : Rd Try.prog w 41 cs) : SlIn w 63 2 (nth cs 10) := slIn_of ty_usl25 ty_cells63 (by omega) ty_bytes63 (by omega) (rd_f1 9 ty_fs41 ty_cells41 rfl ty_cells25 (by omega) h)
theorem op_groups {w : World} {cs : List Value} (h : Rd Try.prog w 41 cs) : SlIn w 60 2 (nth cs 11) := slIn_of ty_usl37 ty_cells60 (by omega) ty_bytes60 (by omega) (rd_f1 10 ty_fs41 ty_cells41 rfl ty_cells37 (by omega) h)
theorem doc_stored {w : World} {cs : List Value} (h : Rd Try.prog w 52 cs) : SlIn w 5 1 (nth cs 2) := slIn_of ty_usl30 ty_cells5 (by omega) ty_bytes5 (by omega) (rd_f1 2 ty_fs52 ty_cells52 rfl ty_cells30 (by omega) h)
theorem term_posts {w : World} {cs : List Value} (h : Rd Try.prog w 55 cs) : SlIn w 97 2 (nth cs 1) := slIn_of ty_usl53 ty_cells97 (by omega) ty_bytes97 (by omega) (rd_f1 1 ty_fs55 ty_cells55 rfl ty_cells53 (by omega) h)
theorem term_text {w : World} {cs : List Value} (h : Rd Try.prog w 55 cs) : ∃ s, nth cs 0 = .string s ∧ s.size ≤ 140737488355328 := by
  obtain ⟨s, h1, h2⟩ := rd_string ty_ustr9 (rd_f1 0 ty_fs55 ty_cells55 rfl ty_cells9 (by omega) h)
  have h3 : reachBytes = 140737488351232 := rfl
  exact ⟨s, by simpa using h1, by omega⟩
theorem batch_text {w : World} {cs : List Value} (h : Rd Try.prog w 57 cs) : SlIn w 5 1 (nth cs 1) := slIn_of ty_usl30 ty_cells5 (by omega) ty_bytes5 (by omega) (rd_f1 1 ty_fs57 ty_cells57 rfl ty_cells30 (by omega) h)
theorem group_docs {w : World} {cs : List Value} (h : Rd Try.prog w 60 cs) : SlIn w 50 1 (nth cs 1) := slIn_of ty_usl58 ty_cells50 (by omega) ty_bytes50 (by omega) (rd_f1 1 ty_fs60 ty_cells60 rfl ty_cells58 (by omega) h)

end Go.Proofs.Qxb6500835a

