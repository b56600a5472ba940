/-
  E5: the laws of operations that make or write memory, in the walk's own form. No project text.
-/
import Derived.Test.Qxb6500834aGreatDoorE4
set_option linter.unusedSimpArgs false
set_option linter.unusedVariables false
namespace Go.E1
open Go.RowKit

section
variable {P : Program} {ops : Array Oper} {Q : Exit → Act → World → Prop} {n : Nat} {ds : List Deferred} {rest : List Oper} {e : Env} {w w0 : World} {M : Nat → Prop} {l : List HI}
variable {d : Nat} {ty : TypeId} {pos : String} {af : Array Edge} {g : Option (Nat × Bool)} {x y z : Operand}

/-- A new variable, zeroed. -/
theorem WL.alloc {T m : Nat} {zs : List Value} (st : St w0 M l w) (hz : zeroL P T = some zs) (hm : zs.length = m) (hn : Nat.blt d n = true) (hg : wantE ops e g = true)
    (k : ∀ b w', St w0 M ((b, Row T m (nth zs)) :: l) w' → WL P ops Q n ds rest ((d, .pointer (some ⟨b, 0, none⟩)) :: e) w') : WL P ops Q n ds (⟨some d, .alloc T, ty, pos, af, g⟩ :: rest) e w := by
  subst hm
  obtain ⟨z, hz1, hz2⟩ := zeroL_spec hz
  refine WL.v (v := .pointer (some ⟨w.heap.size, 0, none⟩)) (w' := w.alloc (.cells z.cells T)) ?_ rfl hn hg (k _ _ (st.alloc _ ?_))
  · simp [execOp, Instr.alloc, hz2, newVar, newRow, go_sem]
  · have := row_nth T zs
    rw [← hz1] at this ⊢
    simpa using this

/-- A value boxed. -/
theorem WL.box {T m : Nat} {v : Value} {vs : List Value} (st : St w0 M l w) (hx : ev e x = v) (hv : v.cells.toList = vs) (hm : vs.length = m) (hc : okX e x = true) (hn : Nat.blt d n = true) (hg : wantE ops e g = true)
    (k : ∀ b w', St w0 M ((b, Row T m (nth vs)) :: l) w' → WL P ops Q n ds rest ((d, .pointer (some ⟨b, 0, none⟩)) :: e) w') : WL P ops Q n ds (⟨some d, .box T x, ty, pos, af, g⟩ :: rest) e w := by
  subst hm
  refine WL.v (v := .pointer (some ⟨w.heap.size, 0, none⟩)) (w' := w.alloc (.cells v.cells T)) ?_ (by simp [cov, noSel, Op.operands, hc]) hn hg (k _ _ (st.alloc _ ?_))
  · simp [execOp, Instr.box, hx, newVar, newRow, go_sem]
  · have := row_nth T vs
    rw [← hv] at this ⊢
    simpa using this

/-- A store of one cell into the first item's block. -/
theorem WL.store {T b off t m : Nat} {f : Nat → Value} {v : Value} (st : St w0 M ((b, Row t m f) :: l) w) (hT : oneT P T = true) (hx : ev e x = .pointer (some ⟨b, off, none⟩)) (hy : ev e y = v) (hv : v.oneCell' = true) (ho : off < m)
    (hc : (okX e x && okX e y) = true) (hg : wantE ops e g = true)
    (k : ∀ w', St w0 M ((b, Row t m (upd f off v)) :: l) w' → WL P ops Q n ds rest e w') : WL P ops Q n ds (⟨none, .store T x y, ty, pos, af, g⟩ :: rest) e w := by
  obtain ⟨h1, i, h2, h3⟩ := oneT_spec hT w
  obtain ⟨s1, s2, s3⟩ := st.setCell ho v
  have hcs : v.cells = #[v] := by cases v <;> simp_all [Value.cells, Value.oneCell']
  refine WL.s (w' := w.setCell ⟨b, off, none⟩ v) ?_ (by simpa [cov, noSel, Op.operands] using hc) hg (k _ s1)
  have hst := run_store P w ⟨b, off, none⟩ v .plain hv
  rw [s2] at hst
  simp only [s3] at hst
  have hsv : (storeVar T ⟨b, off, none⟩ v).run P w = .ok () (w.setCell ⟨b, off, none⟩ v) := by
    unfold storeVar
    rw [hcs]
    simp [run_sizeOf h2, h3, storeCells, Addr.add_none, hst]
  simp only [execOp, Instr.storeAt, hx, hy, Instr.sureAddr, Sem.run_bind, Sem.run_pure, Result.andThen_ok, hsv]

/-- A store of several cells into the first item's block. -/
theorem WL.storeL {T b off t m nv : Nat} {f : Nat → Value} {vs : List Value} (st : St w0 M ((b, Row t m f) :: l) w) (hT : aggT P T = some nv) (hl : vs.length = nv) (hx : ev e x = .pointer (some ⟨b, off, none⟩)) (hy : ev e y = .agg vs.toArray)
    (hv : vs.all (·.oneCell') = true) (ho : off + nv ≤ m) (hc : (okX e x && okX e y) = true) (hg : wantE ops e g = true)
    (k : ∀ w', St w0 M ((b, Row t m (upds f off nv (nth vs))) :: l) w' → WL P ops Q n ds rest e w') : WL P ops Q n ds (⟨none, .store T x y, ty, pos, af, g⟩ :: rest) e w := by
  subst hl
  obtain ⟨h1, i, h2, h3⟩ := aggT_spec hT w
  obtain ⟨o, hb, cs, rfl, hs, hcs⟩ := st.get (b, Row t m f) (by simp)
  simp only at hb
  have hst := run_storeCells_at P b off t vs 0 cs w hb (by simp; omega) (fun v hv' => List.all_eq_true.1 hv v hv')
  simp only [Nat.add_zero] at hst
  refine WL.s (w' := w.setRow b (cs.toList.take off ++ vs ++ cs.toList.drop (off + vs.length)).toArray) ?_ (by simpa [cov, noSel, Op.operands] using hc) hg (k _ (st.setRow hb ⟨_, rfl, ?_, fun i hi => ?_⟩))
  · simp [execOp, Instr.storeAt, hx, hy, Instr.sureAddr, storeVar, Value.cells, run_sizeOf h2, h3, hst, go_sem]
  · simp [List.length_take, List.length_drop]; omega
  · have hl : (cs.toList.take off).length = off := by simp; omega
    simp only [upds_eq, List.getElem?_toArray]
    by_cases h1 : i < off
    · rw [if_neg (by omega), List.append_assoc, List.getElem?_append_left (by omega), List.getElem?_take, if_pos h1]
      simpa using hcs i hi
    · by_cases h2 : i < off + vs.length
      · rw [if_pos ⟨by omega, h2⟩, List.append_assoc, List.getElem?_append_right (by omega), List.getElem?_append_left (by omega), hl]
        simp [nth, List.getD, show i - off < vs.length by omega]
      · rw [if_neg (by omega), List.append_assoc, List.getElem?_append_right (by omega), List.getElem?_append_right (by omega), hl, List.getElem?_drop]
        rw [show off + vs.length + (i - off - vs.length) = i by omega]
        simpa using hcs i hi

theorem row_upds_all {t m : Nat} {f : Nat → Value} {vs : List Value} {o : Obj} (h : Row t m (upds f 0 vs.length (nth vs)) o) (hm : vs.length = m) : Row t m (nth vs) o :=
  h.congr fun i hi => by simp [upds_eq, hm, hi]

/-- A store of a whole variable. -/
theorem WL.storeW {T b t m : Nat} {f : Nat → Value} {vs : List Value} (st : St w0 M ((b, Row t m f) :: l) w) (hT : aggT P T = some vs.length) (hx : ev e x = .pointer (some ⟨b, 0, none⟩)) (hy : ev e y = .agg vs.toArray)
    (hv : vs.all (·.oneCell') = true) (hm : vs.length = m) (hc : (okX e x && okX e y) = true) (hg : wantE ops e g = true)
    (k : ∀ w', St w0 M ((b, Row t m (nth vs)) :: l) w' → WL P ops Q n ds rest e w') : WL P ops Q n ds (⟨none, .store T x y, ty, pos, af, g⟩ :: rest) e w :=
  WL.storeL st hT rfl hx hy hv (by omega) hc hg fun w' st' => k w' (st'.impc fun o ho => row_upds_all ho hm)
end

end Go.E1
