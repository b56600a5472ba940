/-
  E7: composite values, new slices, append. No project text.
-/
import Derived.Test.Qxb6500834aGreatDoorE6
import Derived.Great.BuildSlice
import Derived.Deep.AppendLies
set_option linter.unusedSimpArgs false
set_option linter.unusedVariables false
namespace Go.E1
open Go.RowKit

/-! ### Composite values -/

/-- Of each part of a struct or array: where it begins, how many cells it has. -/
def plT (P : Program) (T : Nat) : Option (List (Nat × Nat)) :=
  match P.underlying T with
  | some (.struct fs) => fs.toList.mapM fun f => (P.info? f.type).map fun i => (f.offset, i.size)
  | some (.array n e) => (P.info? e).map fun i => (List.range n).map fun j => (j * i.size, i.size)
  | _ => none

def fillL (pl : List (Nat × Nat)) : List Value → List (Nat × Value) → Option (List Value)
  | cs, [] => some cs
  | cs, (i, v) :: rest =>
    match pl[i]? with
    | none => none
    | some (off, size) =>
      if v.cells.toList.length = size ∧ off + size ≤ cs.length then fillL pl (cs.take off ++ v.cells.toList ++ cs.drop (off + size)) rest else none

theorem set_part (off : Nat) (vs : List Value) (cs : List Value) (h : off + vs.length ≤ cs.length) :
    (vs.zipIdx.foldl (fun cs (x : Value × Nat) => cs.setIfInBounds (off + x.2) x.1) cs.toArray) = (cs.take off ++ vs ++ cs.drop (off + vs.length)).toArray := by
  obtain ⟨h1, h2⟩ := Great.foldl_set off vs 0 cs.toArray
  apply Array.ext_getElem?
  intro k
  rw [h2 k]
  have hl : (cs.take off).length = off := by simp; omega
  simp only [Nat.add_zero, List.getElem?_toArray, List.size_toArray]
  by_cases c1 : k < off
  · rw [if_neg (by omega), List.append_assoc, List.getElem?_append_left (by omega), List.getElem?_take, if_pos c1]
  · by_cases c2 : k < off + vs.length
    · rw [if_pos ⟨by omega, c2, by omega⟩, List.append_assoc, List.getElem?_append_right (by omega), List.getElem?_append_left (by omega), hl]
    · rw [if_neg (by omega), List.append_assoc, List.getElem?_append_right (by omega), List.getElem?_append_right (by omega), hl, List.getElem?_drop]
      congr 1; omega

theorem fill_of_fillL {pl : List (Nat × Nat)} {place : Nat → Option (Nat × Nat)} : ∀ {parts : List (Nat × Value)} {cs cs' : List Value}, (∀ i p, pl[i]? = some p → place i = some p) →
    fillL pl cs parts = some cs' → Instr.fill place cs.toArray parts = some cs'.toArray
  | [], cs, cs', _, h => by simp only [fillL, Option.some.injEq] at h; subst h; rfl
  | (i, v) :: rest, cs, cs', hp, h => by
    simp only [fillL] at h
    split at h
    · cases h
    · rename_i off size hpl
      split at h
      · rename_i hc
        obtain ⟨c1, c2⟩ := hc
        have c1' : v.cells.size = size := by simpa using c1
        unfold Instr.fill
        rw [hp i _ hpl]
        simp only
        rw [if_neg (by simp [c1']; omega)]
        have hs := set_part off v.cells.toList cs (by rw [c1]; exact c2)
        have he : (Array.foldl (fun cs (x : Value × Nat) => cs.setIfInBounds (off + x.2) x.1) cs.toArray v.cells.zipIdx) = (cs.take off ++ v.cells.toList ++ cs.drop (off + size)).toArray := by
          rw [← Array.foldl_toList, Array.toList_zipIdx, hs, c1]
        rw [he]
        exact fill_of_fillL hp h
      · cases h

section
variable {P : Program} {ρ : Operand → Value} {w : World} {d : Option Tmp} {ty : TypeId} {pos : String} {af : Array Edge} {g : Option (Nat × Bool)}

theorem run_places (fs : List Field) : ∀ {pl : List (Nat × Nat)}, (fs.mapM fun f => (P.info? f.type).map fun i => (f.offset, i.size)) = some pl →
    (fs.mapM fun f => (do pure (f.offset, ← sizeOf f.type) : Sem (Nat × Nat))).run P w = .ok pl w := by
  induction fs with
  | nil => intro pl h; simp at h; subst h; simp
  | cons f fs ih =>
    intro pl h
    rw [List.mapM_cons] at h
    cases hi : P.info? f.type with
    | none => rw [hi] at h; simp at h
    | some i =>
      rw [hi] at h
      simp only [Option.map_some, Option.bind_eq_bind, Option.bind_some] at h
      cases hr : (fs.mapM fun f => (P.info? f.type).map fun i => (f.offset, i.size)) with
      | none => rw [hr] at h; simp at h
      | some pl' =>
        rw [hr] at h
        simp at h
        subst h
        have ih' := ih hr
        rw [List.mapM_cons]
        simp at ih' ⊢
        simp [run_sizeOf hi, ih']

theorem r_build {T : Nat} {parts : List (Nat × Operand)} {pl : List (Nat × Nat)} {zs vs : List Value} {ps : List (Nat × Value)} (hp : plT P T = some pl) (hz : zeroL P T = some zs)
    (hps : parts.map (fun p => (p.1, ρ p.2)) = ps) (hf : fillL pl zs ps = some vs) :
    (execOp ρ ⟨d, .build T parts.toArray, ty, pos, af, g⟩).run P w = .ok (.value (.agg vs.toArray)) w := by
  subst hps
  obtain ⟨z, hz1, hz2⟩ := zeroL_spec hz
  have hzc : z.cells = zs.toArray := by rw [← hz1]
  unfold plT at hp
  split at hp
  · rename_i fs hu
    have hpl := run_places (P := P) (w := w) fs.toList hp
    have hmap : (fs.mapM fun f => (do pure (f.offset, ← sizeOf f.type) : Sem (Nat × Nat))).run P w = .ok pl.toArray w := by
      rw [Array.mapM_eq_mapM_toList]
      simp at hpl ⊢
      simp [hpl]
    have hfill := fill_of_fillL (place := fun i => pl[i]?) (fun i p h => h) hf
    simp only [execOp, Instr.build, Sem.run_bind, hz2, Result.andThen_ok, run_underlying hu, hzc]
    simp only [Sem.run_bind, hmap, Result.andThen_ok]
    simp [hfill, go_sem]
  · rename_i n e hu
    cases hi : P.info? e with
    | none => rw [hi] at hp; simp at hp
    | some i =>
      rw [hi] at hp
      simp only [Option.map_some, Option.some.injEq] at hp
      subst hp
      have hfill := fill_of_fillL (place := fun j => some (j * i.size, i.size)) (fun j p h => by
        rw [List.getElem?_map] at h
        by_cases hj : j < n
        · simp [hj] at h; simp [h]
        · simp [hj] at h) hf
      simp only [execOp, Instr.build, Sem.run_bind, hz2, Result.andThen_ok, run_underlying hu, hzc, run_sizeOf hi]
      simp [hfill, go_sem]
  · cases hp
end

/-! ### New slices -/

/-- A slice type: its element type, the element's cells, its bytes. -/
def mkT (P : Program) (T : Nat) : Option (Nat × Nat × Nat) :=
  match P.underlying T with
  | some (.slice e) =>
    match P.info? e with
    | some i => some (e, i.size, i.bytes)
    | none => none
  | _ => none

theorem mkT_spec {P : Program} {T e s by' : Nat} (h : mkT P T = some (e, s, by')) : P.underlying T = some (.slice e) ∧ ∃ i, P.info? e = some i ∧ i.size = s ∧ i.bytes = by' := by
  unfold mkT at h
  split at h
  · rename_i e' hu
    split at h
    · rename_i i hi
      simp only [Option.some.injEq, Prod.mk.injEq] at h
      obtain ⟨rfl, rfl, rfl⟩ := h
      exact ⟨hu, i, hi, rfl, rfl⟩
    · cases h
  · cases h

theorem zeroL_info {P : Program} {T : Nat} {zs : List Value} {i : TypeInfo} (h : zeroL P T = some zs) (hi : P.info? T = some i) : ∃ z, i.zero = some z ∧ z.cells = zs.toArray := by
  unfold zeroL at h
  rw [hi] at h
  simp only at h
  split at h
  · rename_i v hv
    simp only [Option.some.injEq] at h
    exact ⟨v, hv, by rw [← h]⟩
  · cases h

/-- Zeros, over and over. -/
def zrow (zs : List Value) (i : Nat) : Value := nth zs (i % zs.length)

section
variable {P : Program} {ops : Array Oper} {Q : Exit → Act → World → Prop} {n : Nat} {ds : List Deferred} {rest : List Oper} {e : Env} {w w0 : World} {M : Nat → Prop} {l : List HI}
variable {d : Nat} {ty : TypeId} {pos : String} {af : Array Edge} {g : Option (Nat × Bool)} {x y : Operand}

/-- 'make([]T, len, cap)'. -/
theorem WL.make {T el s by' len cap : Nat} {zs : List Value} {k1 k2 : IntKind} {a b : Int} (st : St w0 M l w) (hT : mkT P T = some (el, s, by')) (hz : zeroL P el = some zs) (hx : ev e x = .int k1 a) (hy : ev e y = .int k2 b)
    (ha : a = (len : Int)) (hb : b = (cap : Int)) (hlc : len ≤ cap) (hby : by' * cap ≤ 281474976710656) (hcm : cap ≤ 9223372036854775807) (hs : zs.length = s) (hc : (okX e x && okX e y) = true) (hn : Nat.blt d n = true) (hg : wantE ops e g = true)
    (k : ∀ b w', St w0 M ((b, Row el (cap * s) (zrow zs)) :: l) w' → WL P ops Q n ds rest ((d, .slice (some ⟨b, 0, none⟩) len cap) :: e) w') :
    WL P ops Q n ds (⟨some d, .makeSlice T x y, ty, pos, af, g⟩ :: rest) e w := by
  obtain ⟨hu, i, hi, rfl, rfl⟩ := mkT_spec hT
  obtain ⟨z, hz1, hz2⟩ := zeroL_info hz hi
  subst ha hb
  have hr := run_make (P := P) w T el i z hu hi hz1 k1 k2 (len : Int) (cap : Int) (by omega) (by omega) (by rw [← Int.natCast_mul]; omega) (by omega)
  simp only [Int.toNat_natCast] at hr
  refine WL.v (v := .slice (some ⟨w.heap.size, 0, none⟩) len cap) (w' := w.alloc (.cells (madeCells z.cells (cap * i.size)) el)) ?_ (by simpa [cov, noSel, Op.operands] using hc) hn hg (k _ _ (st.alloc _ ⟨_, rfl, size_madeCells _ _, fun j hj => ?_⟩))
  · simp only [execOp, hx, hy, Sem.run_bind, hr, Result.andThen_ok, Sem.run_pure]
  · have hpos : 0 < zs.length := by
      rcases Nat.eq_zero_or_pos zs.length with h0 | h0
      · rw [← hs, h0] at hj; simp at hj
      · exact h0
    have hm : j % zs.length < zs.length := Nat.mod_lt _ hpos
    simp only [madeCells, hz2, Array.getElem?_map, Array.getElem?_range, hj, List.size_toArray, zrow, nth, List.getD, hm]
    simp [hm, List.getElem?_eq_getElem hm]

/-- The one-part slice of a variadic call, or a slice literal. -/
theorem WL.mkslice {T el s len m : Nat} {parts : List (Nat × Operand)} {zs vs : List Value} {ps : List (Nat × Value)} (st : St w0 M l w) (hT : slT P T = some (el, s)) (hz : zeroL P el = some zs)
    (hps : parts.map (fun p => (p.1, ev e p.2)) = ps) (hf : (bif Nat.beq zs.length s && Nat.blt 0 (len * s) && Nat.ble (len * s) 16777216 then fillL ((List.range len).map fun j => (j * s, s)) ((List.range (len * s)).map (zrow zs)) ps else none) = some vs)
    (hm : vs.length = m) (hc : cov e (.buildSlice T len parts.toArray) = true) (hn : Nat.blt d n = true) (hg : wantE ops e g = true)
    (k : ∀ b w', St w0 M ((b, Row el m (nth vs)) :: l) w' → WL P ops Q n ds rest ((d, .slice (some ⟨b, 0, none⟩) len len) :: e) w') :
    WL P ops Q n ds (⟨some d, .buildSlice T len parts.toArray, ty, pos, af, g⟩ :: rest) e w := by
  subst hps
  obtain ⟨hu, i, hi, rfl⟩ := slT_spec hT
  obtain ⟨z, hz1, hz2⟩ := zeroL_info hz hi
  cases hcond : (Nat.beq zs.length i.size && Nat.blt 0 (len * i.size) && Nat.ble (len * i.size) 16777216) with
  | false => rw [hcond] at hf; simp at hf
  | true =>
    rw [hcond] at hf
    simp only [cond_true] at hf
    simp only [Bool.and_eq_true] at hcond
    obtain ⟨⟨c1, c2⟩, c3⟩ := hcond
    have c1 := Nat.eq_of_beq_eq_true c1
    have c2 : 0 < len * i.size := by simpa using c2
    have c3 : len * i.size ≤ 16777216 := Nat.le_of_ble_eq_true c3
    have hzero : ((Array.range (len * i.size)).map (z.cells[· % z.cells.size]!)) = ((List.range (len * i.size)).map (zrow zs)).toArray := by
      apply Array.ext_getElem?
      intro j
      by_cases hj : j < len * i.size
      · have hm' : j % zs.length < zs.length := Nat.mod_lt _ (by rcases Nat.eq_zero_or_pos zs.length with h0 | h0; · rw [← c1, h0] at c2; simp at c2
                                                                 · exact h0)
        simp [hz2, hj, zrow, nth, List.getD, hm', List.getElem?_eq_getElem hm']
      · simp [hj]
    have hfill := fill_of_fillL (place := fun j => some (j * i.size, i.size)) (fun j p h => by
        rw [List.getElem?_map] at h
        by_cases hj : j < len
        · simp [hj] at h; simp [h]
        · simp [hj] at h) hf
    rw [← hzero] at hfill
    subst hm
    refine WL.v (v := .slice (some ⟨w.heap.size, 0, none⟩) len len) (w' := w.alloc (.cells vs.toArray el)) ?_ hc hn hg (k _ _ (st.alloc _ (row_nth el vs)))
    have h1 : ¬ len * i.size > 2 ^ 24 := by omega
    have h2 : ¬ len * i.size = 0 := by omega
    have hr := Go.run_buildSlice (P := P) w T el len (parts.toArray.map fun p => (p.1, ev e p.2)) vs.toArray i z hu hi hz1 h1 h2 (by simpa using hfill)
    simp only [execOp, Sem.run_bind]
    rw [show (parts.toArray.map fun (x : Nat × Operand) => match x with | (i, x) => (i, ev e x)) = parts.toArray.map fun p => (p.1, ev e p.2) from rfl, hr]
    rfl
end

end Go.E1
