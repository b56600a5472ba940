/-
  E28: long rows by functions: store, build, alloc; clear; the index of an array's value and of a string. No project text.
-/
import Derived.Test.Qxb6500834aGreatDoorE27
set_option linter.unusedSimpArgs false
set_option linter.unusedVariables false
namespace Go.E1
open Go.RowKit
theorem rowE {t n : Nat} {f g : Nat → Value} (h : ∀ k, k < n → f k = g k) : (Row t n f) = Row t n g := by
  funext o
  exact propext ⟨fun ho => ho.congr h, fun ho => ho.congr fun k hk => (h k hk).symm⟩
theorem stE {w0 : World} {M : Nat → Prop} {l : List HI} {w : World} {b t n : Nat} {f g : Nat → Value} (h : ∀ k, k < n → f k = g k) (st : St w0 M ((b, Row t n f) :: l) w) : St w0 M ((b, Row t n g) :: l) w := by rw [← rowE h]; exact st
theorem nth_map {n i : Nat} {g : Nat → Value} (h : i < n) : nth ((List.range n).map g) i = g i := by simp [nth, List.getD_eq_getElem?_getD, h]

section
variable {P : Program} {ops : Array Oper} {Q : Exit → Act → World → Prop} {n : Nat} {ds : List Deferred} {rest : List Oper} {e : Env} {w w0 : World} {M : Nat → Prop} {l : List HI}
variable {d : Nat} {ty : TypeId} {pos : String} {af : Array Edge} {g : Option (Nat × Bool)} {x y z : Operand}

theorem WL.storeN {T b off t m nv : Nat} {f v : Nat → Value} (st : St w0 M ((b, Row t m f) :: l) w) (hT : aggT P T = some nv) (hx : ev e x = .pointer (some ⟨b, off, none⟩)) (hy : ev e y = .agg (mkA nv v))
    (hv : ∀ i, i < nv → (v i).oneCell' = true) (ho : off + nv ≤ m) (hc : (okX e x && okX e y) = true) (hg : wantE ops e g = true)
    (k : ∀ w', St w0 M ((b, Row t m (upds f off nv v)) :: l) w' → WL P ops Q n ds rest e w') : WL P ops Q n ds (⟨none, .store T x y, ty, pos, af, g⟩ :: rest) e w := by
  refine WL.storeL (vs := (List.range nv).map v) st hT (by simp) hx hy (List.all_eq_true.2 fun q hq => ?_) ho hc hg fun w' st' => k w' (stE (fun i hi => ?_) st')
  · obtain ⟨i, hi, rfl⟩ := List.mem_map.1 hq
    exact hv i (List.mem_range.1 hi)
  · rw [upds_eq, upds_eq]
    split
    · rename_i h; exact nth_map (by omega)
    · rfl
theorem WL.allocN {T m : Nat} {v : Nat → Value} (st : St w0 M l w) (hz : zeroL P T = some ((List.range m).map v)) (hn : Nat.blt d n = true) (hg : wantE ops e g = true)
    (k : ∀ b w', St w0 M ((b, Row T m v) :: l) w' → WL P ops Q n ds rest ((d, .pointer (some ⟨b, 0, none⟩)) :: e) w') : WL P ops Q n ds (⟨some d, .alloc T, ty, pos, af, g⟩ :: rest) e w :=
  WL.alloc st hz (by simp) hn hg fun b w' st' => k b w' (stE (fun i hi => nth_map hi) st')
theorem WL.boxN {T m : Nat} {v : Nat → Value} (st : St w0 M l w) (hx : ev e x = .agg (mkA m v)) (hc : okX e x = true) (hn : Nat.blt d n = true) (hg : wantE ops e g = true)
    (k : ∀ b w', St w0 M ((b, Row T m v) :: l) w' → WL P ops Q n ds rest ((d, .pointer (some ⟨b, 0, none⟩)) :: e) w') : WL P ops Q n ds (⟨some d, .box T x, ty, pos, af, g⟩ :: rest) e w :=
  WL.box (vs := (List.range m).map v) st hx (by simp [Value.cells, mkA]) (by simp) hc hn hg fun b w' st' => k b w' (stE (fun i hi => nth_map hi) st')

/-- 'clear(s)' of a slice in a row of one's own. -/
theorem WL.clear {T el s b o k cap N : Nat} {zs : List Value} {f : Nat → Value} {t : Nat} (st : St w0 M ((b, Row t N f) :: l) w) (hT : slT P T = some (el, s)) (hz : zeroL P el = some zs) (hs : zs.length = s) (hs0 : 0 < s) (hk0 : 0 < k) (h1 : ∀ v ∈ zs, v.oneCell' = true) (hx : ev e x = .slice (some ⟨b, o, none⟩) k cap) (ho : o + k * s ≤ N)
    (hc : okX e x = true) (hg : wantE ops e g = true)
    (kk : ∀ w', St w0 M ((b, Row t N (upds f o (k * s) (zrow zs))) :: l) w' → WL P ops Q n ds rest e w') : WL P ops Q n ds (⟨none, .call ⟨.builtin .clear, #[x], #[T]⟩, ty, pos, af, g⟩ :: rest) e w := by
  obtain ⟨hu, i, hi, hi2⟩ := slT_spec hT
  obtain ⟨z, hz1, hz2⟩ := zeroL_spec hz
  have hzc : z.cells = zs.toArray := by rw [← hz1]
  have hm : ∀ j, j % zs.length < zs.length := fun j => Nat.mod_lt _ (by omega)
  obtain ⟨vs, hvs⟩ : ∃ vs, vs = (List.range (k * s)).map (zrow zs) := ⟨_, rfl⟩
  have hcl : (Builtin.zeroCells z.cells k).toList = vs := by
    rw [hzc, hvs]
    unfold Builtin.zeroCells
    apply List.ext_getElem?
    intro j
    by_cases hj : j < k * s
    · have := hm j
      rw [hs] at this
      have h5 : zs[j % s]? = some zs[j % s] := List.getElem?_eq_getElem (by rw [hs]; exact this)
      simp [hs, zrow, nth, List.getElem?_map, List.getD_eq_getElem?_getD, hj, getElem!_def, h5]
    · simp [hs, hj]
  have hlen : vs.length = k * s := by rw [hvs]; simp
  obtain ⟨ob, hb, cs, rfl, hsz, hcs⟩ := st.get (b, Row t N f) (by simp)
  simp only at hb
  have hst := run_storeCells_at P b o t vs 0 cs w hb (by simp; omega) (fun v hv' => by
    rw [hvs] at hv'
    obtain ⟨j, hj, rfl⟩ := List.mem_map.1 hv'
    refine h1 _ ?_
    unfold zrow nth
    rw [List.getD_eq_getElem?_getD, List.getElem?_eq_getElem (hm j)]
    exact List.getElem_mem (hm j))
  simp only [Nat.add_zero] at hst
  have hset : St w0 M ((b, Row t N (upds f o (k * s) (zrow zs))) :: l) (w.setRow b (cs.toList.take o ++ vs ++ cs.toList.drop (o + vs.length)).toArray) := st.setRow hb ⟨_, rfl, by simp [List.length_take, List.length_drop]; omega, fun i hi => by
    have hl : (cs.toList.take o).length = o := by simp; omega
    simp only [upds_eq, List.getElem?_toArray]
    by_cases h1 : i < o
    · rw [if_neg (by omega), List.append_assoc, List.getElem?_append_left (by omega), List.getElem?_take, if_pos h1]
      simpa using hcs i hi
    · by_cases h2 : i < o + vs.length
      · rw [if_pos ⟨by omega, by omega⟩, List.append_assoc, List.getElem?_append_right (by omega), List.getElem?_append_left (by omega), hl, hvs]
        simp [show i - o < k * s by omega]
      · rw [if_neg (by omega), List.append_assoc, List.getElem?_append_right (by omega), List.getElem?_append_right (by omega), hl, List.getElem?_drop]
        rw [show o + vs.length + (i - o - vs.length) = i by omega]
        simpa using hcs i hi⟩
  have hrun : (Builtin.clear_ #[T] ty #[.slice (some ⟨b, o, none⟩) k cap]).run P w = .ok (.tuple #[]) (w.setRow b (cs.toList.take o ++ vs ++ cs.toList.drop (o + vs.length)).toArray) := by
    cases k with
    | zero => omega
    | succ k =>
      simp [Builtin.clear_, run_underlying hu, hz2, go_sem]
      show ((Sem.run P (storeCells ⟨b, o, none⟩ (Builtin.zeroCells z.cells (k + 1)).toList) w).andThen _) = _
      rw [hcl, hst]
      simp [Result.andThen]
  refine WL.vn (v := .tuple #[]) (w' := _) ?_ (by simpa [cov, noSel, Op.operands, Call.operands] using hc) hg (kk _ hset)
  simp only [execOp, resolve, invoke, builtin]
  simp [hx, hrun]
theorem WL.clear0 {T el s cap : Nat} {ao : Option Addr} (hT : slT P T = some (el, s)) (hx : ev e x = .slice ao 0 cap) (hc : okX e x = true) (hg : wantE ops e g = true)
    (kk : WL P ops Q n ds rest e w) : WL P ops Q n ds (⟨none, .call ⟨.builtin .clear, #[x], #[T]⟩, ty, pos, af, g⟩ :: rest) e w := by
  obtain ⟨hu, i, hi, hi2⟩ := slT_spec hT
  refine WL.vn (v := .tuple #[]) (w' := w) ?_ (by simpa [cov, noSel, Op.operands, Call.operands] using hc) hg kk
  simp only [execOp, resolve, invoke, builtin]
  cases ao <;> simp [hx, Builtin.clear_, run_underlying hu, go_sem]
end
section
variable {P : Program} {ρ : Operand → Value} {w : World} {d : Option Tmp} {ty : TypeId} {pos : String} {af : Array Edge} {g : Option (Nat × Bool)} {x y : Operand}
theorem fill_stepN {pl : List (Nat × Nat)} {f p h : Nat → Value} {n i off size : Nat} {v : Value} {rest : List (Nat × Value)} (h1 : pl[i]? = some (off, size)) (h2 : v.cells.toList = (List.range size).map p) (h3 : off + size ≤ n)
    (hr : fillL pl ((List.range n).map (upds f off size p)) rest = some ((List.range n).map h)) : fillL pl ((List.range n).map f) ((i, v) :: rest) = some ((List.range n).map h) := by
  simp only [fillL, h1, h2]
  rw [if_pos (by simp [h3]), ← hr]
  congr 1
  apply List.ext_getElem?
  intro j
  have hl : ((List.range n).map f).length = n := by simp
  have hl2 : (((List.range n).map f).take off).length = off := by simp; omega
  have hl3 : ((List.range size).map p).length = size := by simp
  by_cases h4 : j < off
  · rw [List.append_assoc, List.getElem?_append_left (by omega), List.getElem?_take, if_pos h4]
    have : j < n := by omega
    simp [this, upds_eq, show ¬ (off ≤ j ∧ j < off + size) by omega]
  · by_cases h5 : j < off + size
    · rw [List.append_assoc, List.getElem?_append_right (by omega), List.getElem?_append_left (by omega), hl2]
      have : j < n := by omega
      simp [this, upds_eq, show j - off < size by omega, show off ≤ j ∧ j < off + size by omega]
    · rw [List.append_assoc, List.getElem?_append_right (by omega), List.getElem?_append_right (by omega), hl2, hl3, List.getElem?_drop, show off + size + (j - off - size) = j by omega]
      by_cases h6 : j < n
      · simp [h6, upds_eq, show ¬ (off ≤ j ∧ j < off + size) by omega]
      · simp [h6]
theorem r_buildN {T n : Nat} {parts : List (Nat × Operand)} {pl : List (Nat × Nat)} {z v : Nat → Value} {ps : List (Nat × Value)} (hp : plT P T = some pl) (hz : zeroL P T = some ((List.range n).map z))
    (hps : parts.map (fun p => (p.1, ρ p.2)) = ps) (hf : fillL pl ((List.range n).map z) ps = some ((List.range n).map v)) :
    (execOp ρ ⟨d, .build T parts.toArray, ty, pos, af, g⟩).run P w = .ok (.value (.agg (mkA n v))) w := r_build hp hz hps hf
theorem r_indexV {T k a : Nat} {el s : Nat} {n : Nat} {kk : IntKind} {cs : Array Value} {v : Value} (hT : arT P T = some (n, el, s)) (h1 : oneT P el = true) (hs : s = 1) (hx : ρ x = .agg cs) (hy : ρ y = .int kk (a : Nat)) (ha : a < n) (hc : cs[a]? = some v) :
    (execOp ρ ⟨d, .index T x y, ty, pos, af, g⟩).run P w = .ok (.value v) w := by
  subst hs
  obtain ⟨hu, i, hi2, hi3⟩ := arT_spec hT
  obtain ⟨h2, _⟩ := oneT_spec h1 w
  have e1 : ((a : Nat) : Int) < (n : Int) := by omega
  simp [execOp, Instr.index, hx, hy, asIntOf, run_underlying hu, run_sizeOf hi2, hi3, part, h2, hc, e1, go_sem]
  exact fun h => absurd h (by omega)
theorem r_indexT {T a : Nat} {kk : IntKind} {s : ByteArray} {v : UInt8} (hT : P.underlying T = some .string) (hx : ρ x = .string s) (hy : ρ y = .int kk (a : Nat)) (hc : s[a]? = some v) :
    (execOp ρ ⟨d, .index T x y, ty, pos, af, g⟩).run P w = .ok (.value (.int .u8 v.toNat)) w := by
  simp [execOp, Instr.index, hx, hy, asIntOf, run_underlying hT, hc, go_sem]
end
end Go.E1
