/-
  E8: append; comparisons besides integers; assertions. No project text.
-/
import Derived.Test.Qxb6500834aGreatDoorE7
set_option linter.unusedSimpArgs false
set_option linter.unusedVariables false
namespace Go.E1
open Go.RowKit

section
variable {w w0 : World} {M : Nat → Prop} {l : List HI}

/-- Behind a law that ends in 'grownBy': the row that may have been written was the first item's. -/
theorem St.grown {b : Nat} {p : Obj → Prop} (h : St w0 M ((b, p) :: l) w) {w' : World} (hg : w.grownBy w' (some b)) : St w0 M l w' := by
  have hnd := h.nodup
  simp only [List.map_cons, List.nodup_cons] at hnd
  refine ⟨hg.os.trans h.os, hg.tape.trans h.tape, hg.output.trans h.output, Nat.le_trans h.size hg.size, fun k hk hM => ?_, hnd.2, fun it hi => ?_, fun it hi => h.own it (by simp [hi])⟩
  · rw [hg.block k (Nat.lt_of_lt_of_le hk h.size) (fun e => ?_)]
    · exact h.kept k hk hM
    · simp only [Option.some.injEq] at e
      subst e
      rcases h.own (k, p) (by simp) with h1 | h1
      · exact hM h1
      · simp only at h1; omega
  · obtain ⟨o, h1, h2⟩ := h.get it (by simp [hi])
    refine ⟨o, ?_, h2⟩
    rw [hg.block it.1 (h.lt (by simp [hi])) (fun e => ?_)]
    · exact h1
    · simp only [Option.some.injEq] at e
      exact hnd.1 (List.mem_map.2 ⟨it, hi, e⟩)

theorem St.grown0 (h : St w0 M l w) {w' : World} (hg : w.grownBy w' none) : St w0 M l w' := by
  refine ⟨hg.os.trans h.os, hg.tape.trans h.tape, hg.output.trans h.output, Nat.le_trans h.size hg.size, fun k hk hM => ?_, h.nodup, fun it hi => ?_, h.own⟩
  · rw [hg.block k (Nat.lt_of_lt_of_le hk h.size) (by simp)]; exact h.kept k hk hM
  · obtain ⟨o, h1, h2⟩ := h.get it hi
    exact ⟨o, by rw [hg.block it.1 (h.lt hi) (by simp)]; exact h1, h2⟩

/-- One item more, of a block that no other item names. -/
theorem St.add {b : Nat} {p : Obj → Prop} {o : Obj} (h : St w0 M l w) (hb : w.heap[b]? = some o) (hp : p o) (hne : ∀ it ∈ l, it.1 ≠ b) (ho : M b ∨ w0.heap.size ≤ b) : St w0 M ((b, p) :: l) w := by
  refine ⟨h.os, h.tape, h.output, h.size, h.kept, ?_, fun it hi => ?_, fun it hi => ?_⟩
  · simp only [List.map_cons, List.nodup_cons]
    exact ⟨fun hm => by obtain ⟨it, hi, he⟩ := List.mem_map.1 hm; exact hne it hi he, h.nodup⟩
  · rcases List.mem_cons.1 hi with rfl | hi
    · exact ⟨o, hb, hp⟩
    · exact h.get it hi
  · rcases List.mem_cons.1 hi with rfl | hi
    · exact ho
    · exact h.own it hi

theorem ownsRow_of {b t cap n s : Nat} {f : Nat → Value} (h : St w0 M ((b, Row t (cap * s) f) :: l) w) (hn : n ≤ cap) (hcap : cap ≤ maxLen) :
    w.ownsRow 0 t s (.slice (some ⟨b, 0, none⟩) n cap) n ((List.range (n * s)).map f) := by
  obtain ⟨o, h1, cs, rfl, h3, h4⟩ := h.get (b, Row t (cap * s) f) (by simp)
  refine ⟨by simp, .inr ⟨b, cap, cs, rfl, Nat.zero_le _, h1, hn, hcap, h3, ?_⟩⟩
  apply List.ext_getElem?
  intro i
  have hle : n * s ≤ cap * s := Nat.mul_le_mul_right s hn
  by_cases hi : i < n * s
  · rw [List.getElem?_take, if_pos hi]
    have := h4 i (by omega)
    simpa [hi] using this
  · rw [List.getElem?_take, if_neg hi]
    simp [hi]
end

section
variable {P : Program} {ops : Array Oper} {Q : Exit → Act → World → Prop} {n : Nat} {ds : List Deferred} {rest : List Oper} {e : Env} {w w0 : World} {M : Nat → Prop} {l : List HI}
variable {d : Nat} {ty : TypeId} {pos : String} {af : Array Edge} {g : Option (Nat × Bool)} {x y : Operand}

theorem row_of_owns {w : World} {el s b nn cap : Nat} {xs : List Value} (h : w.ownsRow 0 el s (.slice (some ⟨b, 0, none⟩) nn cap) nn xs) :
    nn ≤ cap ∧ cap ≤ maxLen ∧ ∃ o f, w.heap[b]? = some o ∧ Row el (cap * s) f o ∧ ∀ i, i < nn * s → xs[i]? = some (f i) := by
  rcases h.2 with ⟨h1, _⟩ | ⟨g', cap', cur, h1, _, hb, h2, h3, h4, h5⟩
  · cases h1
  · simp only [Value.slice.injEq, Option.some.injEq, Addr.mk.injEq] at h1
    obtain ⟨⟨rfl, _⟩, _, rfl⟩ := h1
    refine ⟨h2, h3, _, fun i => cur.getD i undef, hb, ⟨cur, rfl, h4, fun i hi => ?_⟩, fun i hi => ?_⟩
    · show cur[i]? = some (cur.getD i undef)
      rw [Array.getD_eq_getD_getElem?, Array.getElem?_eq_getElem (by omega)]; rfl
    · rw [← h5, List.getElem?_take, if_pos hi]
      have hle : nn * s ≤ cap * s := Nat.mul_le_mul_right s h2
      have : i < cur.size := by omega
      simp [this]

/-- 'append' onto the first item's row. -/
theorem WL.append {T el s by' b nn cap m c bx ox : Nat} {zs : List Value} {f news : Nat → Value} (st : St w0 M ((b, Row el (cap * s) f) :: l) w) (hT : mkT P T = some (el, s, by')) (hz : zeroL P el = some zs) (hs : zs.length = s) (hs0 : 0 < s)
    (hx : ev e x = .slice (some ⟨b, 0, none⟩) nn cap) (hy : ev e y = .slice (some ⟨bx, ox, none⟩) m c) (hnc : nn ≤ cap) (hcap : cap ≤ 9223372036854775807) (hm0 : 0 < m)
    (hnews : ∀ j, j < m * s → w.cell? ⟨bx, ox + j, none⟩ = some (news j)) (h1 : ∀ j, j < m * s → (news j).oneCell' = true)
    (hby : (nn + m) * by' ≤ 140737488355328) (h63 : nn + m ≤ 9223372036854775807) (hc : (okX e x && okX e y) = true) (hn : Nat.blt d n = true) (hg : wantE ops e g = true)
    (k : ∀ b' cap' f' w', St w0 M ((b', Row el (cap' * s) f') :: l) w' → nn + m ≤ cap' → cap' ≤ 9223372036854775807 → (∀ i, i < nn * s → f' i = f i) → (∀ j, j < m * s → f' (nn * s + j) = news j) →
      WL P ops Q n ds rest ((d, .slice (some ⟨b', 0, none⟩) (nn + m) cap') :: e) w') :
    WL P ops Q n ds (⟨some d, .call ⟨.builtin .append, #[x, y], #[T, T]⟩, ty, pos, af, g⟩ :: rest) e w := by
  obtain ⟨hu, i, hi, rfl, rfl⟩ := mkT_spec hT
  obtain ⟨z, hz1, hz2⟩ := zeroL_info hz hi
  have hml : maxLen = 9223372036854775807 := rfl
  obtain ⟨g', cap', w', hr, ho, hgr, hlie, hlt⟩ := run_append_lies (P := P) w T ty 0 el i z i.size i.bytes hu hi hz1 rfl rfl (by rw [hz2]; simpa using hs) hs0
    (.slice (some ⟨b, 0, none⟩) nn cap) nn _ (ownsRow_of st hnc (by omega)) ⟨bx, ox, none⟩ m c ((List.range (m * i.size)).map news) (by simp)
    (fun j u hj => by
      by_cases hj' : j < m * i.size
      · simp [hj'] at hj; subst hj; rw [Addr.add_none]; exact hnews j hj'
      · simp [hj'] at hj)
    (fun u hu' => by obtain ⟨j, hj, rfl⟩ := List.mem_map.1 hu'; exact h1 j (List.mem_range.1 hj)) hm0 (by omega) hby (Nat.zero_le _) _ rfl
  obtain ⟨r1, r2, o, f', hb', hrow, hcells⟩ := row_of_owns ho
  have hst1 : St w0 M l w' := st.grown hgr
  have hst : St w0 M ((g', Row el (cap' * i.size) f') :: l) w' := by
    refine hst1.add hb' hrow (fun it hit heq => ?_) ?_
    · rcases hlie with h | h
      · simp only [Value.ownBlock, Option.some.injEq] at h
        have hnd := st.nodup
        simp only [List.map_cons, List.nodup_cons] at hnd
        exact hnd.1 (List.mem_map.2 ⟨it, hit, by rw [heq, h]⟩)
      · have := st.lt (it := it) (by simp [hit]); omega
    · rcases hlie with h | h
      · simp only [Value.ownBlock, Option.some.injEq] at h
        subst h; exact st.own (b, Row el (cap * i.size) f) (by simp)
      · exact .inr (by rw [h]; exact st.size)
  refine WL.v (v := .slice (some ⟨g', 0, none⟩) (nn + m) cap') (w' := w') ?_ (by simpa [cov, noSel, Op.operands, Call.operands] using hc) hn hg (k g' cap' f' w' hst r1 (by omega) (fun j hj => ?_) (fun j hj => ?_))
  · simp only [execOp, resolve, invoke, builtin]
    simp [hx, hy, hr]
  · have hj2 : j < (nn + m) * i.size := by rw [Nat.add_mul]; omega
    have := hcells j hj2
    rw [List.getElem?_append_left (by simpa using hj)] at this
    simp [hj] at this
    exact this.symm
  · have hj2 : nn * i.size + j < (nn + m) * i.size := by rw [Nat.add_mul]; omega
    have := hcells _ hj2
    rw [List.getElem?_append_right (by simp)] at this
    simp [hj] at this
    exact this.symm

/-- 'append' onto a nil slice. -/
theorem WL.append0 {T el s by' m c bx ox : Nat} {zs : List Value} {news : Nat → Value} (st : St w0 M l w) (hT : mkT P T = some (el, s, by')) (hz : zeroL P el = some zs) (hs : zs.length = s) (hs0 : 0 < s)
    (hx : ev e x = .slice none 0 0) (hy : ev e y = .slice (some ⟨bx, ox, none⟩) m c) (hm0 : 0 < m)
    (hnews : ∀ j, j < m * s → w.cell? ⟨bx, ox + j, none⟩ = some (news j)) (h1 : ∀ j, j < m * s → (news j).oneCell' = true)
    (hby : m * by' ≤ 140737488355328) (h63 : m ≤ 9223372036854775807) (hc : (okX e x && okX e y) = true) (hn : Nat.blt d n = true) (hg : wantE ops e g = true)
    (k : ∀ b' cap' f' w', St w0 M ((b', Row el (cap' * s) f') :: l) w' → m ≤ cap' → cap' ≤ 9223372036854775807 → (∀ j, j < m * s → f' j = news j) →
      WL P ops Q n ds rest ((d, .slice (some ⟨b', 0, none⟩) m cap') :: e) w') :
    WL P ops Q n ds (⟨some d, .call ⟨.builtin .append, #[x, y], #[T, T]⟩, ty, pos, af, g⟩ :: rest) e w := by
  obtain ⟨hu, i, hi, rfl, rfl⟩ := mkT_spec hT
  obtain ⟨z, hz1, hz2⟩ := zeroL_info hz hi
  have hml : maxLen = 9223372036854775807 := rfl
  obtain ⟨g', cap', w', hr, ho, hgr, hlie, hlt⟩ := run_append_lies (P := P) w T ty 0 el i z i.size i.bytes hu hi hz1 rfl rfl (by rw [hz2]; simpa using hs) hs0
    (.slice none 0 0) 0 [] (World.ownsRow_nil _ _ _ _) ⟨bx, ox, none⟩ m c ((List.range (m * i.size)).map news) (by simp)
    (fun j u hj => by
      by_cases hj' : j < m * i.size
      · simp [hj'] at hj; subst hj; rw [Addr.add_none]; exact hnews j hj'
      · simp [hj'] at hj)
    (fun u hu' => by obtain ⟨j, hj, rfl⟩ := List.mem_map.1 hu'; exact h1 j (List.mem_range.1 hj)) hm0 (by omega) (by simpa using hby) (Nat.zero_le _) _ rfl
  simp only [Nat.zero_add, List.nil_append] at hr ho
  obtain ⟨r1, r2, o, f', hb', hrow, hcells⟩ := row_of_owns ho
  have hg' : g' = w.heap.size := by
    rcases hlie with h | h
    · simp [Value.ownBlock] at h
    · exact h
  have hst1 : St w0 M l w' := st.grown0 hgr
  have hst : St w0 M ((g', Row el (cap' * i.size) f') :: l) w' :=
    hst1.add hb' hrow (fun it hit heq => by have := st.lt hit; omega) (.inr (by rw [hg']; exact st.size))
  refine WL.v (v := .slice (some ⟨g', 0, none⟩) m cap') (w' := w') ?_ (by simpa [cov, noSel, Op.operands, Call.operands] using hc) hn hg (k g' cap' f' w' hst r1 (by omega) (fun j hj => ?_))
  · simp only [execOp, resolve, invoke, builtin]
    simp [hx, hy, hr]
  · have := hcells j hj
    simp [hj] at this
    exact this.symm

/-- 'append' where there is room, anywhere in the first item's row. -/
theorem WL.appendR {T el s b off nn cap m c bx ox t mm : Nat} {f news : Nat → Value} (st : St w0 M ((b, Row t mm f) :: l) w) (hT : slT P T = some (el, s))
    (hx : ev e x = .slice (some ⟨b, off, none⟩) nn cap) (hy : ev e y = .slice (some ⟨bx, ox, none⟩) m c) (hroom : nn + m ≤ cap) (hin : off + (nn + m) * s ≤ mm)
    (hnews : ∀ j, j < m * s → w.cell? ⟨bx, ox + j, none⟩ = some (news j)) (h1 : ∀ j, j < m * s → (news j).oneCell' = true)
    (hc : (okX e x && okX e y) = true) (hn : Nat.blt d n = true) (hg : wantE ops e g = true)
    (k : ∀ w', St w0 M ((b, Row t mm (upds f (off + nn * s) (m * s) news)) :: l) w' → WL P ops Q n ds rest ((d, .slice (some ⟨b, off, none⟩) (nn + m) cap) :: e) w') :
    WL P ops Q n ds (⟨some d, .call ⟨.builtin .append, #[x, y], #[T, T]⟩, ty, pos, af, g⟩ :: rest) e w := by
  obtain ⟨hu, i, hi, rfl⟩ := slT_spec hT
  obtain ⟨o, hb, cs, rfl, hs, hcs⟩ := st.get (b, Row t mm f) (by simp)
  simp only at hb
  have hsum : (nn + m) * i.size = nn * i.size + m * i.size := Nat.add_mul _ _ _
  have hf := run_firstCells_some (P := P) w i.size m ⟨bx, ox, none⟩ m c ((List.range (m * i.size)).map news) (by simp) (fun j u hj => by
      by_cases hj' : j < m * i.size
      · simp [hj'] at hj; subst hj; rw [Addr.add_none]; exact hnews j hj'
      · simp [hj'] at hj)
  have hst := run_storeCells_at P b (off + nn * i.size) t ((List.range (m * i.size)).map news) 0 cs w hb (by simp; omega)
    (fun u hu' => by obtain ⟨j, hj, rfl⟩ := List.mem_map.1 hu'; exact h1 j (List.mem_range.1 hj))
  simp only [Nat.add_zero] at hst
  refine WL.v (v := .slice (some ⟨b, off, none⟩) (nn + m) cap) (w' := w.setRow b (cs.toList.take (off + nn * i.size) ++ (List.range (m * i.size)).map news ++ cs.toList.drop (off + nn * i.size + ((List.range (m * i.size)).map news).length)).toArray) ?_ (by simpa [cov, noSel, Op.operands, Call.operands] using hc) hn hg (k _ (st.setRow hb ⟨_, rfl, ?_, fun j hj => ?_⟩))
  · simp only [execOp, resolve, invoke, builtin]
    simp [hx, hy, Builtin.append_, run_underlying hu, run_sizeOf hi, Builtin.lenOf, hroom, hf, Addr.add_none, hst]
  · simp [List.length_take, List.length_drop]; omega
  · have hl : (cs.toList.take (off + nn * i.size)).length = off + nn * i.size := by simp; omega
    simp only [upds_eq, List.getElem?_toArray, List.length_map, List.length_range]
    by_cases c1 : j < off + nn * i.size
    · rw [if_neg (by omega), List.append_assoc, List.getElem?_append_left (by omega), List.getElem?_take, if_pos c1]
      simpa using hcs j hj
    · by_cases c2 : j < off + nn * i.size + m * i.size
      · rw [if_pos ⟨by omega, c2⟩, List.append_assoc, List.getElem?_append_right (by omega), List.getElem?_append_left (by simp; omega), hl]
        simp [show j - (off + nn * i.size) < m * i.size by omega]
      · rw [if_neg (by omega), List.append_assoc, List.getElem?_append_right (by omega), List.getElem?_append_right (by simp; omega), hl, List.getElem?_drop]
        simp only [List.length_map, List.length_range]
        rw [show off + nn * i.size + m * i.size + (j - (off + nn * i.size) - m * i.size) = j by omega]
        simpa using hcs j hj
end

end Go.E1
