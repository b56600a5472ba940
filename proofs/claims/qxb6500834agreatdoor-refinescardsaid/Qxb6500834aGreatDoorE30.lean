/-
  E30: long results in memory. No project text.
-/
import Derived.Test.Qxb6500834aGreatDoorE29
set_option linter.unusedSimpArgs false
set_option linter.unusedVariables false
namespace Go.E1
open Go.RowKit
theorem mkA_get {n i : Nat} {f : Nat → Value} (h : i < n) : (mkA n f)[i]? = some (f i) := by simp [mkA, h]
theorem mkA_congr {n : Nat} {f g : Nat → Value} (h : ∀ i, i < n → f i = g i) : mkA n f = mkA n g := by
  unfold mkA
  congr 1
  exact List.map_congr_left fun i hi => h i (List.mem_range.1 hi)
section
variable {P : Program} {fn : Func} {R : Ending → World → Prop} {Q : Exit → Act → World → Prop} {n : Nat} {e : Env} {w : World}
theorem WC.retCN {t T bl off m : Nat} {f : Nat → Value} (hr : fn.results = #[.cell t T]) (hq : ∀ a w, bodyPost P fn R .ret a w → Q .ret a w) (hk : knows e t = true) (hT : aggT P T = some m) (hx : look e t = .pointer (some ⟨bl, off, none⟩)) (hc : ∀ i, i < m → w.cell? ⟨bl, off + i, none⟩ = some (f i))
    (h : R (.returned (.agg (mkA m f))) w) : WC P .ret Q n [] e w :=
  WC.retC (vs := (List.range m).map f) hr hq hk (by simpa using hT) hx (Cells.mk fun j v hj => by
    rw [List.getElem?_map] at hj
    by_cases hm : j < m
    · rw [List.getElem?_range hm] at hj
      cases hj
      exact hc j hm
    · rw [List.getElem?_eq_none (by simpa using hm)] at hj; cases hj) h
theorem WC.retTCT {t u u' T bl off : Nat} {vs : List Value} (hr : fn.results = #[.tmp u, .cell t T, .tmp u']) (hq : ∀ a w, bodyPost P fn R .ret a w → Q .ret a w) (hk : (knows e t && knows e u && knows e u') = true) (hT : aggT P T = some vs.length) (hx : look e t = .pointer (some ⟨bl, off, none⟩)) (hc : Cells w bl off vs)
    (h : R (.returned (.tuple #[look e u, .agg vs.toArray, look e u'])) w) : WC P .ret Q n [] e w := by
  intro a ha
  simp only [Bool.and_eq_true] at hk
  refine wp_ret (hq a w (bodyPost_ret ?_ ha.defers h))
  obtain ⟨h1, i, h2, h3⟩ := aggT_spec hT w
  have h4 := run_loadCells_list (P := P) w ⟨bl, off, none⟩ vs (fun j v hj => by rw [Addr.add_none]; exact hc.spec j v hj)
  simp only [loadCells] at h4
  have hp : a.tmps[t]?.getD undef = .pointer (some ⟨bl, off, none⟩) := by
    have := ha.getD hk.1.1
    rw [hx] at this
    simpa using this
  have hu : a.tmps[u]?.getD undef = look e u := by simpa using ha.getD hk.1.2
  have hu' : a.tmps[u']?.getD undef = look e u' := by simpa using ha.getD hk.2
  simp [results, hr, hp, hu, hu', asAddr, loadVar, h1, run_sizeOf h2, h3, h4, go_sem]
end
section
variable {P : Program} {ops : Array Oper} {Q : Exit → Act → World → Prop} {n : Nat} {ds : List Deferred} {rest : List Oper} {e : Env} {w w0 : World} {M : Nat → Prop} {l : List HI}
variable {d : Nat} {ty : TypeId} {pos : String} {af : Array Edge} {g : Option (Nat × Bool)}
theorem WL.mkslice0 {T el s : Nat} (st : St w0 M l w) (hT : slT P T = some (el, s)) (hn : Nat.blt d n = true) (hg : wantE ops e g = true)
    (k : ∀ b w', St w0 M ((b, Row el 0 (nth [])) :: l) w' → WL P ops Q n ds rest ((d, .slice (some ⟨b, 0, none⟩) 0 0) :: e) w') :
    WL P ops Q n ds (⟨some d, .buildSlice T 0 #[], ty, pos, af, g⟩ :: rest) e w := by
  obtain ⟨hu, i, hi, rfl⟩ := slT_spec hT
  refine WL.v (v := .slice (some ⟨w.heap.size, 0, none⟩) 0 0) (w' := w.alloc (.cells ([] : List Value).toArray el)) ?_ rfl hn hg (k _ _ (st.alloc _ (row_nth el [])))
  simp [execOp, Instr.buildSlice, run_underlying hu, sizeOf, typeInfo, hi, newRow, Instr.fill, go_sem]
end
end Go.E1
