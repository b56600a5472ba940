/-
  E31: worlds behind the kit's sort. No project text.
-/
import Derived.Test.Qxb6500834aGreatDoorE30
import Derived.Sort.Row
import Derived.Sort.Grow
set_option linter.unusedSimpArgs false
set_option linter.unusedVariables false
namespace Go.E1
open Go.RowKit
theorem QL.wlC {P : Program} {ops : Array Oper} {Q : Exit → Act → World → Prop} {n : Nat} {ds : List Deferred} {e : Env} {C : World → Prop} {Kq : Act → Prop}
    (hKq : ∀ e', (∀ w', C w' → ∀ a, Fits a n ds e' → Q .normal a w') → ∀ a, Fits a n ds e' → Kq a) (k : ∀ w', C w' → WL P ops Q n ds [] e w') : QL P ops C Kq n ds [] e :=
  fun a ha => hKq e (fun w' st a' ha' => k w' st a' ha') a ha
section
variable {w0 w : World} {M : Nat → Prop} {l : List HI}
theorem heap_grow {w : World} {os : Array Obj} {k : Nat} (h : k < w.heap.size) : (Sort.grow w os).heap[k]? = w.heap[k]? := by
  show (w.heap ++ os)[k]? = _
  rw [Array.getElem?_append_left h]
theorem St.grow (h : St w0 M l w) (os : Array Obj) : St w0 M l (Sort.grow w os) := by
  refine ⟨h.os, h.tape, h.output, ?_, fun k hk hM => ?_, h.nodup, fun it hi => ?_, h.own⟩
  · have := h.size
    show w0.heap.size ≤ (w.heap ++ os).size
    rw [Array.size_append]; omega
  · rw [heap_grow (by have := h.size; omega)]; exact h.kept k hk hM
  · obtain ⟨o, h1, h2⟩ := h.get it hi
    exact ⟨o, by rw [heap_grow (h.lt hi)]; exact h1, h2⟩
theorem St.ahead (h : St w0 M l w) (n : Nat) : St w0 M l (Sort.ahead w n) := ⟨h.os, h.tape, h.output, h.size, h.kept, h.nodup, h.get, h.own⟩
theorem St.putRow {α : Type} [Inhabited α] {b t n off : Nat} {f : Nat → Value} {enc : α → Value} {d : Array α} (h : St w0 M ((b, Row t n f) :: l) w) :
    St w0 M ((b, Row t n (upds f off d.size fun j => enc d[j]!)) :: l) (Sort.putRow enc w b off d) := by
  obtain ⟨o, hb, cs, rfl, hs, hcs⟩ := h.get (b, Row t n f) (by simp)
  simp only at hb
  have hlt := (Array.getElem?_eq_some_iff.1 hb).1
  refine h.exch (o := .cells (Sort.putCells enc off d cs) t (0, 0)) rfl rfl rfl (by simp [Sort.putRow, Sort.mapBlock]) ?_ ⟨_, rfl, by simp [Sort.putCells, hs], fun i hi => ?_⟩ fun k hk => ?_
  · simp only [Sort.putRow, Sort.mapBlock, Array.getElem?_modify, if_true, hb]
    rfl
  · rw [upds_eq]
    have := hcs i hi
    simp only [Sort.putCells, Array.getElem?_mapIdx, this, Option.map_some]
  · simp only [Sort.putRow, Sort.mapBlock, Array.getElem?_modify]
    rw [if_neg (fun e => hk e.symm)]
end
end Go.E1
