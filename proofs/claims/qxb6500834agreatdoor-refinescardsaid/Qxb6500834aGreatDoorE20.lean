/-
  E20: what a readable argument looks like: the one-cell parts of a struct or array, however deep; a slice of bytes; a listed variable of an interface type. No project text.
-/
import Derived.Test.Qxb6500834aGreatDoorE19
import Derived.LaidHandle
import Derived.MakeChecks
set_option linter.unusedSimpArgs false
set_option linter.unusedVariables false
namespace Go.E1
open Go.RowKit

section
variable {P : Program} {w : World} {t : TypeId} {cs : List Value}

theorem rd_array {n : Nat} {e : TypeId} (hu : P.underlying t = some (.array n e)) (h : Rd P w t cs) : ∀ i, i < n → Rd P w e ((cs.drop (i * P.cellsOf e)).take (P.cellsOf e)) := by
  obtain ⟨H, enc, fuel, d, ps, h, hw⟩ := h
  cases fuel with
  | zero => simp [DataW.trod] at h
  | succ fuel =>
    unfold DataW.trod at h
    rw [hu] at h
    simp only at h
    split at h
    · rename_i hl
      intro i hi
      cases hm : ((List.range n).mapM fun i => DataW.trod enc P w 0 (fun _ => true) true fuel e ((cs.drop (i * P.cellsOf e)).take (P.cellsOf e))) with
      | none => simp [hm] at h
      | some xs =>
        simp only [hm, Option.map_some, Option.some.injEq, Prod.mk.injEq] at h
        obtain ⟨rfl, rfl⟩ := h
        obtain ⟨_, hg⟩ := mapM_some hm
        obtain ⟨y, hy1, hy2⟩ := hg i i (by simp [hi])
        refine ⟨H, enc, fuel, y.1, y.2, hy2, fun x hx => hw x ?_⟩
        simp only [DataW.weights, hu]
        exact weightsAll_mem (List.mem_map.2 ⟨y, List.mem_of_getElem? hy1, rfl⟩) x hx
    · cases h

/-- The one-cell parts: where each lies, of which type. -/
def leaves (P : Program) : Nat → TypeId → List (Nat × TypeId)
  | 0, _ => []
  | m + 1, t =>
    match P.underlying t with
    | some (.struct fs) => fs.toList.flatMap fun f => ((leaves P m f.type).filter fun p => decide (p.1 < P.cellsOf f.type)).map fun p => (f.offset + p.1, p.2)
    | some (.array n e) => (List.range n).flatMap fun i => ((leaves P m e).filter fun p => decide (p.1 < P.cellsOf e)).map fun p => (i * P.cellsOf e + p.1, p.2)
    | some (.int _) => [(0, t)]
    | some (.slice e) => if 0 < P.cellsOf e then [(0, t)] else []
    | _ => []

theorem nth_sub {o n k : Nat} (h : k < n) : nth ((cs.drop o).take n) k = nth cs (o + k) := by
  unfold nth
  rw [List.getD_eq_getElem?_getD, List.getD_eq_getElem?_getD, List.getElem?_take_of_lt h, List.getElem?_drop]

theorem leaves_rd : ∀ (m : Nat) (t : TypeId) (cs : List Value), Rd P w t cs → ∀ p, p ∈ leaves P m t → Rd P w p.2 [nth cs p.1]
  | 0, t, cs, _, p, hp => by simp [leaves] at hp
  | m + 1, t, cs, h, p, hp => by
    unfold leaves at hp
    split at hp
    · rename_i fs hu
      obtain ⟨f, hf, hp⟩ := List.mem_flatMap.1 hp
      obtain ⟨q, hq, rfl⟩ := List.mem_map.1 hp
      obtain ⟨hq1, hq2⟩ := List.mem_filter.1 hq
      obtain ⟨i, hi, hfi⟩ := List.getElem_of_mem hf
      have h2 := (rd_struct hu h).2 i f (by rw [List.getElem?_eq_getElem hi, hfi])
      have h3 := leaves_rd m f.type _ h2 q hq1
      rw [nth_sub (of_decide_eq_true hq2)] at h3
      exact h3
    · rename_i n e hu
      obtain ⟨i, hi, hp⟩ := List.mem_flatMap.1 hp
      obtain ⟨q, hq, rfl⟩ := List.mem_map.1 hp
      obtain ⟨hq1, hq2⟩ := List.mem_filter.1 hq
      have h2 := rd_array hu h i (List.mem_range.1 hi)
      have h3 := leaves_rd m e _ h2 q hq1
      rw [nth_sub (of_decide_eq_true hq2)] at h3
      exact h3
    · rename_i k hu
      obtain rfl := List.mem_singleton.1 hp
      obtain ⟨x, rfl, _⟩ := rd_int hu h
      exact h
    · rename_i e hu
      split at hp
      · rename_i he
        obtain rfl := List.mem_singleton.1 hp
        obtain ⟨a, n, c, b, o, rfl, _⟩ := rd_slice hu he h
        exact h
      · simp at hp
    · simp at hp

/-- The integer that a cell holds. -/
def iv : Value → Int
  | .int _ n => n
  | _ => 0

theorem rd_iv {k : IntKind} {v : Value} (hu : P.underlying t = some (.int k)) (h : Rd P w t [v]) : v = .int k (iv v) ∧ k.min ≤ iv v ∧ iv v ≤ k.max := by
  obtain ⟨x, hx, h1, h2⟩ := rd_int hu h
  simp only [List.cons.injEq, and_true] at hx
  subst hx
  exact ⟨rfl, h1, h2⟩

/-- A slice of bytes that came in. -/
theorem rd_bytes {el : TypeId} {k : Nat} {v : Value} (hu : P.underlying t = some (.slice el)) (he : P.underlying el = some (.int .u8)) (hc : P.cellsOf el = 1) (hb : P.bytesOf el = k) (hk : 0 < k) (h : Rd P w t [v]) : ∃ s : SV, v = s.v ∧ s.ok ∧ s.rd w ∧ s.bs.length ≤ 140737488355328 := by
  obtain ⟨a, n, c, b, o, hv, h1, h2, h3, h4, h5⟩ := rd_slice hu (by omega) h
  simp only [List.cons.injEq, and_true] at hv
  rw [hb] at h3
  have hr : reachBytes = 140737488351232 := rfl
  have hc1 : c ≤ c * k := Nat.le_mul_of_pos_right c hk
  have hcell : ∀ i, ∃ x : Int, i < n → w.cell? ⟨b, o + i, none⟩ = some (.int .u8 x) ∧ 0 ≤ x ∧ x < 256 := fun i => by
    by_cases hi : i < n
    · obtain ⟨ecs, e1, e2, e3⟩ := h5 i hi
      rw [hc] at e1 e2
      match ecs, e1 with
      | [q], _ =>
        obtain ⟨y, hy, y1, y2⟩ := rd_int he e3
        simp only [List.cons.injEq, and_true] at hy
        have m3 : IntKind.u8.min = 0 := rfl
        have m4 : IntKind.u8.max = 255 := rfl
        refine ⟨y, fun _ => ⟨?_, by omega, by omega⟩⟩
        have := e2 0 (by omega)
        rw [Nat.mul_one] at this
        rw [hy] at this; exact this
    · exact ⟨0, fun h => absurd h hi⟩
  obtain ⟨f, hf⟩ := Classical.skolem.1 hcell
  have hlen : ((List.range n).map f).length = n := by simp
  refine ⟨⟨a, c, b, o, (List.range n).map f⟩, ?_, ⟨?_, ?_, ?_, ?_⟩, ?_, ?_⟩
  · rw [hv]; unfold SV.v; simp
  · simp only [hlen]; exact h1
  · simp only; omega
  · simp only [hlen]; exact h4
  · intro x hx
    obtain ⟨i, hi, rfl⟩ := List.mem_map.1 hx
    exact (hf i (List.mem_range.1 hi)).2
  · intro i hi
    simp only [hlen] at hi
    have := (hf i hi).1
    simp only
    rw [this]
    simp [List.getD_eq_getElem?_getD, hi]
  · simp only [hlen]; omega

/-- A listed variable. -/
theorem laidVars_mem {n : String} {d : DataW Unit} : ∀ {l : List (String × DataW Unit)} {ps : List MemPlace}, DataW.LaidVars P w l ps → (n, d) ∈ l →
    ∃ g t cs fuel p, P.globalNamed n = some g ∧ (P.globals[g]?).map (·.type) = some t ∧ w.var? P n = some cs ∧ DataW.trod (fun _ => ()) P w 0 (fun _ => true) false fuel t cs.toList = some (d, p)
  | [], _, _, h => by simp at h
  | (n', d') :: r, ps, hl, h => by
    obtain ⟨g, t, cs, fuel, p, q, h1, h2, h3, h4, h5, _⟩ := hl
    rcases List.mem_cons.1 h with e | h
    · cases e
      exact ⟨g, t, cs, fuel, p, h1, h2, h3, h4⟩
    · exact laidVars_mem h5 h

theorem laid_iface {l : List (String × DataW Unit)} {n : String} {nm : String} {d : DataW Unit} {g : Nat} {ms : Array (String × TypeId)} (hl : laidMet P l w) (hm : (n, .iface nm d) ∈ l) (hg : P.globalNamed n = some g) (ht : (P.globals[g]?).map (·.type) = some t) (hu : P.underlying t = some (.interface ms)) :
    ∃ T u, w.cell? ⟨g, 0, none⟩ = some (.iface T u) := by
  obtain ⟨ps, hv, _⟩ := hl
  obtain ⟨g', t', cs, fuel, p, h1, h2, h3, h4⟩ := laidVars_mem hv hm
  obtain rfl := Option.some.inj (hg.symm.trans h1)
  obtain rfl := Option.some.inj (ht.symm.trans h2)
  have hcs : ∃ T u, cs.toList = [.iface T u] := by
    cases fuel with
    | zero => simp [DataW.trod] at h4
    | succ fuel =>
      unfold DataW.trod at h4
      rw [hu] at h4
      split at h4 <;> first | (exfalso; simp_all; done) | skip
      all_goals first | (rename_i T u heq; exact ⟨_, _, by assumption⟩) | (exact ⟨_, _, by assumption⟩) | (simp at h4)
  obtain ⟨T, u, hc⟩ := hcs
  have := World.var?_cell h1 h3 0
  have e : cs[0]? = some (.iface T u) := by
    have := congrArg (fun l => l[0]?) hc
    simpa using this
  rw [e] at this
  exact ⟨T, u, this⟩
end
end Go.E1
