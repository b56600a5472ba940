import Derived.Test.Qxb6500837aDoorD17
import Derived.Test.Qxb6500837aDoorTie
import Derived.Test.Qxb6500837aDoorCards
import Derived.ChangeSame
import Derived.ChangeVars
import Derived.JoinedOf
import Derived.RowKit
import Derived.RowKitTokens
import Derived.LaidLaws
import Derived.LaidHandle
import Derived.Stop.Joined
import Derived.ProofKit
import Derived.SizedLaws
import Derived.LaidMore
import Derived.SevenTiedAt
set_option linter.unusedVariables false
set_option linter.unusedSimpArgs false
set_option maxRecDepth 100000
namespace Go.Proofs.Qxb6500837aDoor
open Go.RowKit Go.E1 Go.Disk
variable {w : World}

theorem ty_leaves : leaves Tryd.prog 6 33 = [(0, 28), (1, 2), (2, 2), (3, 2), (4, 29), (5, 2), (6, 29), (7, 2), (8, 2)] := by kernel_rfl
theorem lv {cs : List Value} (h : Rd Tryd.prog w 33 cs) (o T : Nat) (hm : (([(0, 28), (1, 2), (2, 2), (3, 2), (4, 29), (5, 2), (6, 29), (7, 2), (8, 2)] : List (Nat × Nat)).contains (o, T)) = true) : Rd Tryd.prog w T [nth cs o] :=
  leaves_rd 6 33 cs h (o, T) (by rw [ty_leaves]; exact List.contains_iff_mem.1 hm)
theorem ri64 {x : Int} (h : IntKind.i64.min ≤ x ∧ x ≤ IntKind.i64.max) : -9223372036854775808 ≤ x ∧ x ≤ 9223372036854775807 := by
  have m3 : IntKind.i64.min = -9223372036854775808 := rfl
  have m4 : IntKind.i64.max = 9223372036854775807 := rfl
  omega
theorem cons_eq {a b : Value} {l m : List Value} (h : a = b) (t : l = m) : a :: l = b :: m := by rw [h, t]

theorem op_one {cs : List Value} (h : Rd Tryd.prog w 33 cs) : ∃ y : OP, (∀ k, k < 9 → nth cs k = nth (opC y) k) ∧ y.pre w := by
  have c0 := rd_iv ty_uint28 (lv h 0 28 (by decide))
  have c1 := rd_iv ty_uint2 (lv h 1 2 (by decide))
  have c2 := rd_iv ty_uint2 (lv h 2 2 (by decide))
  have c3 := rd_iv ty_uint2 (lv h 3 2 (by decide))
  obtain ⟨s4, c4, s4o, s4r, s4l⟩ := rd_bytes ty_usl29 ty_uint5 ty_cells5 ty_bytes5 (by omega) (lv h 4 29 (by decide))
  have c5 := rd_iv ty_uint2 (lv h 5 2 (by decide))
  obtain ⟨s6, c6, s6o, s6r, s6l⟩ := rd_bytes ty_usl29 ty_uint5 ty_cells5 ty_bytes5 (by omega) (lv h 6 29 (by decide))
  have c7 := rd_iv ty_uint2 (lv h 7 2 (by decide))
  have c8 := rd_iv ty_uint2 (lv h 8 2 (by decide))
  refine ⟨⟨iv (nth cs 0), iv (nth cs 1), iv (nth cs 2), iv (nth cs 3), s4, iv (nth cs 5), s6, iv (nth cs 7), iv (nth cs 8)⟩, fun k hk => ?_, ⟨ri64 c1.2, ri64 c2.2, (ri64 c5.2).2, s4o, s4r, s4l, s6o, s6r, s6l⟩⟩
  have e : (List.range 9).map (nth cs) = opC ⟨iv (nth cs 0), iv (nth cs 1), iv (nth cs 2), iv (nth cs 3), s4, iv (nth cs 5), s6, iv (nth cs 7), iv (nth cs 8)⟩ := cons_eq c0.1 (cons_eq c1.1 (cons_eq c2.1 (cons_eq c3.1 (cons_eq c4 (cons_eq c5.1 (cons_eq c6 (cons_eq c7.1 (cons_eq c8.1 rfl))))))))
  refine Eq.trans ?_ (congrArg (fun l => nth l k) e)
  simp [nth, hk]

theorem scr_of {v : Value} (h : Rd Tryd.prog w 22 [v]) : ∃ a n c sb so op, v = .slice a n c ∧ n ≤ 140737488355328 ∧ (0 < n → a = some ⟨sb, so, none⟩) ∧ Scr w sb so n op := by
  obtain ⟨a, n, c, b, o, hv, h1, h2, h3, h4, h5⟩ := rd_slice ty_usl22 (by rw [ty_cells33]; omega) h
  simp only [List.cons.injEq, and_true] at hv
  rw [ty_bytes33] at h3
  have hr : reachBytes = 140737488351232 := rfl
  have hy : ∀ i, ∃ y : OP, i < n → (∀ k, k < 9 → w.cell? ⟨b, o + i * 9 + k, none⟩ = some (nth (opC y) k)) ∧ y.pre w := fun i => by
    by_cases hi : i < n
    · obtain ⟨ecs, e1, e2, e3⟩ := h5 i hi
      rw [ty_cells33] at e1 e2
      obtain ⟨y, hy, hp⟩ := op_one e3
      exact ⟨y, fun _ => ⟨fun k hk => by rw [e2 k hk, hy k hk], hp⟩⟩
    · exact ⟨⟨0, 0, 0, 0, SV.nil, 0, SV.nil, 0, 0⟩, fun h => absurd h hi⟩
  obtain ⟨y, hy⟩ := Classical.skolem.1 hy
  exact ⟨a, n, c, b, o, y, hv, by omega, h4, ⟨fun i hi => (hy i hi).1, fun i hi => (hy i hi).2⟩⟩

theorem Tryd.own : ownKnob Tryd.prog.godebug = none := by kernel_rfl
theorem Tryd.laidOut : laidOutB Tryd.prog = true := by kernel_rfl
theorem shutBool {H : Type} {enc : TypeId × Value → H} {P : Program} {w : World} {base : Nat} {spare : Nat → Bool} {held : Bool} {t : TypeId} (hu : P.underlying t = some .bool) (b : Bool) : DataW.Trod enc P w base spare held t (.bool b) (.lit (.bool b)) [] :=
  ⟨1, by simp [DataW.trod, hu, Value.cells]⟩
abbrev laidL {H : Type} : List (String × DataW H) := [("errors.errorType", Rows.laid_errors_errorType)]
theorem Tryd.et : Tryd.prog.globalNamed "errors.errorType" = some 0 := by kernel_rfl
theorem Tryd.rt : (Tryd.prog.cutTypes.find? (·.1 == "internal/reflectlite.rtype")).map (·.2) = some 141 := by kernel_rfl
theorem Tryd.size : Tryd.prog.types.size = 187 := by kernel_rfl
theorem Tryd.oneRow : ((List.range 187).filter fun t => Tryd.prog.rowNamed t [101, 114, 114, 111, 114]) = [70] := by kernel_rfl

/-- What the condition gives a walk: the variable's one cell. -/
theorem handle_of_laid {W : World} (h : laidMetH Tryd.prog laidL W) : hG W := by
  have h' : laidMet Tryd.prog [] W ∧ handlesMet Tryd.prog laidL W := h
  obtain ⟨name, u, ty, e1, e2, e3, e4, e5⟩ := h'.2 _ (List.mem_singleton.2 rfl)
  have en : name = [101, 114, 114, 111, 114] := (Option.some.inj e1).symm
  subst en
  obtain rfl := Option.some.inj (Tryd.rt.symm.trans e2)
  have hm : ty ∈ (List.range 187).filter fun t => Tryd.prog.rowNamed t [101, 114, 114, 111, 114] := List.mem_filter.2 ⟨List.mem_range.2 (by rw [← Tryd.size]; exact e3), e4⟩
  rw [Tryd.oneRow] at hm
  obtain rfl := List.mem_singleton.1 hm
  have hh : typeHandle Tryd.prog 70 = .pointer (some ⟨1, 70, none⟩) := by kernel_rfl
  rw [hh] at e5
  simpa using World.var?_cell Tryd.et e5 0

/-- A world that meets the condition. -/
def laidOf (w0 : World) : World :=
  { w0 with heap := w0.heap.modify 0 fun
      | .cells _ t frozen => .cells #[.iface 141 (.agg #[.pointer (some ⟨1, 70, none⟩)])] t frozen
      | o => o }
theorem laidWorld_met (os : Os) (args : Array Value) : laidMetH Tryd.prog laidL ((laidOf (World.holding Tryd.prog os ⟨#[], #[], []⟩)).forCall (fun _ _ => 0) ⟨#[], args, []⟩).memory :=
  laidMetH_of_parts (laidMet_nil _ _) (by kernel_rfl)
end Go.Proofs.Qxb6500837aDoor

