import Derived.Test.Qxb6500834aGreatDoorK35
import Derived.Test.Qxb6500834aGreatDoorTie
import Derived.Test.Qxb6500834aGreatDoorCards
import Derived.ChangeSame
import Derived.ChangeVars
import Derived.JoinedOf
import Derived.RowKit
import Derived.RowKitTokens
import Derived.LaidLaws
import Derived.LaidHandle
import Derived.Stop.Joined
import Derived.ProofKit
import Derived.SizedLaws
import Derived.LaidMore
import Derived.SevenTiedAt
set_option linter.unusedVariables false
set_option linter.unusedSimpArgs false
set_option maxRecDepth 100000
namespace Go.Proofs.Qxb6500834aGreatDoor
open Go.RowKit Go.E1 Go.Kern
variable {w : World}

theorem ty_leaves : leaves Tryz.prog 6 28 = [(0, 25), (1, 2), (2, 2), (3, 2), (4, 26)] := by kernel_rfl
theorem lv {cs : List Value} (h : Rd Tryz.prog w 28 cs) (o T : Nat) (hm : (([(0, 25), (1, 2), (2, 2), (3, 2), (4, 26)] : List (Nat × Nat)).contains (o, T)) = true) : Rd Tryz.prog w T [nth cs o] :=
  leaves_rd 6 28 cs h (o, T) (by rw [ty_leaves]; exact List.contains_iff_mem.1 hm)
theorem ru8 {x : Int} (h : IntKind.u8.min ≤ x ∧ x ≤ IntKind.u8.max) : 0 ≤ x ∧ x < 256 := by
  have m3 : IntKind.u8.min = 0 := rfl
  have m4 : IntKind.u8.max = 255 := rfl
  omega
theorem ru64 {x : Int} (h : IntKind.u64.min ≤ x ∧ x ≤ IntKind.u64.max) : 0 ≤ x ∧ x < 18446744073709551616 := by
  have m3 : IntKind.u64.min = 0 := rfl
  have m4 : IntKind.u64.max = 18446744073709551615 := rfl
  omega
theorem cons_eq {a b : Value} {l m : List Value} (h : a = b) (t : l = m) : a :: l = b :: m := by rw [h, t]
theorem op_one {cs : List Value} (h : Rd Tryz.prog w 28 cs) : ∃ y : Kern.Op, (∀ k, k < 5 → nth cs k = nth (opL y) k) ∧ y.kind < 256 ∧ y.X < 18446744073709551616 ∧ -9223372036854775808 ≤ y.B ∧ y.B ≤ 9223372036854775807 := by
  have c0 := rd_iv ty_uint25 (lv h 0 25 (by decide))
  have c1 := rd_iv ty_uint2 (lv h 1 2 (by decide))
  have c2 := rd_iv ty_uint2 (lv h 2 2 (by decide))
  have c3 := rd_iv ty_uint2 (lv h 3 2 (by decide))
  have c4 := rd_iv ty_uint26 (lv h 4 26 (by decide))
  have r0 := ru8 c0.2
  have r4 := ru64 c4.2
  have e0 : ((iv (nth cs 0)).toNat : Int) = iv (nth cs 0) := Int.toNat_of_nonneg r0.1
  have e4 : ((iv (nth cs 4)).toNat : Int) = iv (nth cs 4) := Int.toNat_of_nonneg r4.1
  refine ⟨⟨(iv (nth cs 0)).toNat, iv (nth cs 1), iv (nth cs 2), iv (nth cs 3), (iv (nth cs 4)).toNat⟩, fun k hk => ?_, by show (iv (nth cs 0)).toNat < 256; omega, by show (iv (nth cs 4)).toNat < _; omega, c2.2.1, c2.2.2⟩
  have e : (List.range 5).map (nth cs) = opL ⟨(iv (nth cs 0)).toNat, iv (nth cs 1), iv (nth cs 2), iv (nth cs 3), (iv (nth cs 4)).toNat⟩ := by
    unfold opL
    dsimp only
    rw [e0, e4]
    exact cons_eq c0.1 (cons_eq c1.1 (cons_eq c2.1 (cons_eq c3.1 (cons_eq c4.1 rfl))))
  refine Eq.trans ?_ (congrArg (fun l => nth l k) e)
  simp [nth, hk]
theorem scr_of {v : Value} (h : Rd Tryz.prog w 22 [v]) : ∃ a n c sb so op, v = .slice a n c ∧ n ≤ 140737488355328 ∧ (0 < n → a = some ⟨sb, so, none⟩) ∧ Scr w sb so n op := by
  obtain ⟨a, n, c, b, o, hv, h1, h2, h3, h4, h5⟩ := rd_slice ty_usl22 (by rw [ty_cells28]; omega) h
  simp only [List.cons.injEq, and_true] at hv
  rw [ty_bytes28] at h3
  have hr : reachBytes = 140737488351232 := rfl
  have hy : ∀ i, ∃ y : Kern.Op, i < n → (∀ k, k < 5 → w.cell? ⟨b, o + i * 5 + k, none⟩ = some (nth (opL y) k)) ∧ y.kind < 256 ∧ y.X < 18446744073709551616 ∧ -9223372036854775808 ≤ y.B ∧ y.B ≤ 9223372036854775807 := fun i => by
    by_cases hi : i < n
    · obtain ⟨ecs, e1, e2, e3⟩ := h5 i hi
      rw [ty_cells28] at e1 e2
      obtain ⟨y, hy, hp⟩ := op_one e3
      exact ⟨y, fun _ => ⟨fun k hk => by rw [e2 k hk, hy k hk], hp⟩⟩
    · exact ⟨⟨0, 0, 0, 0, 0⟩, fun h => absurd h hi⟩
  obtain ⟨y, hy⟩ := Classical.skolem.1 hy
  exact ⟨a, n, c, b, o, y, hv, by omega, h4, ⟨fun i hi => (hy i hi).1, fun i hi => (hy i hi).2.1, fun i hi => (hy i hi).2.2.1, fun i hi => (hy i hi).2.2.2⟩⟩

theorem Tryz.own : ownKnob Tryz.prog.godebug = none := by kernel_rfl
theorem Tryz.laidOut : laidOutB Tryz.prog = true := by kernel_rfl
theorem shutBool {H : Type} {enc : TypeId × Value → H} {P : Program} {w : World} {base : Nat} {spare : Nat → Bool} {held : Bool} {t : TypeId} (hu : P.underlying t = some .bool) (b : Bool) : DataW.Trod enc P w base spare held t (.bool b) (.lit (.bool b)) [] :=
  ⟨1, by simp [DataW.trod, hu, Value.cells]⟩
abbrev laidL {H : Type} : List (String × DataW H) := [("math/bits.deBruijn32tab", Rows.laid_math_bits_deBruijn32tab)]
theorem Tryz.dbj : Tryz.prog.globalNamed "math/bits.deBruijn32tab" = some 0 := by kernel_rfl
theorem Tryz.dbt : (Tryz.prog.globals[0]?).map (·.type) = some 137 := by kernel_rfl
theorem mapM_at {α β : Type} {f : α → Option β} : ∀ {L : List α} {ys : List β}, L.mapM f = some ys → ∀ (i : Nat) (x : α), L[i]? = some x → ∃ y, f x = some y ∧ ys[i]? = some y
  | [], ys, h, i, x, hx => by simp at hx
  | a :: L, ys, h, i, x, hx => by
    simp only [List.mapM_cons, Option.bind_eq_bind, Option.bind_eq_some_iff, Option.pure_def, Option.some.injEq] at h
    obtain ⟨y, h1, ys', h2, rfl⟩ := h
    cases i with
    | zero => simp at hx; subst hx; exact ⟨y, h1, rfl⟩
    | succ i => exact mapM_at h2 i x (by simpa using hx)
theorem int_of_trod {H : Type} {enc : TypeId × Value → H} {P : Program} {w : World} {base : Nat} {sp : Nat → Bool} {held : Bool} {fuel : Nat} {t : TypeId} {k : IntKind} {cs : List Value} {y : DataW H × List MemPlace}
    (ht : P.underlying t = some (.int k)) (h : DataW.trod enc P w base sp held fuel t cs = some y) : ∃ n, cs = [.int k n] ∧ y = (.lit (.int k n), []) := by
  cases fuel with
  | zero => simp [DataW.trod] at h
  | succ fuel =>
    unfold DataW.trod at h
    rw [ht] at h
    match cs, h with
    | [], h => simp at h
    | [c], h =>
      cases c <;> simp at h
      rename_i k' n
      obtain ⟨⟨rfl, _⟩, rfl⟩ := h
      exact ⟨n, rfl, rfl⟩
    | a :: b :: r, h => cases a <;> simp at h
/-- What the condition gives a walk: the table's cells. -/
theorem gD_of {W : World} (h : laidMetH Tryz.prog laidL W) : gD W := by
  rw [MakeChecks.laidMetH_plain _ _ _ (by kernel_rfl)] at h
  obtain ⟨ps, hv, _⟩ := h
  obtain ⟨g, t, cs, fuel, p, hg, ht, hvar, hd⟩ := laidVars_mem hv (List.mem_singleton.2 rfl)
  obtain rfl := Option.some.inj (Tryz.dbj.symm.trans hg)
  obtain rfl := Option.some.inj (Tryz.dbt.symm.trans ht)
  intro i hi
  rw [World.var?_cell hg hvar i]
  obtain ⟨l⟩ := cs
  cases fuel with
  | zero => simp [DataW.trod] at hd
  | succ fuel =>
    have hu : Tryz.prog.underlying 137 = some (.array 32 5) := by kernel_rfl
    have hc1 : Tryz.prog.cellsOf 5 = 1 := by kernel_rfl
    have hc32 : Tryz.prog.cellsOf 137 = 32 := by kernel_rfl
    simp only [DataW.trod, hu, hc1, hc32] at hd
    split at hd
    · rename_i hl
      obtain ⟨xs, hm, hx⟩ := Option.map_eq_some_iff.1 hd
      have hxs : xs.map (·.1) = (debL.map fun k => (DataW.lit (.int .u8 (k : Nat)) : DataW Unit)) := by
        have := congrArg Prod.fst hx
        simp only [Rows.laid_math_bits_deBruijn32tab, DataW.agg.injEq] at this
        exact this
      obtain ⟨y, hy1, hy2⟩ := mapM_at hm i i (by simp [hi])
      have hu8 : Tryz.prog.underlying 5 = some (.int .u8) := by kernel_rfl
      obtain ⟨n, hn1, hn2⟩ := int_of_trod hu8 hy1
      have h3 : (xs.map (·.1))[i]? = some (DataW.lit (.int .u8 n)) := by rw [List.getElem?_map, hy2, hn2]; rfl
      rw [hxs, List.getElem?_map] at h3
      have hdl : debL.length = 32 := rfl
      rw [List.getElem?_eq_getElem (by omega)] at h3
      have h4 : n = (debL[i]'(by omega) : Nat) := by
        have := Option.some.inj h3
        simp only [DataW.lit.injEq, Lit.int.injEq, true_and] at this
        exact this.symm
      have h5 : l[i]? = some (.int .u8 n) := by
        have := congrArg (fun q => q[0]?) hn1
        simpa [List.getElem?_take, List.getElem?_drop] using this
      show l.toArray[i]? = _
      rw [List.getElem?_toArray, h5, h4, List.getD_eq_getElem?_getD, List.getElem?_eq_getElem (by omega)]
      rfl
    · cases hd
/-- A world that meets the condition. -/
def laidOf (w0 : World) : World :=
  { w0 with heap := w0.heap.modify 0 fun
      | .cells _ t frozen => .cells (debL.map fun k => Value.int .u8 (k : Nat)).toArray t frozen
      | o => o }
theorem laidWorld_met (os : Os) (args : Array Value) : laidMetH Tryz.prog laidL ((laidOf (World.holding Tryz.prog os ⟨#[], #[], []⟩)).forCall (fun _ _ => 0) ⟨#[], args, []⟩).memory := by
  rw [MakeChecks.laidMetH_plain _ _ _ (by kernel_rfl)]
  exact laidMet_of_run' 8 (by kernel_rfl) (by kernel_rfl)
end Go.Proofs.Qxb6500834aGreatDoor

