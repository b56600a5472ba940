import Derived.Test.Qxb6500834aGreatDoorE34
set_option linter.unusedVariables false
set_option linter.unusedSimpArgs false
namespace Go.E1
open Go Go.RowKit
section
variable {P : Program} {ρ : Operand → Value} {w : World} {d : Option Tmp} {ty : TypeId} {pos : String} {af : Array Edge} {g : Option (Nat × Bool)} {x y : Operand}
/-- A struct's field that is itself a struct or an array: its place and its cells. -/
def fldA (P : Program) (s i : Nat) : Option (Nat × Nat) :=
  match P.underlying s with
  | some (.struct fs) =>
    match fs[i]? with
    | some f => (aggT P f.type).map fun n => (f.offset, n)
    | none => none
  | _ => none
theorem mkA_sub {m a s : Nat} {F G : Nat → Value} (h : a + s ≤ m) (hG : ∀ j, j < s → F (a + j) = G j) : (mkA m F).extract a (a + s) = mkA s G := by
  apply Array.ext
  · simp [mkA]; omega
  · intro i h1 h2
    have h3 : i < s := by simpa [mkA] using h2
    have := hG i h3
    simp [mkA, this]
theorem r_fieldW {s : TypeId} {i o2 m N : Nat} {F G : Nat → Value} (hf : fldA P s i = some (o2, m)) (hx : ρ x = .agg (mkA N F)) (hle : o2 + m ≤ N) (hG : ∀ j, j < m → F (o2 + j) = G j) :
    (execOp ρ ⟨d, .field s x i, ty, pos, af, g⟩).run P w = .ok (.value (.agg (mkA m G))) w := by
  unfold fldA at hf
  split at hf
  · rename_i fs hs
    split at hf
    · rename_i f hfi
      cases h1 : aggT P f.type with
      | none => rw [h1] at hf; cases hf
      | some k =>
        rw [h1] at hf
        simp only [Option.map_some, Option.some.injEq, Prod.mk.injEq] at hf
        obtain ⟨rfl, rfl⟩ := hf
        obtain ⟨h2, i2, h3, h4⟩ := aggT_spec h1 w
        have e2 := mkA_sub hle hG
        simp [execOp, Instr.field, hx, run_underlying hs, hfi, asAgg, part, h2, run_sizeOf h3, h4, e2, go_sem]
    · cases hf
  · cases hf
end
end Go.E1
