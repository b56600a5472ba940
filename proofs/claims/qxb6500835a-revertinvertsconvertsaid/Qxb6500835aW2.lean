import Derived.Test.Qxb6500835aW1
set_option linter.unusedVariables false
set_option linter.unusedSimpArgs false
namespace Go.Proofs.Qxb6500835a
open Go.RowKit Go.E1 Go.Conv

/-- Groups in memory, by their addresses. -/
def GAt (w : World) (g o n : Nat) (I : Nat → Int) (db dO dl dc : Nat → Nat) (X : Nat → Nat → Int) : Prop :=
  ∀ i, i < n → w.cell? ⟨g, o + i * 2, none⟩ = some (.int .u8 (I i)) ∧ w.cell? ⟨g, o + i * 2 + 1, none⟩ = some (.slice (some ⟨db i, dO i, none⟩) (dl i) (dc i)) ∧
    ∀ j, j < dl i → w.cell? ⟨db i, dO i + j * 1, none⟩ = some (.int .u32 (X i j))

end Go.Proofs.Qxb6500835a

