import Derived.Test.Qxb6500834aGreatDoorE33
set_option linter.unusedVariables false
set_option linter.unusedSimpArgs false
namespace Go.E1
open Go Go.RowKit
section
variable {P : Program} {ρ : Operand → Value} {w : World} {d : Option Tmp} {ty : TypeId} {pos : String} {af : Array Edge} {g : Option (Nat × Bool)} {x y : Operand}
theorem mkA_part {m a s : Nat} {F G : Nat → Value} (h : a * s + s ≤ m) (hG : ∀ j, j < s → F (a * s + j) = G j) : (mkA m F).extract (a * s) (a * s + s) = mkA s G := by
  apply Array.ext
  · simp [mkA]; omega
  · intro i h1 h2
    have h3 : i < s := by simpa [mkA] using h2
    have := hG i h3
    simp [mkA, this]
theorem r_indexW {T a el s n m : Nat} {kk : IntKind} {F G : Nat → Value} (hT : arT P T = some (n, el, s)) (h1 : aggT P el = some s) (hx : ρ x = .agg (mkA m F)) (hy : ρ y = .int kk (a : Nat)) (ha : a < n) (hm : a * s + s ≤ m) (hG : ∀ j, j < s → F (a * s + j) = G j) :
    (execOp ρ ⟨d, .index T x y, ty, pos, af, g⟩).run P w = .ok (.value (.agg (mkA s G))) w := by
  obtain ⟨hu, i, hi2, hi3⟩ := arT_spec hT
  obtain ⟨h2, i2, h3, h4⟩ := aggT_spec h1 w
  have e1 : ((a : Nat) : Int) < (n : Int) := by omega
  have e2 := mkA_part hm hG
  simp [execOp, Instr.index, hx, hy, asIntOf, run_underlying hu, run_sizeOf hi2, hi3, part, h2, e1, e2, go_sem]
  exact fun h => absurd h (by omega)
end
end Go.E1
