import Derived.Test.Qxb6500834aGreatDoorE35
set_option linter.unusedVariables false
set_option linter.unusedSimpArgs false
namespace Go.E1
open Go Go.RowKit
section
variable {P : Program} {ρ : Operand → Value} {w : World} {d : Option Tmp} {ty : TypeId} {pos : String} {af : Array Edge} {g : Option (Nat × Bool)} {x y : Operand}
theorem r_compl16 {T : TypeId} {a : Nat} (hx : ρ x = .int .u16 (a : Nat)) (ha : a < 65536) : (execOp ρ ⟨d, .unOp .xor T x, ty, pos, af, g⟩).run P w = .ok (.value (.int .u16 ((65535 - a : Nat) : Int))) w := by
  have key : bits .xor IntKind.u16 65535 (a : Nat) = ((65535 - a : Nat) : Int) := by
    show IntKind.u16.wrap ((BitVec.ofInt 16 65535 ^^^ BitVec.ofInt 16 (a : Nat)).toNat : Int) = _
    have e1 : BitVec.ofInt 16 65535 = BitVec.allOnes 16 := by decide
    have e2 : (BitVec.ofInt 16 (a : Nat)).toNat = a := by rw [BitVec.toNat_ofInt]; omega
    rw [e1, BitVec.allOnes_xor, BitVec.toNat_not, e2]
    exact (wu16 (by omega) (by omega)).trans (by omega)
  simp [execOp, hx, Op.unary, Op.intArith, go_sem]
  exact key
end
end Go.E1
