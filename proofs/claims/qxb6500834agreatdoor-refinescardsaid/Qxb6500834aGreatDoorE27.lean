/-
  E27: 'copy' out of a nil slice. No project text.
-/
import Derived.Test.Qxb6500834aGreatDoorE26
set_option linter.unusedSimpArgs false
set_option linter.unusedVariables false
namespace Go.E1
open Go.RowKit
section
variable {P : Program} {ops : Array Oper} {Q : Exit → Act → World → Prop} {n : Nat} {ds : List Deferred} {rest : List Oper} {e : Env} {w w0 : World} {M : Nat → Prop} {l : List HI}
variable {d : Nat} {ty : TypeId} {pos : String} {af : Array Edge} {g : Option (Nat × Bool)} {x y z : Operand}
theorem WL.copyN {dT sT el b o m1 c1 : Nat} (hT : slT P dT = some (el, 1)) (hx : ev e x = .slice (some ⟨b, o, none⟩) m1 c1) (hy : ev e y = .slice none 0 0) (hc : (okX e x && okX e y) = true) (hn : Nat.blt d n = true) (hg : wantE ops e g = true)
    (k : WL P ops Q n ds rest ((d, .int .i64 0) :: e) w) : WL P ops Q n ds (⟨some d, .call ⟨.builtin .copy, #[x, y], #[dT, sT]⟩, ty, pos, af, g⟩ :: rest) e w := by
  obtain ⟨hu, i, hi, hi1⟩ := slT_spec hT
  refine WL.v (v := .int .i64 0) (w' := w) ?_ (by simpa [cov, noSel, Op.operands, Call.operands] using hc) hn hg k
  simp only [execOp, resolve, invoke, builtin]
  simp [hx, hy, Builtin.copy_, run_underlying hu, Builtin.lenOf, Builtin.firstCells, run_sizeOf hi, storeCells, goInt]
end
end Go.E1
