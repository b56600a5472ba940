/-
  E2: what single operations yield, as equations on their runs; the memory's word 'St'. No project text.
-/
import Derived.Test.Qxb6500834aGreatDoorE1
set_option linter.unusedSimpArgs false
set_option linter.unusedVariables false
namespace Go.E1
open Go.RowKit

/-! ### Numbers -/

theorem wi64 {x : Int} (h1 : -9223372036854775808 ≤ x) (h2 : x ≤ 9223372036854775807) : IntKind.i64.wrap x = x := by
  unfold IntKind.wrap; simp only [IntKind.bits, IntKind.signed, Bool.true_and]; split <;> rename_i h <;> simp at h <;> omega
theorem wi32 {x : Int} (h1 : -2147483648 ≤ x) (h2 : x ≤ 2147483647) : IntKind.i32.wrap x = x := by
  unfold IntKind.wrap; simp only [IntKind.bits, IntKind.signed, Bool.true_and]; split <;> rename_i h <;> simp at h <;> omega
theorem wu64 {x : Int} (h1 : 0 ≤ x) (h2 : x ≤ 18446744073709551615) : IntKind.u64.wrap x = x := by
  simp only [IntKind.wrap, IntKind.bits, IntKind.signed, Bool.false_and, Bool.false_eq_true, if_false]; omega
theorem wu32 {x : Int} (h1 : 0 ≤ x) (h2 : x ≤ 4294967295) : IntKind.u32.wrap x = x := by
  simp only [IntKind.wrap, IntKind.bits, IntKind.signed, Bool.false_and, Bool.false_eq_true, if_false]; omega
theorem wu16 {x : Int} (h1 : 0 ≤ x) (h2 : x ≤ 65535) : IntKind.u16.wrap x = x := by
  simp only [IntKind.wrap, IntKind.bits, IntKind.signed, Bool.false_and, Bool.false_eq_true, if_false]; omega
theorem wu8 {x : Int} (h1 : 0 ≤ x) (h2 : x ≤ 255) : IntKind.u8.wrap x = x := by
  simp only [IntKind.wrap, IntKind.bits, IntKind.signed, Bool.false_and, Bool.false_eq_true, if_false]; omega

/-! ### Equations on runs -/

section
variable {P : Program} {ρ : Operand → Value} {w : World} {d : Option Tmp} {ty : TypeId} {pos : String} {af : Array Edge} {g : Option (Nat × Bool)}
variable {x y z : Operand} {k : IntKind} {a b r : Int} {t : Bool}

theorem r_move {v : Value} (hx : ρ x = v) : (execOp ρ ⟨d, .move x, ty, pos, af, g⟩).run P w = .ok (.value v) w := by subst hx; rfl
theorem r_assign {v : Value} (hx : ρ x = v) : (execOp ρ ⟨d, .assign x, ty, pos, af, g⟩).run P w = .ok (.value v) w := by subst hx; rfl
theorem r_pickT {v : Value} (hx : ρ x = .bool true) (hv : ρ y = v) : (execOp ρ ⟨d, .pick x y z, ty, pos, af, g⟩).run P w = .ok (.value v) w := by
  subst hv; simp [execOp, hx, asBool, go_sem]
theorem r_pickF {v : Value} (hx : ρ x = .bool false) (hv : ρ z = v) : (execOp ρ ⟨d, .pick x y z, ty, pos, af, g⟩).run P w = .ok (.value v) w := by
  subst hv; simp [execOp, hx, asBool, go_sem]
theorem r_extract {vs : Array Value} {i : Nat} {v : Value} (hx : ρ x = .tuple vs) (hi : vs[i]? = some v) : (execOp ρ ⟨d, .extract x i, ty, pos, af, g⟩).run P w = .ok (.value v) w := by
  simp [execOp, hx, Instr.extract, hi, go_sem]

/- arithmetic -/
theorem r_add {T T' : TypeId} (hx : ρ x = .int k a) (hy : ρ y = .int k b) (hw : k.wrap (a + b) = r) : (execOp ρ ⟨d, .binOp .add T x y T', ty, pos, af, g⟩).run P w = .ok (.value (.int k r)) w := by
  subst hw; simp [execOp, hx, hy, eqGuard, binOp, Op.intArith, go_sem]
theorem r_sub {T T' : TypeId} (hx : ρ x = .int k a) (hy : ρ y = .int k b) (hw : k.wrap (a - b) = r) : (execOp ρ ⟨d, .binOp .sub T x y T', ty, pos, af, g⟩).run P w = .ok (.value (.int k r)) w := by
  subst hw; simp [execOp, hx, hy, eqGuard, binOp, Op.intArith, go_sem]
theorem r_mul {T T' : TypeId} (hx : ρ x = .int k a) (hy : ρ y = .int k b) (hw : k.wrap (a * b) = r) : (execOp ρ ⟨d, .binOp .mul T x y T', ty, pos, af, g⟩).run P w = .ok (.value (.int k r)) w := by
  subst hw; simp [execOp, hx, hy, eqGuard, binOp, Op.intArith, go_sem]
theorem r_quo {T T' : TypeId} (hx : ρ x = .int k a) (hy : ρ y = .int k b) (h0 : b ≠ 0) (hw : k.wrap (a.tdiv b) = r) : (execOp ρ ⟨d, .binOp .quo T x y T', ty, pos, af, g⟩).run P w = .ok (.value (.int k r)) w := by
  subst hw; simp [execOp, hx, hy, eqGuard, binOp, Op.intDiv, h0, go_sem]
theorem r_rem {T T' : TypeId} (hx : ρ x = .int k a) (hy : ρ y = .int k b) (h0 : b ≠ 0) (hw : a.tmod b = r) : (execOp ρ ⟨d, .binOp .rem T x y T', ty, pos, af, g⟩).run P w = .ok (.value (.int k r)) w := by
  subst hw; simp [execOp, hx, hy, eqGuard, binOp, Op.intDiv, h0, go_sem]
theorem r_shl {T T' : TypeId} {k' : IntKind} (hx : ρ x = .int k a) (hy : ρ y = .int k' b) (h0 : 0 ≤ b) (hw : k.wrap (a * 2 ^ (min b.toNat k.bits)) = r) : (execOp ρ ⟨d, .binOp .shl T x y T', ty, pos, af, g⟩).run P w = .ok (.value (.int k r)) w := by
  subst hw; simp [execOp, hx, hy, eqGuard, binOp, Op.shift, Int.not_lt.2 h0, go_sem]
theorem r_shr {T T' : TypeId} {k' : IntKind} (hx : ρ x = .int k a) (hy : ρ y = .int k' b) (h0 : 0 ≤ b) (hw : a.fdiv (2 ^ (min b.toNat k.bits)) = r) : (execOp ρ ⟨d, .binOp .shr T x y T', ty, pos, af, g⟩).run P w = .ok (.value (.int k r)) w := by
  subst hw; simp [execOp, hx, hy, eqGuard, binOp, Op.shift, Int.not_lt.2 h0, go_sem]
theorem r_and {T T' : TypeId} (hx : ρ x = .int k a) (hy : ρ y = .int k b) (hw : k.wrap (BitVec.ofInt k.bits a &&& BitVec.ofInt k.bits b).toNat = r) : (execOp ρ ⟨d, .binOp .and T x y T', ty, pos, af, g⟩).run P w = .ok (.value (.int k r)) w := by
  subst hw; simp [execOp, hx, hy, eqGuard, binOp, Op.intBits, go_sem]
theorem r_or {T T' : TypeId} (hx : ρ x = .int k a) (hy : ρ y = .int k b) (hw : k.wrap (BitVec.ofInt k.bits a ||| BitVec.ofInt k.bits b).toNat = r) : (execOp ρ ⟨d, .binOp .or T x y T', ty, pos, af, g⟩).run P w = .ok (.value (.int k r)) w := by
  subst hw; simp [execOp, hx, hy, eqGuard, binOp, Op.intBits, go_sem]
theorem r_xor {T T' : TypeId} (hx : ρ x = .int k a) (hy : ρ y = .int k b) (hw : k.wrap (BitVec.ofInt k.bits a ^^^ BitVec.ofInt k.bits b).toNat = r) : (execOp ρ ⟨d, .binOp .xor T x y T', ty, pos, af, g⟩).run P w = .ok (.value (.int k r)) w := by
  subst hw; simp [execOp, hx, hy, eqGuard, binOp, Op.intBits, go_sem]
theorem r_andNot {T T' : TypeId} (hx : ρ x = .int k a) (hy : ρ y = .int k b) (hw : k.wrap (BitVec.ofInt k.bits a &&& ~~~ BitVec.ofInt k.bits b).toNat = r) : (execOp ρ ⟨d, .binOp .andNot T x y T', ty, pos, af, g⟩).run P w = .ok (.value (.int k r)) w := by
  subst hw; simp [execOp, hx, hy, eqGuard, binOp, Op.intBits, go_sem]
theorem r_neg {T : TypeId} (hx : ρ x = .int k a) (hw : k.wrap (0 - a) = r) : (execOp ρ ⟨d, .unOp .neg T x, ty, pos, af, g⟩).run P w = .ok (.value (.int k r)) w := by
  subst hw; simp [execOp, hx, Op.unary, Op.intArith, go_sem]
theorem r_not {T : TypeId} (hx : ρ x = .bool t) : (execOp ρ ⟨d, .unOp .not T x, ty, pos, af, g⟩).run P w = .ok (.value (.bool !t)) w := by
  simp [execOp, hx, Op.unary, go_sem]
theorem r_notT {T : TypeId} (hx : ρ x = .bool true) : (execOp ρ ⟨d, .unOp .not T x, ty, pos, af, g⟩).run P w = .ok (.value (.bool false)) w := r_not hx
theorem r_notF {T : TypeId} (hx : ρ x = .bool false) : (execOp ρ ⟨d, .unOp .not T x, ty, pos, af, g⟩).run P w = .ok (.value (.bool true)) w := r_not hx

/- comparisons of integers -/
theorem r_lss {T T' : TypeId} (hx : ρ x = .int k a) (hy : ρ y = .int k b) (ht : decide (a < b) = t) : (execOp ρ ⟨d, .binOp .lss T x y T', ty, pos, af, g⟩).run P w = .ok (.value (.bool t)) w := by
  subst ht; simp [execOp, hx, hy, eqGuard, binOp, Op.intCmp, go_sem]
theorem r_leq {T T' : TypeId} (hx : ρ x = .int k a) (hy : ρ y = .int k b) (ht : decide (a ≤ b) = t) : (execOp ρ ⟨d, .binOp .leq T x y T', ty, pos, af, g⟩).run P w = .ok (.value (.bool t)) w := by
  subst ht; simp [execOp, hx, hy, eqGuard, binOp, Op.intCmp, go_sem]
theorem r_gtr {T T' : TypeId} (hx : ρ x = .int k a) (hy : ρ y = .int k b) (ht : decide (b < a) = t) : (execOp ρ ⟨d, .binOp .gtr T x y T', ty, pos, af, g⟩).run P w = .ok (.value (.bool t)) w := by
  subst ht; simp [execOp, hx, hy, eqGuard, binOp, Op.intCmp, go_sem]
theorem r_geq {T T' : TypeId} (hx : ρ x = .int k a) (hy : ρ y = .int k b) (ht : decide (b ≤ a) = t) : (execOp ρ ⟨d, .binOp .geq T x y T', ty, pos, af, g⟩).run P w = .ok (.value (.bool t)) w := by
  subst ht; simp [execOp, hx, hy, eqGuard, binOp, Op.intCmp, go_sem]
theorem r_eql {T T' : TypeId} (hx : ρ x = .int k a) (hy : ρ y = .int k b) (ht : decide (a = b) = t) : (execOp ρ ⟨d, .binOp .eql T x y T', ty, pos, af, g⟩).run P w = .ok (.value (.bool t)) w := by
  subst ht; simp [execOp, hx, hy, eqGuard, binOp, Op.intCmp, go_sem]; rfl
theorem r_neq {T T' : TypeId} (hx : ρ x = .int k a) (hy : ρ y = .int k b) (ht : decide (a ≠ b) = t) : (execOp ρ ⟨d, .binOp .neq T x y T', ty, pos, af, g⟩).run P w = .ok (.value (.bool t)) w := by
  subst ht; simp [execOp, hx, hy, eqGuard, binOp, Op.intCmp, go_sem]; rfl

/- lengths -/
theorem r_len {T e : TypeId} {ao : Option Addr} {m c : Nat} (hT : P.underlying T = some (.slice e)) (hx : ρ x = .slice ao m c) :
    (execOp ρ ⟨d, .call ⟨.builtin .len, #[x], #[T]⟩, ty, pos, af, g⟩).run P w = .ok (.value (.int .i64 m)) w := by
  simp [execOp, resolve, invoke, builtin, Builtin.len_, hx, run_underlying hT, goInt, go_sem]

/- nil checks -/
theorem r_nilCheck {ad : Addr} (hx : ρ x = .pointer (some ad)) : (execOp ρ ⟨d, .nilCheck x, ty, pos, af, g⟩).run P w = .ok (.value (.pointer (some ad))) w := by
  simp [execOp, hx, go_sem]

/- addresses -/
def fldOff (P : Program) (s i : Nat) : Option Nat :=
  match P.underlying s with
  | some (.struct fs) =>
    match fs[i]? with
    | some f =>
      match P.info? f.type with
      | some inf => bif Nat.beq inf.size 0 then none else some f.offset
      | none => none
    | none => none
  | _ => none

theorem Addr.add_none (bl off m : Nat) : Addr.add ⟨bl, off, none⟩ m = ⟨bl, off + m, none⟩ := by
  unfold Addr.add; split <;> simp_all

theorem r_field {s : TypeId} {i o2 : Nat} {bl off : Nat} (hf : fldOff P s i = some o2) (hx : ρ x = .pointer (some ⟨bl, off, none⟩)) :
    (execOp ρ ⟨d, .fieldAddr s x i, ty, pos, af, g⟩).run P w = .ok (.value (.pointer (some ⟨bl, off + o2, none⟩))) w := by
  unfold fldOff at hf
  split at hf
  · rename_i fs hs
    split at hf
    · rename_i f hfi
      split at hf
      · rename_i inf hinf
        have hz : ¬ inf.size = 0 := by
          intro hz; rw [hz] at hf; simp at hf
        have hb : Nat.beq inf.size 0 = false := by
          cases hq : Nat.beq inf.size 0
          · rfl
          · exact absurd (Nat.eq_of_beq_eq_true hq) hz
        rw [hb] at hf
        simp only [cond_false, Option.some.injEq] at hf
        subst hf
        simp [execOp, Instr.fieldAt, run_underlying hs, hfi, hx, Instr.sureAddr, fieldPlace, sizeOf, typeInfo, hinf, hz, Addr.add_none, go_sem]
      · cases hf
    · cases hf
  · cases hf
end

end Go.E1
