/-
  E18: arrays of four bytes compared with zero. No project text.
-/
import Derived.Test.Qxb6500834aGreatDoorE17
import Derived.Stop.BytesEq
set_option linter.unusedSimpArgs false
namespace Go.E1
open Go.RowKit

section
variable {P : Program} {ρ : Operand → Value} {w : World} {d : Option Tmp} {ty : TypeId} {pos : String} {af : Array Edge} {g : Option (Nat × Bool)} {x y : Operand} {t : Bool}

theorem cell_of {a : Int} (h0 : 0 ≤ a) (h1 : a < 256) : Extern.Stop.cell (UInt8.ofNat a.toNat) = .int .u8 a := by
  unfold Extern.Stop.cell
  rw [UInt8.toNat_ofNat_of_lt' (by simp [UInt8.size]; omega)]
  congr 1
  exact Int.toNat_of_nonneg h0

theorem r_ar4_eql {T T' e : TypeId} {a0 a1 a2 a3 : Int} (hT : arT P T = some (4, e, 1)) (he : P.underlying e = some (.int .u8)) (hG : P.eqGuardType P.depth T = false) (h0 : 0 ≤ a0 ∧ a0 < 256) (h1 : 0 ≤ a1 ∧ a1 < 256) (h2 : 0 ≤ a2 ∧ a2 < 256) (h3 : 0 ≤ a3 ∧ a3 < 256)
    (hx : ρ x = .agg #[.int .u8 a0, .int .u8 a1, .int .u8 a2, .int .u8 a3]) (hy : ρ y = .agg #[.int .u8 0, .int .u8 0, .int .u8 0, .int .u8 0]) (ht : decide (a0 = 0 ∧ a1 = 0 ∧ a2 = 0 ∧ a3 = 0) = t) :
    (execOp ρ ⟨d, .binOp .eql T x y T', ty, pos, af, g⟩).run P w = .ok (.value (.bool t)) w := by
  obtain ⟨hu, i, hi, hi1⟩ := arT_spec hT
  have hsz : ∀ w, (sizeOf e).run P w = .ok 1 w := fun w => by rw [run_sizeOf hi, hi1]
  have hq := run_equalIn_bytes (P := P) w 9998 T e 4 hu he hsz [UInt8.ofNat a0.toNat, UInt8.ofNat a1.toNat, UInt8.ofNat a2.toNat, UInt8.ofNat a3.toNat] [0, 0, 0, 0] rfl rfl
  simp only [List.map_cons, List.map_nil, cell_of h0.1 h0.2, cell_of h1.1 h1.2, cell_of h2.1 h2.2, cell_of h3.1 h3.2] at hq
  have hz : Extern.Stop.cell 0 = .int .u8 0 := rfl
  simp only [hz] at hq
  have hb : ([UInt8.ofNat a0.toNat, UInt8.ofNat a1.toNat, UInt8.ofNat a2.toNat, UInt8.ofNat a3.toNat] == [0, 0, 0, 0]) = t := by
    rw [← ht, Bool.eq_iff_iff]
    have key : ∀ a : Int, 0 ≤ a ∧ a < 256 → (UInt8.ofNat a.toNat = 0 ↔ a = 0) := fun a ha => by
      rw [← UInt8.toNat_inj, UInt8.toNat_ofNat_of_lt' (by simp [UInt8.size]; omega)]
      simp; omega
    simp [key a0 h0, key a1 h1, key a2 h2, key a3 h3]
  rw [hb] at hq
  have hq' : (Op.equal T (.agg #[.int .u8 a0, .int .u8 a1, .int .u8 a2, .int .u8 a3]) (.agg #[.int .u8 0, .int .u8 0, .int .u8 0, .int .u8 0])).run P w = .ok t w := hq
  simp [execOp, hx, hy, eqGuard, binOp, hq', hG]
end
end Go.E1
