import Derived.Test.Qxb6500834aGreatDoorK1
set_option linter.unusedVariables false
set_option linter.unusedSimpArgs false
set_option maxRecDepth 20000
namespace Go.Proofs.Qxb6500834aGreatDoor
open Go.RowKit Go.E1 Go.Kern
variable {w0 : World} {L L' l I J K K' : List HI} {w : World} {M : KM} {s : KS}

/-! Sets of tasks. -/
theorem toN16 {x : Nat} (hx : x < 65536) : (BitVec.ofInt 16 (x : Int)).toNat = x := by rw [BitVec.toNat_ofInt]; omega
theorem and16 {x y : Nat} (hx : x < 65536) (hy : y < 65536) : IntKind.u16.wrap (BitVec.ofInt IntKind.u16.bits (x : Int) &&& BitVec.ofInt IntKind.u16.bits (y : Int)).toNat = ((x &&& y : Nat) : Int) := by
  show IntKind.u16.wrap ((BitVec.ofInt 16 (x : Int) &&& BitVec.ofInt 16 (y : Int)).toNat : Int) = _
  rw [BitVec.toNat_and, toN16 hx, toN16 hy]
  exact wu16 (by omega) (by have : x &&& y ≤ x := Nat.and_le_left; omega)
theorem or16 {x y : Nat} (hx : x < 65536) (hy : y < 65536) : IntKind.u16.wrap (BitVec.ofInt IntKind.u16.bits (x : Int) ||| BitVec.ofInt IntKind.u16.bits (y : Int)).toNat = ((x ||| y : Nat) : Int) := by
  show IntKind.u16.wrap ((BitVec.ofInt 16 (x : Int) ||| BitVec.ofInt 16 (y : Int)).toNat : Int) = _
  rw [BitVec.toNat_or, toN16 hx, toN16 hy]
  have : x ||| y < 2 ^ 16 := Nat.or_lt_two_pow hx hy
  exact wu16 (by omega) (by omega)
theorem orlt {x y : Nat} (hx : x < 65536) (hy : y < 65536) : x ||| y < 65536 := Nat.or_lt_two_pow (n := 16) hx hy
theorem andlt {x y : Nat} (hx : x < 65536) : x &&& y < 65536 := by have : x &&& y ≤ x := Nat.and_le_left; omega
theorem andNot16 {x y : Nat} (hx : x < 65536) (hy : y < 65536) : IntKind.u16.wrap (BitVec.ofInt IntKind.u16.bits (x : Int) &&& ~~~ BitVec.ofInt IntKind.u16.bits (y : Int)).toNat = ((x &&& (65535 - y) : Nat) : Int) := by
  show IntKind.u16.wrap ((BitVec.ofInt 16 (x : Int) &&& ~~~ BitVec.ofInt 16 (y : Int)).toNat : Int) = _
  rw [BitVec.toNat_and, BitVec.toNat_not, toN16 hx, toN16 hy, show 2 ^ 16 - 1 - y = 65535 - y by omega]
  exact wu16 (by omega) (by have : x &&& (65535 - y) ≤ x := Nat.and_le_left; omega)

def tasksP (m : Nat) : List Nat := (List.range 16).filter fun i => m.testBit i
theorem tasksP_lt {m t : Nat} (h : t ∈ tasksP m) : t < 16 := List.mem_range.1 (List.mem_filter.1 h).1
theorem tasksP_mem {m t : Nat} : t ∈ tasksP m ↔ t < 16 ∧ m.testBit t = true := by unfold tasksP; rw [List.mem_filter, List.mem_range]
theorem tasksP_len {m : Nat} : (tasksP m).length ≤ 16 := by have := List.length_filter_le (fun i => m.testBit i) (List.range 16); rw [List.length_range] at this; exact this
def debL : List Nat := [0, 1, 28, 2, 29, 14, 24, 3, 30, 22, 20, 15, 25, 17, 4, 8, 31, 27, 13, 23, 21, 19, 16, 7, 26, 12, 18, 6, 11, 5, 10, 9]
def gD (w0 : World) : Prop := ∀ i, i < 32 → w0.cell? ⟨0, i, none⟩ = some (.int .u8 (debL.getD i 0 : Nat))
def tz (m : Nat) : Nat := debL.getD (((m &&& (65536 - m)) * 125613361) % 4294967296 / 134217728) 0
def tzOK (m : Nat) : Bool := m == 0 || (Nat.blt (tz m) 16 && m % 2 ^ tz m == 0 && m / 2 ^ tz m % 2 == 1 && (m &&& (m - 1)) == m - 2 ^ tz m)
theorem tz_tab : ∀ a : Fin 256, ∀ b : Fin 256, tzOK (a.val * 256 + b.val) = true := by decide +kernel
theorem tz_ok {m : Nat} (h0 : m ≠ 0) (hm : m < 65536) : tz m < 16 ∧ m % 2 ^ tz m = 0 ∧ m / 2 ^ tz m % 2 = 1 ∧ (m &&& (m - 1)) = m - 2 ^ tz m := by
  have := tz_tab ⟨m / 256, by omega⟩ ⟨m % 256, by omega⟩
  rw [show m / 256 * 256 + m % 256 = m by omega] at this
  unfold tzOK at this
  simp only [Bool.or_eq_true, Bool.and_eq_true, beq_iff_eq, h0, false_or] at this
  obtain ⟨⟨⟨a, b⟩, c⟩, d⟩ := this
  exact ⟨by rw [Nat.blt_eq] at a; exact a, b, c, d⟩
end Go.Proofs.Qxb6500834aGreatDoor

