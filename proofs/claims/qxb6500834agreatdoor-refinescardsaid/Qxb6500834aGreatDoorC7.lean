/-
  C7: plain laws on bits and bytes, and on sums in ones' complement. No Go in sight.
-/
import Derived.Test.Qxb6500834aGreatDoorE17
namespace Go.Wire

theorem ofInt_nat (N : Nat) {a : Int} (h0 : 0 ≤ a) (h1 : a < 2 ^ N) : (BitVec.ofInt N a).toNat = a.toNat := by
  rw [BitVec.toNat_ofInt, Int.emod_eq_of_lt h0 (by exact_mod_cast h1)]

/-- Bits side by side. -/
theorem or_u (N i : Nat) {a b : Int} (ha : 0 ≤ a) (ha2 : a < 2 ^ i) (hb : 0 ≤ b) (hN : b * 2 ^ i < 2 ^ N) (haN : a < 2 ^ N) : ((BitVec.ofInt N a ||| BitVec.ofInt N (b * 2 ^ i)).toNat : Int) = a + b * 2 ^ i := by
  have hp : (0 : Int) < 2 ^ i := Int.pow_pos (by omega)
  rw [BitVec.toNat_or, ofInt_nat N ha haN, ofInt_nat N (Int.mul_nonneg hb (Int.le_of_lt hp)) hN]
  obtain ⟨x, rfl⟩ := Int.eq_ofNat_of_zero_le ha
  obtain ⟨y, rfl⟩ := Int.eq_ofNat_of_zero_le hb
  have e1 : ((y : Int) * 2 ^ i).toNat = y * 2 ^ i := by
    have : ((y : Int) * 2 ^ i) = ((y * 2 ^ i : Nat) : Int) := by push_cast; rfl
    rw [this]; rfl
  rw [e1]
  have hx : x < 2 ^ i := by exact_mod_cast ha2
  have := Nat.shiftLeft_add_eq_or_of_lt hx y
  rw [Nat.shiftLeft_eq] at this
  rw [Nat.or_comm]
  show ((y * 2 ^ i ||| x : Nat) : Int) = _
  rw [← this]; push_cast; omega

theorem or_u' (N i : Nat) {a b : Int} (ha : 0 ≤ a) (ha2 : a < 2 ^ i) (hb : 0 ≤ b) (hN : b * 2 ^ i < 2 ^ N) (haN : a < 2 ^ N) : ((BitVec.ofInt N (b * 2 ^ i) ||| BitVec.ofInt N a).toNat : Int) = a + b * 2 ^ i := by
  rw [BitVec.or_comm]; exact or_u N i ha ha2 hb hN haN

theorem and_u (N i : Nat) {a : Int} (ha : 0 ≤ a) (haN : a < 2 ^ N) (hi : i ≤ N) : ((BitVec.ofInt N a &&& BitVec.ofInt N (2 ^ i - 1)).toNat : Int) = a % 2 ^ i := by
  have hp : (0 : Int) < 2 ^ i := Int.pow_pos (by omega)
  have hle : (2 : Int) ^ i ≤ 2 ^ N := by
    have := Nat.pow_le_pow_right (n := 2) (by omega) hi
    exact_mod_cast this
  rw [BitVec.toNat_and, ofInt_nat N ha haN, ofInt_nat N (by omega) (by omega)]
  obtain ⟨x, rfl⟩ := Int.eq_ofNat_of_zero_le ha
  have e1 : ((2 : Int) ^ i - 1).toNat = 2 ^ i - 1 := by
    have h2 : (1 : Nat) ≤ 2 ^ i := Nat.one_le_two_pow
    have : ((2 : Int) ^ i - 1) = ((2 ^ i - 1 : Nat) : Int) := by push_cast [h2]; rfl
    rw [this]; rfl
  rw [e1]
  show ((x &&& (2 ^ i - 1) : Nat) : Int) = _
  rw [Nat.and_two_pow_sub_one_eq_mod]
  push_cast; rfl

theorem shr_u {a : Int} (i : Nat) : a.fdiv (2 ^ i) = a / 2 ^ i := by
  rw [Int.fdiv_eq_ediv_of_nonneg]
  exact Int.le_of_lt (Int.pow_pos (by omega))

theorem wrap8 (x : Int) : IntKind.u8.wrap x = x % 256 := rfl
theorem wrap16 (x : Int) : IntKind.u16.wrap x = x % 65536 := rfl
theorem wrap32 (x : Int) : IntKind.u32.wrap x = x % 4294967296 := rfl

def be16 (v : Int) : List Int := [v / 256, v % 256]
def be32 (v : Int) : List Int := [v / 16777216, v / 65536 % 256, v / 256 % 256, v % 256]

theorem be16_byt {v : Int} (h : 0 ≤ v ∧ v < 65536) : ∀ x, x ∈ be16 v → 0 ≤ x ∧ x < 256 := fun x hx => by
  simp only [be16, List.mem_cons, List.not_mem_nil, or_false] at hx
  rcases hx with rfl | rfl <;> omega
theorem be32_byt {v : Int} (h : 0 ≤ v ∧ v < 4294967296) : ∀ x, x ∈ be32 v → 0 ≤ x ∧ x < 256 := fun x hx => by
  simp only [be32, List.mem_cons, List.not_mem_nil, or_false] at hx
  rcases hx with rfl | rfl | rfl | rfl <;> omega

/-! ### Sums in ones' complement -/

def foldV (x : Int) : Int := if x = 0 then 0 else (x - 1) % 65535 + 1

theorem foldV_rng (x : Int) : 0 ≤ foldV x ∧ foldV x < 65536 := by
  unfold foldV; split <;> omega

theorem foldV_small {x : Int} (h0 : 0 ≤ x) (h1 : x < 65536) : foldV x = x := by
  unfold foldV; split <;> omega

theorem foldV_congr {x y : Int} (h : (x - y) % 65535 = 0) (hz : x = 0 ↔ y = 0) : foldV x = foldV y := by
  unfold foldV
  by_cases h0 : x = 0
  · rw [if_pos h0, if_pos (hz.1 h0)]
  · rw [if_neg h0, if_neg (fun h => h0 (hz.2 h))]; omega

theorem foldV_step {x : Int} (h0 : 0 ≤ x) : foldV (x / 65536 + x % 65536) = foldV x := foldV_congr (by omega) (by omega)

/-- The sum of 16-bit words; an odd last byte is a word's upper half. -/
def wsum : List Int → Int
  | [] => 0
  | [a] => a * 256
  | a :: b :: t => a * 256 + b + wsum t

theorem wsum_append : ∀ {l1 : List Int} (l2 : List Int), l1.length % 2 = 0 → wsum (l1 ++ l2) = wsum l1 + wsum l2
  | [], l2, _ => by simp [wsum]
  | [a], l2, h => by simp at h
  | a :: b :: t, l2, h => by
    simp only [List.cons_append, wsum]
    rw [wsum_append (l1 := t) l2 (by simp at h; omega)]
    omega

theorem wsum_nonneg : ∀ {l : List Int}, (∀ x, x ∈ l → 0 ≤ x ∧ x < 256) → 0 ≤ wsum l
  | [], _ => by simp [wsum]
  | [a], h => by have := h a (by simp); simp only [wsum]; omega
  | a :: b :: t, h => by
    have h1 := h a (by simp)
    have h2 := h b (by simp)
    have h3 := wsum_nonneg (l := t) (fun x hx => h x (by simp [hx]))
    simp only [wsum]; omega

theorem take_two {l : List Int} {k : Nat} (h : k + 2 ≤ l.length) : l.take (k + 2) = l.take k ++ [l.getD k 0, l.getD (k + 1) 0] := by
  rw [List.take_add, List.drop_eq_getElem_cons (show k < l.length by omega), List.take_succ_cons, List.drop_eq_getElem_cons (show k + 1 < l.length by omega), List.take_succ_cons, List.take_zero]
  simp [List.getD_eq_getElem?_getD, show k < l.length by omega, show k + 1 < l.length by omega]

theorem wsum_take {l : List Int} {k : Nat} (h : k + 2 ≤ l.length) (hk : k % 2 = 0) : wsum (l.take (k + 2)) = wsum (l.take k) + (l.getD k 0 * 256 + l.getD (k + 1) 0) := by
  rw [take_two h, wsum_append _ (by simp; omega)]
  simp [wsum]

theorem getD_drop (l : List Int) (k i : Nat) : (l.drop k).getD i 0 = l.getD (k + i) 0 := by
  rw [List.getD_eq_getElem?_getD, List.getD_eq_getElem?_getD, List.getElem?_drop]

/-- What has been summed so far. -/
structure Acc (start : Int) (bs : List Int) (k : Nat) (acc : Int) : Prop where
  lo : 0 ≤ acc
  hi : acc ≤ 65535 + (k : Int) * 4294967296
  eq : (acc - (start + wsum (bs.take k))) % 65535 = 0
  z : acc = 0 ↔ start + wsum (bs.take k) = 0

theorem Acc.two {start : Int} {bs : List Int} {k : Nat} {acc : Int} (h : Acc start bs k acc) (hk : k % 2 = 0) (hl : k + 2 ≤ bs.length) (hb : ∀ x, x ∈ bs → 0 ≤ x ∧ x < 256) (h0 : 0 ≤ start) : Acc start bs (k + 2) (acc + (bs.getD k 0 * 256 + bs.getD (k + 1) 0)) := by
  have b1 := hb _ (Go.E1.getD_mem (l := bs) (i := k) (by omega))
  have b2 := hb _ (Go.E1.getD_mem (l := bs) (i := k + 1) (by omega))
  have hw := wsum_take hl hk
  have hn := wsum_nonneg (l := bs.take k) (fun x hx => hb x (List.mem_of_mem_take hx))
  obtain ⟨a1, a2, a3, a4⟩ := h
  refine ⟨by omega, by push_cast; omega, by rw [hw]; omega, by rw [hw]; omega⟩

theorem Acc.four {start : Int} {bs : List Int} {k : Nat} {acc : Int} (h : Acc start bs k acc) (hk : k % 2 = 0) (hl : k + 4 ≤ bs.length) (hb : ∀ x, x ∈ bs → 0 ≤ x ∧ x < 256) (h0 : 0 ≤ start) :
    Acc start bs (k + 4) (acc + (bs.getD k 0 * 16777216 + bs.getD (k + 1) 0 * 65536 + bs.getD (k + 2) 0 * 256 + bs.getD (k + 3) 0)) := by
  have b1 := hb _ (Go.E1.getD_mem (l := bs) (i := k) (by omega))
  have b2 := hb _ (Go.E1.getD_mem (l := bs) (i := k + 1) (by omega))
  have b3 := hb _ (Go.E1.getD_mem (l := bs) (i := k + 2) (by omega))
  have b4 := hb _ (Go.E1.getD_mem (l := bs) (i := k + 3) (by omega))
  have hw := wsum_take (l := bs) (k := k) (by omega) hk
  have hw2 := wsum_take (l := bs) (k := k + 2) (by omega) (by omega)
  rw [hw, show k + 2 + 2 = k + 4 by omega, show k + 2 + 1 = k + 3 by omega] at hw2
  have hn := wsum_nonneg (l := bs.take k) (fun x hx => hb x (List.mem_of_mem_take hx))
  obtain ⟨a1, a2, a3, a4⟩ := h
  refine ⟨by omega, by push_cast; omega, by rw [hw2]; omega, by rw [hw2]; omega⟩

theorem Acc.start {start : Int} (bs : List Int) (h0 : 0 ≤ start) (h1 : start < 65536) : Acc start bs 0 start := by
  refine ⟨h0, by omega, ?_, ?_⟩ <;> simp [wsum]

theorem Acc.done {start : Int} {bs : List Int} {acc : Int} (h : Acc start bs bs.length acc) : foldV acc = foldV (start + wsum bs) := by
  have h3 := h.eq
  have h4 := h.z
  rw [List.take_length] at h3 h4
  exact foldV_congr h3 h4

theorem Acc.fin {start : Int} {bs : List Int} {k : Nat} {acc : Int} (h : Acc start bs k acc) (hk : k = bs.length) : foldV acc = foldV (start + wsum bs) := by
  subst hk; exact h.done

theorem Acc.one {start : Int} {bs : List Int} {k : Nat} {acc : Int} (h : Acc start bs k acc) (hk : k % 2 = 0) (hl : k + 1 = bs.length) (hb : ∀ x, x ∈ bs → 0 ≤ x ∧ x < 256) (h0 : 0 ≤ start) : foldV (acc + bs.getD k 0 * 256) = foldV (start + wsum bs) := by
  have b1 := hb _ (Go.E1.getD_mem (l := bs) (i := k) (by omega))
  have hn := wsum_nonneg (l := bs.take k) (fun x hx => hb x (List.mem_of_mem_take hx))
  have e : bs = bs.take k ++ [bs.getD k 0] := by
    conv => lhs; rw [← List.take_append_drop k bs]
    congr 1
    rw [List.drop_eq_getElem_cons (show k < bs.length by omega), List.drop_eq_nil_of_le (by omega)]
    simp [List.getD_eq_getElem?_getD, show k < bs.length by omega]
  have hw : wsum bs = wsum (bs.take k) + bs.getD k 0 * 256 := by
    conv => lhs; rw [e]
    rw [wsum_append _ (by simp; omega)]
    simp [wsum]
  obtain ⟨a1, a2, a3, a4⟩ := h
  rw [hw]
  exact foldV_congr (by omega) (by omega)
end Go.Wire
