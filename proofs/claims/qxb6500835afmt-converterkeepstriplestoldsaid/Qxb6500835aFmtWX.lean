import Derived.Test.Qxb6500835aFmtWT
import Derived.Test.Qxb6500835aFmtRows
import Derived.ProofKit
import Derived.Stop.JoinedAt
import Derived.Stop.Texts
import Derived.Stop.JoinedTold
import Derived.Stop.FmtQuoteTie
import Derived.Stop.FmtTextKit
import Derived.Stop.FmtTextWidths
import Derived.SizedLaws
set_option linter.unusedVariables false
set_option linter.unusedSimpArgs false
namespace Go.Proofs.Qxb6500835aFmt
open Go.RowKit Go.E1 Go.Conv Go.Extern.Stop Go.Stop Go.Extern Go.Kit

/-- The last N decimal digits of u. -/
def padD : Nat → Nat → List UInt8
  | 0, _ => []
  | N + 1, u => padD N (u / 10) ++ [UInt8.ofNat (48 + u % 10)]

theorem padD_length : ∀ N u, (padD N u).length = N
  | 0, _ => rfl
  | N + 1, u => by simp [padD, padD_length N]

theorem zeros_step (N u : Nat) : List.replicate (N + 1 + 1 - (Lib.decDigits u).length) (48 : UInt8) ++ Lib.decDigits u = (List.replicate (N + 1 - (Lib.decDigits (u / 10)).length) 48 ++ Lib.decDigits (u / 10)) ++ [UInt8.ofNat (48 + u % 10)] := by
  by_cases h : u < 10
  · rw [Lib.decDigits_one h, show u / 10 = 0 by omega, Lib.decDigits_one (show 0 < 10 by omega), show u % 10 = u by omega]
    simp only [List.length_singleton]
    rw [show N + 1 + 1 - 1 = (N + 1 - 1) + 1 by omega, List.replicate_succ']
    rfl
  · rw [Lib.decDigits, dif_neg h, List.length_append, List.length_singleton, List.append_assoc, show N + 1 + 1 - ((Lib.decDigits (u / 10)).length + 1) = N + 1 - (Lib.decDigits (u / 10)).length by omega]

theorem zeros_pad : ∀ N u, u < 10 ^ (N + 1) → List.replicate (N + 1 - (Lib.decDigits u).length) (48 : UInt8) ++ Lib.decDigits u = padD (N + 1) u
  | 0, u, h => by
    rw [Lib.decDigits_one (by simpa using h)]
    simp only [padD, List.length_singleton, List.nil_append]
    rw [show u % 10 = u by have : u < 10 := by simpa using h
                           omega]
    rfl
  | N + 1, u, h => by
    rw [zeros_step, zeros_pad N (u / 10) (by rw [Nat.pow_succ] at h; omega)]
    rfl

theorem bl_irrefl : ∀ l : List UInt8, Op.bytesLess l l = false
  | [] => rfl
  | a :: l => by simp [Op.bytesLess, bl_irrefl l, UInt8.lt_irrefl]

theorem bl_snoc : ∀ (a b : List UInt8) (x y : UInt8), a.length = b.length → (Op.bytesLess a b = true ∨ (a = b ∧ x < y)) → Op.bytesLess (a ++ [x]) (b ++ [y]) = true
  | [], [], x, y, _, h => by
    rcases h with h | ⟨_, h⟩
    · simp [Op.bytesLess] at h
    · simp [Op.bytesLess, h]
  | a :: l, b :: m, x, y, hl, h => by
    have hl' : l.length = m.length := by simpa using hl
    simp only [List.cons_append, Op.bytesLess, Bool.or_eq_true, decide_eq_true_eq, Bool.and_eq_true, beq_iff_eq]
    rcases h with h | ⟨h1, h2⟩
    · simp only [Op.bytesLess, Bool.or_eq_true, decide_eq_true_eq, Bool.and_eq_true, beq_iff_eq] at h
      rcases h with h | ⟨h1, h2⟩
      · exact .inl h
      · exact .inr ⟨h1, bl_snoc l m x y hl' (.inl h2)⟩
    · cases h1
      exact .inr ⟨rfl, bl_snoc l l x y rfl (.inr ⟨rfl, h2⟩)⟩
  | [], _ :: _, _, _, hl, _ => by simp at hl
  | _ :: _, [], _, _, hl, _ => by simp at hl

theorem padD_lt : ∀ N u v, u < v → v < 10 ^ N → Op.bytesLess (padD N u) (padD N v) = true
  | 0, u, v, h, hv => by simp at hv; omega
  | N + 1, u, v, h, hv => by
    simp only [padD]
    refine bl_snoc _ _ _ _ (by rw [padD_length, padD_length]) ?_
    by_cases hd : u / 10 < v / 10
    · exact .inl (padD_lt N _ _ hd (by rw [Nat.pow_succ] at hv; omega))
    · have he : u / 10 = v / 10 := by omega
      refine .inr ⟨by rw [he], ?_⟩
      rw [UInt8.lt_iff_toNat_lt, UInt8.toNat_ofNat_of_lt' (by simp [UInt8.size]; omega), UInt8.toNat_ofNat_of_lt' (by simp [UInt8.size]; omega)]
      omega

/-- The t-th term's text. -/
def Tm (t : Nat) : ByteArray := ⟨(116 :: padD 6 t).toArray⟩

theorem t_parse : (FmtText.parse [116, 37, 48, 54, 100]).map FmtText.glue = some [.lit [116], .verb { widPresent := true, wid := 6, zero := true } 100] := by rfl

theorem t_text (t : Nat) (ht : t ≤ 65536) : FmtText.text "fmt.Sprintf" (fReading (t : Nat)) = some (116 :: padD 6 t) := by
  have hw : (Lit.int .i64 (t : Nat)).wf = true := by
    have m1 : IntKind.i64.min = -9223372036854775808 := rfl
    have m2 : IntKind.i64.max = 9223372036854775807 := rfl
    simp only [Lit.wf, Bool.and_eq_true, decide_eq_true_eq, m1, m2]; omega
  have hi := FmtText.operand_int_at (sh := fm_shape) (k := .i64) rfl rfl (t : Nat) hw
  rw [fReading, FmtText.text_sprintf_glued t_parse (FmtText.operands_cons hi FmtText.operands_nil)]
  have hz : FmtText.zeros 6 (t : Nat) = padD 6 t := by
    unfold FmtText.zeros
    rw [if_neg (by omega)]
    simp only [Int.toNat_natCast]
    exact zeros_pad 5 t (by omega)
  simp [FmtText.render, FmtText.printArg_d_zero _ 6 _ hw, hz]

theorem terms_ok (F : Interp) : TermsOk F.told Tm where
  txt t ht := by
    have h1 := told_string F (t_text t ht) (by simp [padD_length])
    have h2 := textOf_list F.told "fmt.Sprintf" (fReading (t : Nat))
    rw [h1] at h2
    unfold Tm
    rw [← h2]
  size t ht := by simp [Tm, ByteArray.size, padD_length]
  ne t ht := by
    rw [ByteArray.toList_eq, ByteArray.toList_eq]
    rfl
  inc t h0 ht := by
    rw [ByteArray.toList_eq, ByteArray.toList_eq]
    simp only [Tm, Op.bytesLess]
    rw [padD_lt 6 (t - 1) t (by omega) (by omega)]
    rfl
  inj t u ht hu he := by
    have h1 : padD 6 t = padD 6 u := by
      have := congrArg (fun b : ByteArray => b.data.toList) he
      simpa [Tm] using this
    rcases Nat.lt_trichotomy t u with h | h | h
    · have := padD_lt 6 t u h (by omega)
      rw [h1, bl_irrefl] at this; cases this
    · exact h
    · have := padD_lt 6 u t h (by omega)
      rw [h1, bl_irrefl] at this; cases this
end Go.Proofs.Qxb6500835aFmt

