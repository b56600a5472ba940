/-
  E15: function values, a result that lies in memory, structs of two integers compared. No project text.
-/
import Derived.Test.Qxb6500834aGreatDoorE14
set_option linter.unusedSimpArgs false
set_option linter.unusedVariables false
namespace Go.E1
open Go.RowKit

section
variable {P : Program} {ρ : Operand → Value} {w : World} {d : Option Tmp} {ty : TypeId} {pos : String} {af : Array Edge} {g : Option (Nat × Bool)} {x y : Operand} {t : Bool}

theorem r_mkfn {fn : Fn} {fs cs : List Operand} {vf vc : List Value} (hf : fs.map ρ = vf) (hc : cs.map ρ = vc) :
    (execOp ρ ⟨d, .makeFunc fn fs.toArray cs.toArray, ty, pos, af, g⟩).run P w = .ok (.value (.func fn vf.toArray vc.toArray)) w := by
  subst hf hc
  simp [execOp, Instr.makeFunc, go_sem]

/-- A struct of two integer fields. -/
def st2T (P : Program) (T : Nat) : Option (IntKind × IntKind) :=
  match P.underlying T with
  | some (.struct fs) =>
    match fs.toList with
    | [f1, f2] =>
      match P.underlying f1.type, P.underlying f2.type with
      | some (.int k1), some (.int k2) => if f1.name ≠ "_" ∧ f2.name ≠ "_" ∧ f1.offset = 0 ∧ f2.offset = 1 ∧ P.stoodInHeld T = false then some (k1, k2) else none
      | _, _ => none
    | _ => none
  | _ => none

theorem run_equal_int {T : TypeId} {k q : IntKind} {a b : Int} (n : Nat) (hT : P.underlying T = some (.int k)) : (Op.equalIn (n + 1) T (.int q a) (.int q b)).run P w = .ok (a == b) w := by
  unfold Op.equalIn
  rw [Sem.run_bind, run_underlying hT]
  simp [Result.andThen]

theorem run_part_int {T : TypeId} {k : IntKind} {cs : Array Value} {off : Nat} {v : Value} (hT : P.underlying T = some (.int k)) (hv : cs[off]? = some v) : (part T cs off).run P w = .ok v w := by
  simp [part, isAgg, run_underlying hT, hv, Result.andThen]

theorem run_equal_st2 {T : TypeId} {k1 k2 : IntKind} {a b a' b' : Int} (hT : st2T P T = some (k1, k2)) :
    (Op.equal T (.agg #[.int k1 a, .int k2 b]) (.agg #[.int k1 a', .int k2 b'])).run P w = .ok ((a == a') && (b == b')) w := by
  unfold st2T at hT
  split at hT
  case h_2 => cases hT
  rename_i fs hu
  split at hT
  case h_2 => cases hT
  rename_i f1 f2 hfs
  split at hT
  case h_2 => cases hT
  rename_i q1 q2 h1 h2
  split at hT
  case isFalse => cases hT
  rename_i hc
  obtain ⟨n1, n2, o1, o2, hh⟩ := hc
  cases hT
  have hfs' : fs = #[f1, f2] := by
    apply Array.ext'
    simpa using hfs
  subst hfs'
  show (Op.equalIn (9999 + 1) T _ _).run P w = _
  unfold Op.equalIn
  rw [Sem.run_bind, run_underlying hu]
  simp only [Result.andThen]
  have hp : ∀ w, Sem.run P (Sem.program Sem.pure) w = .ok P w := fun w => rfl
  have i1 : ∀ w, (isAgg f1.type).run P w = .ok false w := fun w => by simp [isAgg, run_underlying h1, Result.andThen]
  have i2 : ∀ w, (isAgg f2.type).run P w = .ok false w := fun w => by simp [isAgg, run_underlying h2, Result.andThen]
  have g1 := fun w => run_equal_int (P := P) (w := w) (q := k1) (a := a) (b := a') 9998 h1
  have g2 := fun w => run_equal_int (P := P) (w := w) (q := k2) (a := b) (b := b') 9998 h2
  have hbb : ∀ (c d : Int), ¬ c = d → (c == d) = false := fun c d h => by simpa using h
  by_cases ha : a = a'
  · by_cases hb : b = b'
    · subst ha; subst hb
      simp [program, hp, hh, n1, n2, o1, o2, i1, i2, g1, g2, go_sem, Result.andThen]
    · subst ha
      simp [program, hp, hh, n1, n2, o1, o2, i1, i2, g1, g2, go_sem, Result.andThen, hb, hbb b b' hb]
  · simp [program, hp, hh, n1, n2, o1, o2, i1, i2, g1, g2, go_sem, Result.andThen, ha, hbb a a' ha]

theorem r_st2_neq {T T' : TypeId} {k1 k2 : IntKind} {a b a' b' : Int} (hT : st2T P T = some (k1, k2)) (hG : P.eqGuardType P.depth T = false) (hx : ρ x = .agg #[.int k1 a, .int k2 b]) (hy : ρ y = .agg #[.int k1 a', .int k2 b']) (ht : (!((a == a') && (b == b'))) = t) :
    (execOp ρ ⟨d, .binOp .neq T x y T', ty, pos, af, g⟩).run P w = .ok (.value (.bool t)) w := by
  subst ht
  simp [execOp, hx, hy, eqGuard, binOp, run_equal_st2 hT, hG]
end

section
variable {P : Program} {Q : Exit → Act → World → Prop} {n : Nat} {e : Env} {w w0 : World} {fn : Func} {R : Ending → World → Prop}

/-- A result that lies in memory. -/
theorem WC.retC {t T bl off : Nat} {vs : List Value} (hr : fn.results = #[.cell t T]) (hq : ∀ a w, bodyPost P fn R .ret a w → Q .ret a w) (hk : knows e t = true) (hT : aggT P T = some vs.length) (hx : look e t = .pointer (some ⟨bl, off, none⟩)) (hc : Cells w bl off vs)
    (h : R (.returned (.agg vs.toArray)) w) : WC P .ret Q n [] e w := by
  intro a ha
  refine wp_ret (hq a w (bodyPost_ret ?_ ha.defers h))
  obtain ⟨h1, i, h2, h3⟩ := aggT_spec hT w
  have h4 := run_loadCells_list (P := P) w ⟨bl, off, none⟩ vs (fun j v hj => by rw [Addr.add_none]; exact hc.spec j v hj)
  simp only [loadCells] at h4
  have hp : a.tmps[t]?.getD undef = .pointer (some ⟨bl, off, none⟩) := by
    have := ha.getD hk
    rw [hx] at this
    simpa using this
  simp [results, hr, hp, asAddr, loadVar, h1, run_sizeOf h2, h3, h4, go_sem]
end
end Go.E1
