/-
  E4: the laws of operations on memory, off closed facts on the types. No project text.
-/
import Derived.Test.Qxb6500834aGreatDoorE3
set_option linter.unusedSimpArgs false
set_option linter.unusedVariables false
namespace Go.E1
open Go.RowKit

/-! ### Closed facts on types -/

/-- A slice type: its element type, the element's cells. -/
def slT (P : Program) (T : Nat) : Option (Nat × Nat) :=
  match P.underlying T with
  | some (.slice e) =>
    match P.info? e with
    | some i => some (e, i.size)
    | none => none
  | _ => none

/-- An array type: its length, its element type, the element's cells. -/
def arT (P : Program) (T : Nat) : Option (Nat × Nat × Nat) :=
  match P.underlying T with
  | some (.array n e) =>
    match P.info? e with
    | some i => some (n, e, i.size)
    | none => none
  | _ => none

/-- A type of one cell. -/
def oneT (P : Program) (T : Nat) : Bool :=
  match P.underlying T with
  | some (.struct _) => false
  | some (.array _ _) => false
  | some _ => (match P.info? T with | some i => Nat.beq i.size 1 | none => false)
  | none => false

/-- A struct's or an array's number of cells. -/
def aggT (P : Program) (T : Nat) : Option Nat :=
  match P.underlying T with
  | some (.struct _) => (P.info? T).map (·.size)
  | some (.array _ _) => (P.info? T).map (·.size)
  | _ => none

def kindT (P : Program) (T : Nat) : Option IntKind :=
  match P.underlying T with
  | some (.int k) => some k
  | _ => none

def zeroL (P : Program) (T : Nat) : Option (List Value) :=
  match P.info? T with
  | some i =>
    match i.zero with
    | some v => some v.cells.toList
    | none => none
  | none => none

/-- No interface type. -/
def concT (P : Program) (T : Nat) : Bool :=
  match P.underlying T with
  | some (.interface _) => false
  | some _ => true
  | none => false

theorem slT_spec {P : Program} {T e s : Nat} (h : slT P T = some (e, s)) : P.underlying T = some (.slice e) ∧ ∃ i, P.info? e = some i ∧ i.size = s := by
  unfold slT at h
  split at h
  · rename_i e' hu
    split at h
    · rename_i i hi
      simp only [Option.some.injEq, Prod.mk.injEq] at h
      obtain ⟨rfl, rfl⟩ := h
      exact ⟨hu, i, hi, rfl⟩
    · cases h
  · cases h

theorem arT_spec {P : Program} {T n e s : Nat} (h : arT P T = some (n, e, s)) : P.underlying T = some (.array n e) ∧ ∃ i, P.info? e = some i ∧ i.size = s := by
  unfold arT at h
  split at h
  · rename_i n' e' hu
    split at h
    · rename_i i hi
      simp only [Option.some.injEq, Prod.mk.injEq] at h
      obtain ⟨rfl, rfl, rfl⟩ := h
      exact ⟨hu, i, hi, rfl⟩
    · cases h
  · cases h

theorem oneT_spec {P : Program} {T : Nat} (h : oneT P T = true) (w : World) : (isAgg T).run P w = .ok false w ∧ ∃ i, P.info? T = some i ∧ i.size = 1 := by
  unfold oneT at h
  split at h
  · cases h
  · cases h
  · rename_i d h1 h2 hu
    split at h
    · rename_i i hi
      refine ⟨?_, i, hi, Nat.eq_of_beq_eq_true h⟩
      unfold isAgg
      rw [Sem.run_bind, run_underlying hu]
      cases d <;> simp_all [go_sem]
    · cases h
  · cases h

theorem aggT_spec {P : Program} {T n : Nat} (h : aggT P T = some n) (w : World) : (isAgg T).run P w = .ok true w ∧ ∃ i, P.info? T = some i ∧ i.size = n := by
  unfold aggT at h
  split at h
  · rename_i fs hu
    cases hi : P.info? T with
    | none => rw [hi] at h; cases h
    | some i =>
      rw [hi] at h
      simp only [Option.map_some, Option.some.injEq] at h
      refine ⟨by unfold isAgg; rw [Sem.run_bind, run_underlying hu]; simp [go_sem], i, rfl, h⟩
  · rename_i m e hu
    cases hi : P.info? T with
    | none => rw [hi] at h; cases h
    | some i =>
      rw [hi] at h
      simp only [Option.map_some, Option.some.injEq] at h
      refine ⟨by unfold isAgg; rw [Sem.run_bind, run_underlying hu]; simp [go_sem], i, rfl, h⟩
  · cases h

theorem run_sizeOf {P : Program} {T : Nat} {i : TypeInfo} (h : P.info? T = some i) (w : World) : (sizeOf T).run P w = .ok i.size w := by
  simp [sizeOf, typeInfo, h, go_sem]

theorem run_typeInfo {P : Program} {T : Nat} {i : TypeInfo} (h : P.info? T = some i) (w : World) : (typeInfo T).run P w = .ok i w := by
  simp [typeInfo, h, go_sem]

theorem zeroL_spec {P : Program} {T : Nat} {zs : List Value} (h : zeroL P T = some zs) : ∃ z, z.cells.toList = zs ∧ ∀ w, (zeroValue T).run P w = .ok z w := by
  unfold zeroL at h
  split at h
  · rename_i i hi
    split at h
    · rename_i v hv
      simp only [Option.some.injEq] at h
      exact ⟨v, h, fun w => by simp [zeroValue, typeInfo, hi, hv, go_sem]⟩
    · cases h
  · cases h

/-! ### Equations -/

/-- Cells side by side. -/
def Cells (w : World) (b : Nat) : Nat → List Value → Prop
  | _, [] => True
  | o, v :: vs => w.cell? ⟨b, o, none⟩ = some v ∧ Cells w b (o + 1) vs

theorem Cells.spec {w : World} {b : Nat} : ∀ {o : Nat} {vs : List Value}, Cells w b o vs → ∀ j v, vs[j]? = some v → w.cell? ⟨b, o + j, none⟩ = some v
  | _, [], _, j, v, h => by simp at h
  | o, u :: vs, hc, 0, v, h => by simp at h; subst h; exact hc.1
  | o, u :: vs, hc, j + 1, v, h => by
    have := Cells.spec hc.2 j v (by simpa using h)
    rwa [show o + 1 + j = o + (j + 1) by omega] at this

theorem Cells.mk {w : World} {b : Nat} : ∀ {vs : List Value} {o : Nat}, (∀ j v, vs[j]? = some v → w.cell? ⟨b, o + j, none⟩ = some v) → Cells w b o vs
  | [], _, _ => trivial
  | u :: vs, o, h => ⟨by simpa using h 0 u (by simp), Cells.mk (vs := vs) (o := o + 1) fun j v hj => by
      have := h (j + 1) v (by simpa using hj)
      rwa [show o + (j + 1) = o + 1 + j by omega] at this⟩

section
variable {P : Program} {ρ : Operand → Value} {w : World} {d : Option Tmp} {ty : TypeId} {pos : String} {af : Array Edge} {g : Option (Nat × Bool)}
variable {x y z : Operand} {k : IntKind} {a b r : Int} {t : Bool}

def convT (P : Program) (T T' : Nat) : Option IntKind :=
  match P.underlying T with
  | some _ => kindT P T'
  | none => none

theorem r_conv {T T' : TypeId} {k' : IntKind} (hT : convT P T T' = some k) (hx : ρ x = .int k' a) (hw : k.wrap a = r) : (execOp ρ ⟨d, .convert T T' x, ty, pos, af, g⟩).run P w = .ok (.value (.int k r)) w := by
  subst hw
  unfold convT at hT
  split at hT
  · rename_i dd hu1
    unfold kindT at hT
    split at hT
    · rename_i k2 hu
      simp only [Option.some.injEq] at hT
      subst hT
      simp [execOp, hx, convert, run_underlying hu1, run_underlying hu, Conv.intToInt, go_sem]
    · cases hT
  · cases hT

theorem r_iface {T : TypeId} {v : Value} (hT : concT P T = true) (hx : ρ x = v) : (execOp ρ ⟨d, .makeInterface T x, ty, pos, af, g⟩).run P w = .ok (.value (.iface T v)) w := by
  subst hx
  unfold concT at hT
  split at hT
  · cases hT
  · rename_i dd h1 hu
    cases dd <;> simp_all [execOp, Instr.makeInterface, run_underlying hu, go_sem]
  · cases hT

/- indices -/
theorem r_indexS {T e s : Nat} {bl off n c j : Nat} (hT : slT P T = some (e, s)) (hx : ρ x = .slice (some ⟨bl, off, none⟩) n c) (hy : ρ y = .int k a) (hi : a = (j : Int)) (hj : j < n) :
    (execOp ρ ⟨d, .indexAddr T x y, ty, pos, af, g⟩).run P w = .ok (.value (.pointer (some ⟨bl, off + j * s, none⟩))) w := by
  obtain ⟨hu, i, hi2, rfl⟩ := slT_spec hT
  subst hi
  have h2 : (j : Int) < (n : Int) := by omega
  simp [execOp, Instr.indexAt, hx, hy, asIntOf, run_underlying hu, h2, run_sizeOf hi2, Addr.add_none, go_sem]
  exact fun h => absurd h (by omega)

theorem r_indexA {T e s : Nat} {bl off n j : Nat} (hT : arT P T = some (n, e, s)) (hx : ρ x = .pointer (some ⟨bl, off, none⟩)) (hy : ρ y = .int k a) (hi : a = (j : Int)) (hj : j < n) :
    (execOp ρ ⟨d, .indexAddr T x y, ty, pos, af, g⟩).run P w = .ok (.value (.pointer (some ⟨bl, off + j * s, none⟩))) w := by
  obtain ⟨hu, i, hi2, rfl⟩ := arT_spec hT
  subst hi
  have h2 : (j : Int) < (n : Int) := by omega
  simp [execOp, Instr.indexAt, hx, hy, asIntOf, run_underlying hu, h2, run_sizeOf hi2, Instr.sureAddr, Addr.add_none, go_sem]
  exact fun h => absurd h (by omega)

/- loads -/
theorem r_load1 {T : Nat} {ad : Addr} {v : Value} (hT : oneT P T = true) (hx : ρ x = .pointer (some ad)) (hc : w.cell? ad = some v) :
    (execOp ρ ⟨d, .load T x, ty, pos, af, g⟩).run P w = .ok (.value v) w := by
  obtain ⟨h1, _⟩ := oneT_spec hT w
  simp [execOp, Instr.loadAt, hx, Instr.sureAddr, loadVar, h1, hc, go_sem]

theorem r_loadL {T bl off : Nat} {vs : List Value} (hT : aggT P T = some vs.length) (hx : ρ x = .pointer (some ⟨bl, off, none⟩)) (hc : Cells w bl off vs) :
    (execOp ρ ⟨d, .load T x, ty, pos, af, g⟩).run P w = .ok (.value (.agg vs.toArray)) w := by
  obtain ⟨h1, i, h2, h3⟩ := aggT_spec hT w
  have h4 := run_loadCells_list (P := P) w ⟨bl, off, none⟩ vs (fun j v hj => by rw [Addr.add_none]; exact hc.spec j v hj)
  simp only [loadCells] at h4
  simp [execOp, Instr.loadAt, hx, Instr.sureAddr, loadVar, h1, run_sizeOf h2, h3, h4, go_sem]

/-- A long row, by a function. -/
def mkA (n : Nat) (f : Nat → Value) : Array Value := ((List.range n).map f).toArray

theorem r_loadN {T bl off n : Nat} {f : Nat → Value} (hT : aggT P T = some n) (hx : ρ x = .pointer (some ⟨bl, off, none⟩)) (hc : ∀ i, i < n → w.cell? ⟨bl, off + i, none⟩ = some (f i)) :
    (execOp ρ ⟨d, .load T x, ty, pos, af, g⟩).run P w = .ok (.value (.agg (mkA n f))) w := by
  obtain ⟨h1, i, h2, h3⟩ := aggT_spec hT w
  have h4 := run_loadCells (P := P) w ⟨bl, off, none⟩ n f (fun j hj => by rw [Addr.add_none]; exact hc j hj)
  simp only [loadCells] at h4
  simp [execOp, Instr.loadAt, hx, Instr.sureAddr, loadVar, h1, run_sizeOf h2, h3, h4, mkA, go_sem]

/- slices of slices -/
theorem r_slice_hi {T e s : Nat} {ao : Option Addr} {n c j : Nat} (hT : slT P T = some (e, s)) (hx : ρ x = .slice ao n c) (hy : ρ y = .int k a) (hi : a = (j : Int)) (hj : j ≤ c) :
    (execOp ρ ⟨d, .slice T x none (some y) none, ty, pos, af, g⟩).run P w = .ok (.value (.slice ao j c)) w := by
  obtain ⟨hu, i, hi2, rfl⟩ := slT_spec hT
  subst hi
  have h2 : (j : Int) ≤ (c : Int) := by omega
  have h3 : ∀ ad : Addr, ad.add 0 = ad := fun ad => by simp [Addr.add]
  simp [execOp, Instr.sliceAt, Instr.slice, hx, hy, run_underlying hu, Instr.sliceBounds, Instr.sliceBound, asIntOf, h2, run_sizeOf hi2, go_sem]
  exact fun h => absurd h (by omega)

theorem r_slice_lohimx {T e s : Nat} {bl off n c jl jh jm : Nat} {xl xh xm : Operand} {kl kh km : IntKind} {al ah am : Int} (hT : slT P T = some (e, s)) (hx : ρ x = .slice (some ⟨bl, off, none⟩) n c)
    (hl : ρ xl = .int kl al) (hh : ρ xh = .int kh ah) (hm : ρ xm = .int km am) (el : al = (jl : Int)) (eh : ah = (jh : Int)) (em : am = (jm : Int)) (h1 : jl ≤ jh) (h2 : jh ≤ jm) (h3 : jm ≤ c) (hne : jl < jm) :
    (execOp ρ ⟨d, .slice T x (some xl) (some xh) (some xm), ty, pos, af, g⟩).run P w = .ok (.value (.slice (some ⟨bl, off + jl * s, none⟩) (jh - jl) (jm - jl))) w := by
  obtain ⟨hu, i, hi2, rfl⟩ := slT_spec hT
  subst el eh em
  have e1 : (jl : Int) ≤ (jh : Int) := by omega
  have e2 : (jh : Int) ≤ (jm : Int) := by omega
  have e3 : (jm : Int) ≤ (c : Int) := by omega
  have e4 : ¬ jm = jl := by omega
  simp [execOp, Instr.sliceAt, Instr.slice, hx, hl, hh, hm, run_underlying hu, Instr.sliceBounds, Instr.sliceBound, asIntOf, e1, e2, e3, e4, h1, h2, h3, run_sizeOf hi2, Addr.add_none, go_sem]
end

end Go.E1
