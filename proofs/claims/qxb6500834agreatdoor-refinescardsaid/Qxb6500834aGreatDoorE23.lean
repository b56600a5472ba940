/-
  E23: a deferred unlock in a function whose result lies in a cell. No project text.
-/
import Derived.Test.Qxb6500834aGreatDoorE22
set_option linter.unusedSimpArgs false
set_option linter.unusedVariables false
namespace Go.E1
open Go.RowKit Go.MapKept
section
variable {P : Program} {ops : Array Oper} {Q : Exit → Act → World → Prop} {n : Nat} {ds : List Deferred} {rest : List Oper} {e : Env} {w w0 : World} {M : Nat → Prop} {l : List HI}
variable {fn : Func} {R : Ending → World → Prop} {Lk : Go.Conc.Locks.MuLink} {b o t m : Nat} {f : Nat → Value}

theorem leaves_unlock' {tmps : Array Value} {v : Value} (H : Go.Conc.Locks.MuLib P Lk) (hcall : callT P Lk.unlock = true) (st : St w0 M ((b, Row t m f) :: l) w) (ho : o < m) (hf : f o = .int .i32 1)
    (hres : ∀ w', St w0 M ((b, Row t m (upd f o (.int .i32 0))) :: l) w' → (results fn tmps).run P w' = .ok v w') (h : ∀ w', St w0 M ((b, Row t m (upd f o (.int .i32 0))) :: l) w' → R (.returned v) w') :
    Leaves P fn tmps R [⟨.fn (.func Lk.unlock) #[], #[.pointer (some ⟨b, o, none⟩)]⟩] .returning w := by
  obtain ⟨s1, c1, z1⟩ := st.setCell ho (.int .i32 0)
  rw [hf] at c1
  refine leaves_cons (f := Lk.unlock) (args := #[.pointer (some ⟨b, o, none⟩)]) (by simp) (by simp only [invoke]; rw [run_callFunc hcall]; rfl) ?_
  refine (Go.MuLone.unlock_deferred H ⟨b, o, none⟩ .returning w c1 z1).mono ?_
  rintro en u' w'' ⟨rfl, rfl, rfl⟩
  exact ⟨v, hres _ s1, h _ s1⟩

theorem WC.retDC {u T bl off : Nat} {vs : List Value} (H : Go.Conc.Locks.MuLib P Lk) (hcall : callT P Lk.unlock = true) (hr : fn.results = #[.cell u T]) (hq : ∀ a w, bodyPostD P fn R .ret a w → Q .ret a w) (hk : knows e u = true) (hT : aggT P T = some vs.length) (hx : look e u = .pointer (some ⟨bl, off, none⟩)) (st : St w0 M ((b, Row t m f) :: l) w) (ho : o < m) (hf : f o = .int .i32 1)
    (hc : ∀ w', St w0 M ((b, Row t m (upd f o (.int .i32 0))) :: l) w' → Cells w' bl off vs)
    (h : ∀ w', St w0 M ((b, Row t m (upd f o (.int .i32 0))) :: l) w' → R (.returned (.agg vs.toArray)) w') : WC P .ret Q n [⟨.fn (.func Lk.unlock) #[], #[.pointer (some ⟨b, o, none⟩)]⟩] e w := by
  refine fun a ha => wp_ret (hq a w (by
    show Leaves P fn a.tmps R a.defers .returning w
    rw [ha.defers]
    refine leaves_unlock' H hcall st ho hf (fun w' st' => ?_) h
    obtain ⟨h1, i, h2, h3⟩ := aggT_spec hT w'
    have h4 := run_loadCells_list (P := P) w' ⟨bl, off, none⟩ vs (fun j v hj => by rw [Addr.add_none]; exact (hc w' st').spec j v hj)
    simp only [loadCells] at h4
    have hp : a.tmps[u]?.getD undef = .pointer (some ⟨bl, off, none⟩) := by
      have := ha.getD hk
      rw [hx] at this
      simpa using this
    simp [results, hr, hp, asAddr, loadVar, h1, run_sizeOf h2, h3, h4, go_sem]))
variable {ρ : Operand → Value} {d : Option Tmp} {ty : TypeId} {pos : String} {af : Array Edge} {g : Option (Nat × Bool)} {x y : Operand} {ats : Array TypeId} {k k2 : IntKind} {a b' r : Int}
theorem r_max (hx : ρ x = .int k a) (hy : ρ y = .int k2 b') (h : (if b' > a then b' else a) = r) : (execOp ρ ⟨d, .call ⟨.builtin .max, #[x, y], ats⟩, ty, pos, af, g⟩).run P w = .ok (.value (.int k r)) w := by
  subst h; simp [execOp, resolve, invoke, builtin, hx, hy, Builtin.max_, Builtin.max2, go_sem]
theorem r_min (hx : ρ x = .int k a) (hy : ρ y = .int k2 b') (h : (if b' < a then b' else a) = r) : (execOp ρ ⟨d, .call ⟨.builtin .min, #[x, y], ats⟩, ty, pos, af, g⟩).run P w = .ok (.value (.int k r)) w := by
  subst h; simp [execOp, resolve, invoke, builtin, hx, hy, Builtin.min_, Builtin.min2, go_sem]

/-- A field of a struct's value, of one cell. -/
def fldV (P : Program) (s i : Nat) : Option Nat :=
  match P.underlying s with
  | some (.struct fs) =>
    match fs[i]? with
    | some f => bif oneT P f.type then some f.offset else none
    | none => none
  | _ => none
theorem r_fieldv {s : TypeId} {i o2 : Nat} {cs : Array Value} {v : Value} (hf : fldV P s i = some o2) (hx : ρ x = .agg cs) (hc : cs[o2]? = some v) :
    (execOp ρ ⟨d, .field s x i, ty, pos, af, g⟩).run P w = .ok (.value v) w := by
  unfold fldV at hf
  split at hf
  · rename_i fs hs
    split at hf
    · rename_i f hfi
      cases h1 : oneT P f.type with
      | false => rw [h1] at hf; cases hf
      | true =>
        rw [h1] at hf
        simp only [cond_true, Option.some.injEq] at hf
        subst hf
        obtain ⟨h2, _⟩ := oneT_spec h1 w
        simp [execOp, Instr.field, hx, run_underlying hs, hfi, part, h2, hc, asAgg, go_sem]
    · cases hf
  · cases hf
end
end Go.E1
