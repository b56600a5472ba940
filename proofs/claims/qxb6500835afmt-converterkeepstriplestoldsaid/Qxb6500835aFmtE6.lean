/-
  E6: regions that draw their order: one walk in the text's order, in a family of worlds (quiet), or at one world with a forced tail; calls. No project text.
-/
import Derived.Test.Qxb6500835aFmtE5
set_option linter.unusedSimpArgs false
set_option linter.unusedVariables false
namespace Go.E1
open Go.RowKit

/-! ### Calls -/

/-- A function with a body, called by name. -/
def callT (P : Program) (f : Nat) : Bool :=
  match P.funcs[f]? with
  | some fn => !(fn.name == "runtime.NumGoroutine") && fn.body.isSome
  | none => false

section
variable {P : Program} {ρ : Operand → Value} {w : World} {d : Option Tmp} {ty : TypeId} {pos : String} {af : Array Edge} {g : Option (Nat × Bool)}

theorem run_callFunc {f : Nat} (hf : callT P f = true) (args : Array Value) : (callFunc f args).run P w = .ok (.enter f args) w := by
  unfold callT at hf
  split at hf
  · rename_i fn hfn
    simp only [Bool.and_eq_true, Bool.not_eq_true'] at hf
    have h1 : ¬ fn.name = "runtime.NumGoroutine" := by simpa using hf.1
    have h2 : ¬ fn.body = none := by intro h; rw [h] at hf; simp at hf
    simp [callFunc, hfn, h1, h2, go_sem]
  · cases hf

theorem r_callf {f : Nat} {xs : List Operand} {vs : List Value} {ats : Array TypeId} (hf : callT P f = true) (hv : xs.map ρ = vs) :
    (execOp ρ ⟨d, .call ⟨.value (.func f), xs.toArray, ats⟩, ty, pos, af, g⟩).run P w = .ok (.enter f vs.toArray) w ∨ ρ (.func f) ≠ .func (.func f) #[] #[] := by
  by_cases h : ρ (.func f) = .func (.func f) #[] #[]
  · refine .inl ?_
    subst hv
    simp [execOp, resolve, h, Deferred.ofValue, invoke, run_callFunc hf, go_sem]
  · exact .inr h

theorem r_call {e : Env} {f : Nat} {xs : List Operand} {vs : List Value} {ats : Array TypeId} (hf : callT P f = true) (hv : xs.map (ev e) = vs) :
    (execOp (ev e) ⟨d, .call ⟨.value (.func f), xs.toArray, ats⟩, ty, pos, af, g⟩).run P w = .ok (.enter f vs.toArray) w := by
  rcases r_callf (P := P) (w := w) (d := d) (ty := ty) (pos := pos) (af := af) (g := g) (ats := ats) hf hv with h | h
  · exact h
  · exact absurd rfl h

/-- A call of a function value. -/
theorem r_callv {e : Env} {x : Operand} {f : Nat} {cap : Array Value} {xs : List Operand} {vs : List Value} {ats : Array TypeId} (hf : callT P f = true) (hx : ev e x = .func (.func f) #[] cap) (hv : xs.map (ev e) = vs) :
    (execOp (ev e) ⟨d, .call ⟨.value x, xs.toArray, ats⟩, ty, pos, af, g⟩).run P w = .ok (.enter f (vs ++ cap.toList).toArray) w := by
  subst hv
  simp [execOp, resolve, hx, Deferred.ofValue, invoke, run_callFunc hf, go_sem]
end

/-! ### Quiet regions -/

def QL (P : Program) (ops : Array Oper) (C : World → Prop) (Q : Act → Prop) (n : Nat) (ds : List Deferred) (rest : List Oper) (e : Env) : Prop :=
  ∀ a, Fits a n ds e → wpQuiet P ops C Q rest a

def SL (P : Program) (ops : Array Oper) (w : World) (Q : Act → Prop) (n : Nat) (ds : List Deferred) (rest : List Oper) (e : Env) : Prop :=
  ∀ a, Fits a n ds e → wpStill P ops w Q rest a

section
variable {P : Program} {ops : Array Oper} {C : World → Prop} {Q : Act → Prop} {n : Nat} {ds : List Deferred} {rest : List Oper} {e : Env} {w : World}
variable {d : Nat} {op : Op} {ty : TypeId} {pos : String} {af : Array Edge} {g : Option (Nat × Bool)} {val : Value}

theorem QL.v (hr : ∀ w, C w → (execOp (ev e) ⟨some d, op, ty, pos, af, g⟩).run P w = .ok (.value val) w) (hc : cov e op = true) (hn : Nat.blt d n = true) (hg : wantE ops e g = true)
    (k : QL P ops C Q n ds rest ((d, val) :: e)) : QL P ops C Q n ds (⟨some d, op, ty, pos, af, g⟩ :: rest) e := by
  intro a ha
  unfold wpQuiet
  rw [if_pos (wanted_of ha hg)]
  refine ⟨val, fun w hw => ?_, k _ (ha.put hn val)⟩
  unfold Oper.quietAt
  rw [ha.exec hc, hr w hw]
  exact ⟨rfl, rfl⟩

theorem QL.no (hn : Nat.blt d n = true) (hg : wantN ops e g = true) (k : QL P ops C Q n ds rest ((d, undef) :: e)) : QL P ops C Q n ds (⟨some d, op, ty, pos, af, g⟩ :: rest) e := by
  intro a ha
  unfold wpQuiet
  rw [if_neg (by rw [wanted_not ha hg]; simp)]
  exact k _ (ha.put hn undef)

theorem QL.call {f : FuncId} {args : Array Value} (hr : ∀ w, C w → (execOp (ev e) ⟨some d, op, ty, pos, af, g⟩).run P w = .ok (.enter f args) w) (hc : cov e op = true) (hn : Nat.blt d n = true) (hg : wantE ops e g = true)
    (hk : ∀ w, C w → Calls P f args w (Ret fun u w' => u = val ∧ C w')) (k : QL P ops C Q n ds rest ((d, val) :: e)) : QL P ops C Q n ds (⟨some d, op, ty, pos, af, g⟩ :: rest) e := by
  intro a ha
  unfold wpQuiet
  rw [if_pos (wanted_of ha hg)]
  refine ⟨val, fun w hw => ?_, k _ (ha.put hn val)⟩
  unfold Oper.quietAt
  rw [ha.exec hc, hr w hw]
  refine ⟨rfl, (hk w hw).mono ?_⟩
  rintro en w' ⟨u, rfl, rfl, h⟩
  exact ⟨rfl, h⟩

theorem QL.nil (h : ∀ a, Fits a n ds e → Q a) : QL P ops C Q n ds [] e := fun a ha => h a ha

theorem QL.fin {l : List HI} {w0 : World} {M : Nat → Prop} {Q' : Exit → Act → World → Prop} {K : Act → World → Prop} {X : Env → World → Prop} {Kq : Act → Prop}
    (hKq : ∀ e', (∀ w', St w0 M l w' → ∀ a, Fits a n ds e' → Q' .normal a w') → ∀ a, Fits a n ds e' → Kq a)
    (hK : ∀ e' w', X e' w' → ∀ a, Fits a n ds e' → K a w') (hq : ∀ a w, K a w → Q' .normal a w) (k : ∀ w', St w0 M l w' → X e w') : QL P ops C Kq n ds [] e :=
  fun a ha => hKq e (fun w' st a' ha' => hq a' w' (hK e w' (k w' st) a' ha')) a ha

theorem SL.fin {X : Env → Prop} {Kq : Act → Prop} (hKq : ∀ e', X e' → ∀ a, Fits a n ds e' → Kq a) (k : X e) : SL P ops w Kq n ds [] e := fun a ha => hKq e k a ha

theorem SL.v (hr : (execOp (ev e) ⟨some d, op, ty, pos, af, g⟩).run P w = .ok (.value val) w) (hc : cov e op = true) (hn : Nat.blt d n = true) (hg : wantE ops e g = true)
    (k : SL P ops w Q n ds rest ((d, val) :: e)) : SL P ops w Q n ds (⟨some d, op, ty, pos, af, g⟩ :: rest) e := by
  intro a ha
  unfold wpStill
  rw [if_pos (wanted_of ha hg)]
  unfold Oper.still
  rw [ha.exec hc, hr]
  exact ⟨rfl, k _ (ha.put hn val)⟩

theorem SL.no (hn : Nat.blt d n = true) (hg : wantN ops e g = true) (k : SL P ops w Q n ds rest ((d, undef) :: e)) : SL P ops w Q n ds (⟨some d, op, ty, pos, af, g⟩ :: rest) e := by
  intro a ha
  unfold wpStill
  rw [if_neg (by rw [wanted_not ha hg]; simp)]
  exact k _ (ha.put hn undef)

theorem SL.nil (h : ∀ a, Fits a n ds e → Q a) : SL P ops w Q n ds [] e := fun a ha => h a ha
end

section
variable {P : Program} {Q : Exit → Act → World → Prop} {n : Nat} {ds : List Deferred} {e : Env} {w w0 : World} {M : Nat → Prop} {l : List HI}

/-- A region that draws and only reads (calls that leave the family as it is among it). -/
theorem WC.quiet {id : Nat} {lo : List Oper} (C : World → Prop) (hm : P.follows .mixedOrders = true) (hB : Region.lexB .any lo.toArray = true) (hC : C w.drew)
    (k : ∀ K : Act → Prop, (∀ e', (∀ w', C w' → ∀ a, Fits a n ds e' → Q .normal a w') → ∀ a, Fits a n ds e' → K a) → QL P lo.toArray C K n ds lo e) : WC P (.region id lo.toArray true) Q n ds e w := by
  intro a ha
  refine wp_region_quiet (C := C) hm hB hC ?_
  have := k (fun a' => ∀ w', C w' → Q .normal a' w') (fun e' h a' ha' => fun w' hw' => h w' hw' a' ha') a ha
  simpa using this

/-- A region that draws: m operations that only read, then operations in a forced order. -/
theorem WC.tail {id : Nat} {lo : List Oper} (m : Nat) (hm : P.follows .mixedOrders = true) (hB : Region.lexTailB .any lo.toArray m = true)
    (k : ∀ K : Act → Prop, (∀ e', WL P lo.toArray Q n ds (lo.drop m) e' w.drew → ∀ a, Fits a n ds e' → K a) → SL P lo.toArray w.drew K n ds (lo.take m) e) : WC P (.region id lo.toArray true) Q n ds e w := by
  intro a ha
  refine wp_region_still_tail m hm hB ?_
  exact k _ (fun e' h a' ha' => h a' ha') a ha

theorem WC.quietS {id : Nat} {lo : List Oper} (st : St w0 M l w) (hm : P.follows .mixedOrders = true) (hB : Region.lexB .any lo.toArray = true)
    (k : ∀ K : Act → Prop, (∀ e', (∀ w', St w0 M l w' → ∀ a, Fits a n ds e' → Q .normal a w') → ∀ a, Fits a n ds e' → K a) → QL P lo.toArray (St w0 M l) K n ds lo e) : WC P (.region id lo.toArray true) Q n ds e w :=
  WC.quiet (St w0 M l) hm hB st.drew k

theorem WC.tailS {id : Nat} {lo : List Oper} (m : Nat) (st : St w0 M l w) (hm : P.follows .mixedOrders = true) (hB : Region.lexTailB .any lo.toArray m = true)
    (k : ∀ w', St w0 M l w' → ∀ K : Act → Prop, (∀ e', WL P lo.toArray Q n ds (lo.drop m) e' w' → ∀ a, Fits a n ds e' → K a) → SL P lo.toArray w' K n ds (lo.take m) e) : WC P (.region id lo.toArray true) Q n ds e w :=
  WC.tail m hm hB (k _ st.drew)
end

end Go.E1
