/-
  E14: a slice that is nil or has an array of its own; steps over a map; calls of a stop. No project text.
-/
import Derived.Test.Qxb6500834aGreatDoorE13
set_option linter.unusedSimpArgs false
set_option linter.unusedVariables false
namespace Go.E1
open Go.RowKit Go.MapKept

/-- A slice of m elements, nil or over a row of its own. -/
def OwnSl (el s : Nat) (v : Value) (m : Nat) (XI : List HI) (f : Nat → Value) : Prop :=
  (v = .slice none 0 0 ∧ m = 0 ∧ XI = []) ∨ ∃ b c, v = .slice (some ⟨b, 0, none⟩) m c ∧ m ≤ c ∧ c ≤ 9223372036854775807 ∧ XI = [(b, Row el (c * s) f)]

theorem OwnSl.nil (el s : Nat) (f : Nat → Value) : OwnSl el s (.slice none 0 0) 0 [] f := .inl ⟨rfl, rfl, rfl⟩
theorem OwnSl.form {el s m : Nat} {v : Value} {XI : List HI} {f : Nat → Value} (h : OwnSl el s v m XI f) : ∃ a c b, v = .slice a m c ∧ (0 < m → a = some ⟨b, 0, none⟩) ∧ ∀ {w0 : World} {M : Nat → Prop} {l : List HI} {w : World}, St w0 M l w → XI ⊆ l → ∀ k, k < m * s → w.cell? ⟨b, k, none⟩ = some (f k) := by
  rcases h with ⟨rfl, rfl, rfl⟩ | ⟨b, c, rfl, h1, h2, rfl⟩
  · exact ⟨none, 0, 0, rfl, fun h => by omega, fun _ _ k hk => by simp at hk⟩
  · refine ⟨_, c, b, rfl, fun _ => rfl, fun st hs k hk => st.cell (t := el) (n := c * s) (hs (by simp)) ?_⟩
    have := Nat.mul_le_mul_right s h1
    omega

section
variable {P : Program} {ops : Array Oper} {Q : Exit → Act → World → Prop} {n : Nat} {ds : List Deferred} {rest : List Oper} {e : Env} {w w0 : World} {M : Nat → Prop} {l : List HI}
variable {d : Nat} {ty : TypeId} {pos : String} {af : Array Edge} {g : Option (Nat × Bool)} {x y z : Operand}

theorem WL.appendO {T el s by' nn m c bx ox : Nat} {zs : List Value} {f news : Nat → Value} {XI : List HI} {v : Value} (ho : OwnSl el s v nn XI f) (st : St w0 M (XI ++ l) w) (hT : mkT P T = some (el, s, by')) (hz : zeroL P el = some zs) (hs : zs.length = s) (hs0 : 0 < s)
    (hx : ev e x = v) (hy : ev e y = .slice (some ⟨bx, ox, none⟩) m c) (hm0 : 0 < m)
    (hnews : ∀ j, j < m * s → w.cell? ⟨bx, ox + j, none⟩ = some (news j)) (h1 : ∀ j, j < m * s → (news j).oneCell' = true)
    (hby : (nn + m) * by' ≤ 140737488355328) (h63 : nn + m ≤ 9223372036854775807) (hc : (okX e x && okX e y) = true) (hn : Nat.blt d n = true) (hg : wantE ops e g = true)
    (k : ∀ v' XI' f' w', OwnSl el s v' (nn + m) XI' f' → St w0 M (XI' ++ l) w' → (∀ i, i < nn * s → f' i = f i) → (∀ j, j < m * s → f' (nn * s + j) = news j) → WL P ops Q n ds rest ((d, v') :: e) w') :
    WL P ops Q n ds (⟨some d, .call ⟨.builtin .append, #[x, y], #[T, T]⟩, ty, pos, af, g⟩ :: rest) e w := by
  rcases ho with ⟨rfl, rfl, rfl⟩ | ⟨b, c', rfl, h2, h3, rfl⟩
  · refine WL.append0 (m := m) (news := news) st hT hz hs hs0 hx hy hm0 hnews h1 (by simpa using hby) (by omega) hc hn hg ?_
    intro b' cap' f' w' st' h4 h5 h6
    exact k _ [(b', Row el (cap' * s) f')] f' w' (.inr ⟨b', cap', by rw [Nat.zero_add], by omega, h5, rfl⟩) st' (fun i hi => by simp at hi) (fun j hj => by rw [Nat.zero_mul, Nat.zero_add]; exact h6 j hj)
  · refine WL.append (m := m) (news := news) st hT hz hs hs0 hx hy h2 h3 hm0 hnews h1 hby h63 hc hn hg ?_
    intro b' cap' f' w' st' h4 h5 h6 h7
    exact k _ [(b', Row el (cap' * s) f')] f' w' (.inr ⟨b', cap', rfl, h4, h5, rfl⟩) st' h6 h7
end

section
variable {P : Program} {ρ : Operand → Value} {w w' : World} {d : Option Tmp} {ty : TypeId} {pos : String} {af : Array Edge} {g : Option (Nat × Bool)} {x : Operand}
theorem r_next {p v : Value} (hx : ρ x = p) (hr : (Instr.next p false ty).run P w = .ok v w') : (execOp ρ ⟨d, .next x false, ty, pos, af, g⟩).run P w = .ok (.value v) w' := by
  simp only [execOp, hx, Sem.run_bind, hr]; rfl

theorem r_callx {e : Env} {f : Nat} {xs : List Operand} {vs : List Value} {ats : Array TypeId} {v : Value} (hv : xs.map (ev e) = vs) (hr : (callFunc f vs.toArray).run P w = .ok (.value v) w') :
    (execOp (ev e) ⟨d, .call ⟨.value (.func f), xs.toArray, ats⟩, ty, pos, af, g⟩).run P w = .ok (.value v) w' := by
  have h : ev e (.func f) = .func (.func f) #[] #[] := rfl
  subst hv
  simp [execOp, resolve, h, Deferred.ofValue, invoke, hr, go_sem]
end

theorem st_pull {w0 : World} {M : Nat → Prop} {P Q R : List HI} {w : World} (h : St w0 M (P ++ (Q ++ R)) w) : St w0 M (Q ++ (P ++ R)) w := h.perm (List.perm_append_comm_assoc P Q R)
theorem st_swap {w0 : World} {M : Nat → Prop} {P Q : List HI} {w : World} (h : St w0 M (P ++ Q) w) : St w0 M (Q ++ P) w := h.perm List.perm_append_comm
theorem st_mid {w0 : World} {M : Nat → Prop} {P Q : List HI} {b : HI} {w : World} (h : St w0 M (P ++ b :: Q) w) : St w0 M (b :: (P ++ Q)) w := h.perm List.perm_middle
theorem st_toXI {w0 : World} {M : Nat → Prop} {c b : HI} {FI XI : List HI} {w : World} (h : St w0 M (c :: (FI ++ (b :: XI))) w) : St w0 M (XI ++ (c :: (FI ++ [b]))) w :=
  st_swap (P := c :: (FI ++ [b])) (Q := XI) (by simpa only [List.append_assoc, List.cons_append, List.nil_append] using h)
theorem st_fromXI {w0 : World} {M : Nat → Prop} {c b : HI} {FI XI : List HI} {w : World} (h : St w0 M (XI ++ (c :: (FI ++ [b]))) w) : St w0 M (c :: (FI ++ (b :: XI))) w := by
  have := st_swap (P := XI) (Q := c :: (FI ++ [b])) h
  simpa only [List.append_assoc, List.cons_append, List.nil_append] using this
theorem st_mapF {w0 : World} {M : Nat → Prop} {c b : HI} {FI XI : List HI} {w : World} (h : St w0 M (c :: (FI ++ (b :: XI))) w) : St w0 M (b :: c :: (FI ++ XI)) w := st_mid (P := c :: FI) (Q := XI) h
theorem st_mapB {w0 : World} {M : Nat → Prop} {c b : HI} {FI XI : List HI} {w : World} (h : St w0 M (b :: c :: (FI ++ XI)) w) : St w0 M (c :: (FI ++ (b :: XI))) w := h.perm (List.perm_middle (l₁ := c :: FI) (l₂ := XI)).symm
theorem st_noIts {w0 : World} {M : Nat → Prop} {c : HI} {FI its R : List HI} {w : World} (h : St w0 M (c :: (FI ++ (its ++ R))) w) : St w0 M (c :: (FI ++ R)) w :=
  (st_pull (P := c :: FI) (Q := its) (R := R) h).sublist (List.sublist_append_right its _)
theorem st_mapF2 {w0 : World} {M : Nat → Prop} {o c b : HI} {FI its XI : List HI} {w : World} (h : St w0 M (o :: c :: (FI ++ (its ++ (b :: XI)))) w) : St w0 M (b :: o :: c :: (FI ++ (its ++ XI))) w := by
  have := st_mid (P := o :: c :: (FI ++ its)) (Q := XI) (b := b) (by simpa only [List.append_assoc, List.cons_append, List.nil_append] using h)
  simpa only [List.append_assoc, List.cons_append, List.nil_append] using this
theorem st_none {w0 : World} {M : Nat → Prop} {P : List HI} {w : World} (h : St w0 M P w) : St w0 M [] w := h.sublist (List.nil_sublist _)
theorem st_dropL {w0 : World} {M : Nat → Prop} {P Q : List HI} {w : World} (h : St w0 M (P ++ Q) w) : St w0 M Q w := h.sublist (List.sublist_append_right P Q)
end Go.E1
