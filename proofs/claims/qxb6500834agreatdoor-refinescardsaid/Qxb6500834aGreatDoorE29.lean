/-
  E29: a slice whose elements tell a list, in a row of its own. No project text.
-/
import Derived.Test.Qxb6500834aGreatDoorE28
set_option linter.unusedSimpArgs false
set_option linter.unusedVariables false
namespace Go.E1
open Go.RowKit
/-- The cells of a list's elements. -/
def LO {α : Type} (el sz : Nat) (enc : α → Nat → Value) (v : Value) (L : List α) (XI : List HI) : Prop := ∃ f, OwnSl el sz v L.length XI f ∧ ∀ i a, L[i]? = some a → ∀ j, j < sz → f (i * sz + j) = enc a j
section
variable {α : Type} {el sz : Nat} {enc : α → Nat → Value} {v : Value} {L : List α} {XI : List HI}
theorem LO.nil : LO el sz enc (.slice none 0 0) [] [] := ⟨fun _ => undef, OwnSl.nil _ _ _, fun i a h => by simp at h⟩
theorem LO.form (h : LO el sz enc v L XI) : ∃ a c b, v = .slice a L.length c ∧ L.length ≤ c ∧ c ≤ 9223372036854775807 ∧ (0 < L.length → a = some ⟨b, 0, none⟩) ∧ ∀ {w0 : World} {M : Nat → Prop} {l : List HI} {w : World}, St w0 M l w → XI ⊆ l → ∀ i x, L[i]? = some x → ∀ j, j < sz → w.cell? ⟨b, i * sz + j, none⟩ = some (enc x j) := by
  obtain ⟨f, ho, hf⟩ := h
  have hlt : ∀ {i : Nat} {x : α}, L[i]? = some x → i < L.length := fun hx => (List.getElem?_eq_some_iff.1 hx).1
  rcases ho with ⟨rfl, h0, rfl⟩ | ⟨b, c, rfl, h1, h2, rfl⟩
  · exact ⟨none, 0, 0, by rw [h0], by omega, by omega, fun h => by omega, fun _ _ i x hx => by have := hlt hx; omega⟩
  · refine ⟨_, c, b, rfl, h1, h2, fun _ => rfl, fun st hs i x hx j hj => ?_⟩
    have hi := hlt hx
    have : (i + 1) * sz ≤ c * sz := Nat.mul_le_mul_right _ (by omega)
    rw [Nat.add_mul] at this
    rw [st.cell (t := el) (n := c * sz) (f := f) (hs (by simp)) (by omega), hf i x hx j hj]
/-- What a list's owner is when it isn't empty: its row. -/
theorem LO.row (h : LO el sz enc v L XI) (hL : 0 < L.length) : ∃ b c f, v = .slice (some ⟨b, 0, none⟩) L.length c ∧ L.length ≤ c ∧ c ≤ 9223372036854775807 ∧ XI = [(b, Row el (c * sz) f)] ∧ ∀ i a, L[i]? = some a → ∀ j, j < sz → f (i * sz + j) = enc a j := by
  obtain ⟨f, ho, hf⟩ := h
  rcases ho with ⟨rfl, h0, rfl⟩ | ⟨b, c, rfl, h1, h2, rfl⟩
  · omega
  · exact ⟨b, c, f, rfl, h1, h2, rfl, hf⟩
theorem LO.of {b c : Nat} {f : Nat → Value} (h1 : L.length ≤ c) (h2 : c ≤ 9223372036854775807) (hf : ∀ i a, L[i]? = some a → ∀ j, j < sz → f (i * sz + j) = enc a j) : LO el sz enc (.slice (some ⟨b, 0, none⟩) L.length c) L [(b, Row el (c * sz) f)] :=
  ⟨f, .inr ⟨b, c, rfl, h1, h2, rfl⟩, hf⟩
end
section
variable {P : Program} {ops : Array Oper} {Q : Exit → Act → World → Prop} {n : Nat} {ds : List Deferred} {rest : List Oper} {e : Env} {w w0 : World} {M : Nat → Prop} {l : List HI}
variable {d : Nat} {ty : TypeId} {pos : String} {af : Array Edge} {g : Option (Nat × Bool)} {x y z : Operand}
variable {α : Type} {enc : α → Nat → Value} {v : Value} {L : List α} {XI : List HI}
/-- 'append(s, a)'. -/
theorem WL.appL {T el s by' c bx ox : Nat} {zs : List Value} {a : α} (ho : LO el s enc v L XI) (st : St w0 M (XI ++ l) w) (hT : mkT P T = some (el, s, by')) (hz : zeroL P el = some zs) (hs : zs.length = s) (hs0 : 0 < s)
    (hx : ev e x = v) (hy : ev e y = .slice (some ⟨bx, ox, none⟩) 1 c)
    (hnews : ∀ j, j < s → w.cell? ⟨bx, ox + j, none⟩ = some (enc a j)) (h1 : ∀ j, j < s → (enc a j).oneCell' = true)
    (hby : (L.length + 1) * by' ≤ 140737488355328) (h63 : L.length + 1 ≤ 9223372036854775807) (hc : (okX e x && okX e y) = true) (hn : Nat.blt d n = true) (hg : wantE ops e g = true)
    (k : ∀ v' XI' w', LO el s enc v' (L ++ [a]) XI' → St w0 M (XI' ++ l) w' → WL P ops Q n ds rest ((d, v') :: e) w') :
    WL P ops Q n ds (⟨some d, .call ⟨.builtin .append, #[x, y], #[T, T]⟩, ty, pos, af, g⟩ :: rest) e w := by
  obtain ⟨f, ho, hf⟩ := ho
  refine WL.appendO (m := 1) (news := enc a) ho st hT hz hs hs0 hx hy (by decide) (fun j hj => hnews j (by omega)) (fun j hj => h1 j (by omega)) hby h63 hc hn hg ?_
  intro v' XI' f' w' ho' st' h1 h2
  refine k v' XI' w' ⟨f', by rw [List.length_append]; exact ho', fun i b hb j hj => ?_⟩ st'
  by_cases hi : i < L.length
  · rw [List.getElem?_append_left hi] at hb
    have : (i + 1) * s ≤ L.length * s := Nat.mul_le_mul_right _ (by omega)
    rw [Nat.add_mul] at this
    rw [h1 _ (by omega)]
    exact hf i b hb j hj
  · rw [List.getElem?_append_right (by omega)] at hb
    have hi2 : i = L.length := by
      cases hk : i - L.length with
      | zero => omega
      | succ q => rw [hk] at hb; simp at hb
    subst hi2
    rw [Nat.sub_self] at hb
    cases hb
    exact h2 j (by omega)
end
end Go.E1
