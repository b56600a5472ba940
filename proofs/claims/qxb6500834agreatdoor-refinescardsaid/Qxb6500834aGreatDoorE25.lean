/-
  E25: a slice that lies somewhere in a row of its own: append of one element, the part behind the first element. No project text.
-/
import Derived.Test.Qxb6500834aGreatDoorE24
import Derived.ArgAppend
set_option linter.unusedSimpArgs false
set_option linter.unusedVariables false
namespace Go.E1
open Go.RowKit

/-- A slice of m elements of s cells each, its cells f, in a row that is its own. -/
def OwnP (el s : Nat) (v : Value) (m : Nat) (XI : List HI) (f : Nat → Value) : Prop :=
  (v = .slice none 0 0 ∧ m = 0 ∧ XI = []) ∨ ∃ b o c N g, v = .slice (some ⟨b, o, none⟩) m c ∧ m ≤ c ∧ c ≤ 9223372036854775807 ∧ o + c * s ≤ N ∧ XI = [(b, Row el N g)] ∧ ∀ j, j < m * s → g (o + j) = f j
theorem OwnP.nil (el s : Nat) (f : Nat → Value) : OwnP el s (.slice none 0 0) 0 [] f := .inl ⟨rfl, rfl, rfl⟩
theorem OwnP.form {el s m : Nat} {v : Value} {XI : List HI} {f : Nat → Value} (h : OwnP el s v m XI f) : ∃ a c b o, v = .slice a m c ∧ m ≤ c ∧ (0 < m → a = some ⟨b, o, none⟩) ∧ ∀ {w0 : World} {M : Nat → Prop} {l : List HI} {w : World}, St w0 M l w → XI ⊆ l → ∀ k, k < m * s → w.cell? ⟨b, o + k, none⟩ = some (f k) := by
  rcases h with ⟨rfl, rfl, rfl⟩ | ⟨b, o, c, N, g, rfl, h1, h2, h3, rfl, h4⟩
  · exact ⟨none, 0, 0, 0, rfl, Nat.le_refl _, fun h => by omega, fun _ _ k hk => by simp at hk⟩
  · refine ⟨_, c, b, o, rfl, h1, fun _ => rfl, fun st hs k hk => ?_⟩
    have := Nat.mul_le_mul_right s h1
    rw [st.cell (t := el) (n := N) (f := g) (hs (List.mem_singleton.2 rfl)) (by omega), h4 k hk]
theorem OwnP.congr {el s m : Nat} {v : Value} {XI : List HI} {f g : Nat → Value} (h : OwnP el s v m XI f) (hfg : ∀ j, j < m * s → f j = g j) : OwnP el s v m XI g := by
  rcases h with h | ⟨b, o, c, N, g', h0, h1, h2, h3, h4, h5⟩
  · exact .inl h
  · exact .inr ⟨b, o, c, N, g', h0, h1, h2, h3, h4, fun j hj => (h5 j hj).trans (hfg j hj)⟩

section
variable {P : Program} {ops : Array Oper} {Q : Exit → Act → World → Prop} {n : Nat} {ds : List Deferred} {rest : List Oper} {e : Env} {w w0 : World} {M : Nat → Prop} {l : List HI}
variable {d : Nat} {ty : TypeId} {pos : String} {af : Array Edge} {g : Option (Nat × Bool)} {x y z : Operand}

/-- 'append(s, x)'. -/
theorem WL.appP {T el s by' nn c bx ox : Nat} {zs : List Value} {f news : Nat → Value} {XI : List HI} {v : Value} (ho : OwnP el s v nn XI f) (st : St w0 M (XI ++ l) w) (hT : mkT P T = some (el, s, by')) (hT2 : slT P T = some (el, s)) (hz : zeroL P el = some zs) (hs : zs.length = s) (hs0 : 0 < s)
    (hx : ev e x = v) (hy : ev e y = .slice (some ⟨bx, ox, none⟩) 1 c)
    (hnews : ∀ j, j < s → w.cell? ⟨bx, ox + j, none⟩ = some (news j)) (h1 : ∀ j, j < s → (news j).oneCell' = true)
    (hby : (nn + 1) * by' ≤ 140737488355328) (h63 : nn + 1 ≤ 9223372036854775807) (hc : (okX e x && okX e y) = true) (hn : Nat.blt d n = true) (hg : wantE ops e g = true)
    (k : ∀ v' XI' f' w', OwnP el s v' (nn + 1) XI' f' → St w0 M (XI' ++ l) w' → (∀ i, i < nn * s → f' i = f i) → (∀ j, j < s → f' (nn * s + j) = news j) → WL P ops Q n ds rest ((d, v') :: e) w') :
    WL P ops Q n ds (⟨some d, .call ⟨.builtin .append, #[x, y], #[T, T]⟩, ty, pos, af, g⟩ :: rest) e w := by
  have h1s : 1 * s = s := Nat.one_mul s
  have hn1 : (nn + 1) * s = nn * s + s := by rw [Nat.add_mul, h1s]
  rcases ho with ⟨rfl, rfl, rfl⟩ | ⟨b, o, cap, N, g', rfl, h2, h3, h4, rfl, h5⟩
  · refine WL.append0 (m := 1) (news := news) st hT hz hs hs0 hx hy (by decide) (by rw [h1s]; exact hnews) (by rw [h1s]; exact h1) (by simpa using hby) (by omega) hc hn hg ?_
    intro b' cap' f' w' st' a1 a2 a3
    refine k _ [(b', Row el (cap' * s) f')] f' w' (.inr ⟨b', 0, cap', cap' * s, f', rfl, by omega, a2, by omega, rfl, fun j _ => by rw [Nat.zero_add]⟩) st' (fun i hi => by omega) (fun j hj => ?_)
    have := a3 j (by omega)
    simpa using this
  · by_cases hroom : nn + 1 ≤ cap
    · have hm := Nat.mul_le_mul_right s hroom
      refine WL.appendR (m := 1) (news := news) st hT2 hx hy hroom (by omega) (by rw [h1s]; exact hnews) (by rw [h1s]; exact h1) hc hn hg ?_
      intro w' st'
      refine k _ [(b, Row el N _)] (fun j => upds g' (o + nn * s) (1 * s) news (o + j)) w' (.inr ⟨b, o, cap, N, _, rfl, hroom, h3, h4, rfl, fun j _ => rfl⟩) st' (fun i hi => ?_) (fun j hj => ?_)
      · rw [upds_eq, if_neg (by omega), h5 i hi]
      · rw [upds_eq, if_pos (by omega), show o + (nn * s + j) - (o + nn * s) = j by omega]
    · obtain ⟨hu, i, hi, hsz, hbz⟩ := mkT_spec hT
      subst hsz; subst hbz
      obtain ⟨z, hz1, hz2⟩ := zeroL_info hz hi
      have hml : maxLen = 9223372036854775807 := rfl
      have hnl : nn * i.size ≤ cap * i.size := Nat.mul_le_mul_right _ h2
      obtain ⟨v', w', hr, hown, hgr⟩ := run_append_arg_grows (P := P) w T ty el i z i.size i.bytes hu hi hz1 rfl rfl (by rw [hz2]; simpa using hs) hs0 ⟨b, o, none⟩ nn cap ((List.range (nn * i.size)).map f) (by simp)
        (fun j u hj => by
          by_cases hj' : j < nn * i.size
          · simp [hj'] at hj; subst hj; rw [Addr.add_none, st.c0 (by omega), h5 j hj']
          · simp [hj'] at hj) ⟨bx, ox, none⟩ 1 c ((List.range (1 * i.size)).map news) (by simp)
        (fun j u hj => by
          by_cases hj' : j < 1 * i.size
          · simp [show j < i.size by omega] at hj; subst hj; rw [Addr.add_none]; exact hnews j (by omega)
          · simp [show ¬ j < i.size by omega] at hj) (by omega) (by omega) hby
      have st1 : St w0 M l w' := (St.drop st).grown0 hgr
      rcases hown with ⟨hlen, hnil | ⟨b', cap', cs, rfl, hge, hb', r1, r2, r3, r4⟩⟩
      · exact absurd hnil.2 (by omega)
      · have h0 : w'.ownsRow 0 el i.size (.slice (some ⟨b', 0, none⟩) (nn + 1) cap') (nn + 1) ((List.range (nn * i.size)).map f ++ (List.range (1 * i.size)).map news) := ⟨hlen, .inr ⟨b', cap', cs, rfl, Nat.zero_le _, hb', r1, r2, r3, r4⟩⟩
        obtain ⟨q1, q2, o', f', hb2, hrow, hcells⟩ := row_of_owns h0
        have hst : St w0 M ((b', Row el (cap' * i.size) f') :: l) w' := by
          refine st1.add hb2 hrow (fun it hit heq => ?_) (.inr ?_)
          · have := st.lt (it := it) (by simp [hit]); omega
          · have := st.size; omega
        refine WL.v (v := .slice (some ⟨b', 0, none⟩) (nn + 1) cap') (w' := w') ?_ (by simpa [cov, noSel, Op.operands, Call.operands] using hc) hn hg (k _ [(b', Row el (cap' * i.size) f')] f' w' (.inr ⟨b', 0, cap', cap' * i.size, f', rfl, q1, by omega, by omega, rfl, fun j _ => by rw [Nat.zero_add]⟩) hst (fun j hj => ?_) (fun j hj => ?_))
        · simp only [execOp, resolve, invoke, builtin]
          simp [hx, hy, hr]
        · have := hcells j (by omega)
          rw [List.getElem?_append_left (by simpa using hj)] at this
          simp [hj] at this
          exact this.symm
        · have := hcells (nn * i.size + j) (by omega)
          rw [List.getElem?_append_right (by simp)] at this
          simp [hj] at this
          exact this.symm

/-- 'xs[1:]'. -/
theorem OwnP.tail {el s m : Nat} {v : Value} {XI : List HI} {f : Nat → Value} (h : OwnP el s v (m + 1) XI f) : ∃ a c v', v = .slice a (m + 1) c ∧ m + 1 ≤ c ∧ v' = .slice (slA a 1 c s) m (c - 1) ∧ OwnP el s v' m XI (fun j => f (s + j)) := by
  rcases h with ⟨_, h, _⟩ | ⟨b, o, c, N, g', rfl, h1, h2, h3, rfl, h4⟩
  · omega
  · refine ⟨_, c, _, rfl, h1, rfl, .inr ?_⟩
    have hm : (m + 1) * s = m * s + s := by rw [Nat.add_mul, Nat.one_mul]
    by_cases hc : c = 1
    · subst hc
      obtain rfl : m = 0 := by omega
      exact ⟨b, o, 0, N, g', by simp [slA], Nat.le_refl _, by omega, by omega, rfl, fun j hj => by omega⟩
    · have hcs : c * s = (c - 1) * s + s := by
        have : c = (c - 1) + 1 := by omega
        rw [this, Nat.add_mul, Nat.one_mul]; simp
      exact ⟨b, o + 1 * s, c - 1, N, g', by rw [slA_some (by omega)], by omega, by omega, by omega, rfl, fun j hj => by rw [show o + 1 * s + j = o + (s + j) by omega]; exact h4 (s + j) (by omega)⟩
end
end Go.E1
