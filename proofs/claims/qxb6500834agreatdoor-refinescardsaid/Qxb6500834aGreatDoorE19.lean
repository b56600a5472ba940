/-
  E19: slices of bytes over a row of the call's own, to be written. No project text.
-/
import Derived.Test.Qxb6500834aGreatDoorE18
set_option linter.unusedSimpArgs false
set_option linter.unusedVariables false
namespace Go.E1
open Go.RowKit

def BR (el : Nat) (v : Value) (bs : List Int) (XI : List HI) : Prop := ∃ f, OwnSl el 1 v bs.length XI f ∧ (∀ i, i < bs.length → f i = .int .u8 (bs.getD i 0)) ∧ ∀ x, x ∈ bs → 0 ≤ x ∧ x < 256
theorem BR.bo {el : Nat} {v : Value} {bs : List Int} {XI : List HI} (h : BR el v bs XI) : BO el v bs XI := by
  obtain ⟨f, h1, h2, h3⟩ := h
  exact ⟨f, .inl h1, h2, h3⟩
theorem BR.nil (el : Nat) : BR el (.slice none 0 0) [] [] := ⟨fun _ => undef, OwnSl.nil _ _ _, fun i hi => by simp at hi, fun x hx => by simp at hx⟩
theorem BR.form {el : Nat} {v : Value} {bs : List Int} {XI : List HI} (h : BR el v bs XI) : (v = .slice none 0 0 ∧ bs = [] ∧ XI = []) ∨
    ∃ b c f, v = .slice (some ⟨b, 0, none⟩) bs.length c ∧ bs.length ≤ c ∧ c ≤ 9223372036854775807 ∧ XI = [(b, Row el (c * 1) f)] ∧ (∀ i, i < bs.length → f i = .int .u8 (bs.getD i 0)) ∧ ∀ x, x ∈ bs → 0 ≤ x ∧ x < 256 := by
  obtain ⟨f, ho, hf, hb⟩ := h
  rcases ho with ⟨rfl, hl, rfl⟩ | ⟨b, c, rfl, h1, h2, rfl⟩
  · exact .inl ⟨rfl, List.eq_nil_of_length_eq_zero hl, rfl⟩
  · exact .inr ⟨b, c, f, rfl, h1, h2, rfl, hf, hb⟩
theorem BR.own {el b c : Nat} {bs : List Int} {f : Nat → Value} (h1 : bs.length ≤ c) (h2 : c ≤ 9223372036854775807) (hf : ∀ i, i < bs.length → f i = .int .u8 (bs.getD i 0)) (hb : ∀ x, x ∈ bs → 0 ≤ x ∧ x < 256) : BR el (.slice (some ⟨b, 0, none⟩) bs.length c) bs [(b, Row el (c * 1) f)] :=
  ⟨f, .inr ⟨b, c, rfl, h1, h2, rfl⟩, hf, hb⟩
/-- One byte written. -/
theorem BR.set {el b c j : Nat} {bs : List Int} {f : Nat → Value} {x : Int} (h1 : bs.length ≤ c) (h2 : c ≤ 9223372036854775807) (hf : ∀ i, i < bs.length → f i = .int .u8 (bs.getD i 0)) (hb : ∀ x, x ∈ bs → 0 ≤ x ∧ x < 256) (hx : 0 ≤ x ∧ x < 256) :
    (∀ i, i < (bs.set j x).length → upd f (0 + j * 1) (.int .u8 x) i = .int .u8 ((bs.set j x).getD i 0)) ∧ ∀ y, y ∈ bs.set j x → 0 ≤ y ∧ y < 256 := by
  refine ⟨fun i hi => ?_, fun y hy => ?_⟩
  · rw [List.length_set] at hi
    simp only [upd_eq]
    rw [List.getD_eq_getElem?_getD, List.getElem?_set]
    by_cases hij : j = i
    · subst hij
      rw [if_pos (by omega), if_pos rfl, if_pos hi]; rfl
    · rw [if_neg (by omega), if_neg hij, ← List.getD_eq_getElem?_getD]; exact hf i hi
  · rcases List.mem_or_eq_of_mem_set hy with h | h
    · exact hb y h
    · rw [h]; exact hx

section
variable {P : Program} {ops : Array Oper} {Q : Exit → Act → World → Prop} {n : Nat} {ds : List Deferred} {rest : List Oper} {e : Env} {w w0 : World} {M : Nat → Prop} {l : List HI}
variable {d : Nat} {ty : TypeId} {pos : String} {af : Array Edge} {g : Option (Nat × Bool)} {x y z : Operand}

theorem WL.appW {T el by' : Nat} {v : Value} {bs : List Int} {XI : List HI} {s : SV} (ho : BR el v bs XI) (hs : s.ok) (hr : s.rd w) (st : St w0 M (XI ++ l) w) (hT : mkT P T = some (el, 1, by')) (hT2 : slT P T = some (el, 1)) {zs : List Value} (hz : zeroL P el = some zs) (hzs : zs.length = 1)
    (hx : ev e x = v) (hy : ev e y = s.v) (hby : (bs.length + s.bs.length) * by' ≤ 140737488355328) (h63 : bs.length + s.bs.length ≤ 9223372036854775807) (hc : (okX e x && okX e y) = true) (hn : Nat.blt d n = true) (hg : wantE ops e g = true)
    (k : ∀ v' XI' w', BR el v' (bs ++ s.bs) XI' → St w0 M (XI' ++ l) w' → WL P ops Q n ds rest ((d, v') :: e) w') :
    WL P ops Q n ds (⟨some d, .call ⟨.builtin .append, #[x, y], #[T, T]⟩, ty, pos, af, g⟩ :: rest) e w := by
  obtain ⟨f, ho, hf, hb⟩ := ho
  by_cases h0 : s.bs.length = 0
  · have hnil : s.bs = [] := List.eq_nil_of_length_eq_zero h0
    have hform : ∃ ao nn cap, v = .slice ao nn cap ∧ nn ≤ cap := by
      rcases ho with ⟨rfl, _, _⟩ | ⟨b, c, rfl, h1, _, _⟩
      · exact ⟨none, 0, 0, rfl, Nat.le_refl _⟩
      · exact ⟨_, _, _, rfl, h1⟩
    obtain ⟨ao, nn, cap, rfl, hle⟩ := hform
    refine WL.v (v := .slice ao nn cap) (w' := w) ?_ (by simpa [cov, noSel, Op.operands, Call.operands] using hc) hn hg (k _ XI w (by rw [hnil, List.append_nil]; exact ⟨f, ho, hf, hb⟩) st)
    have hy' : ev e y = .slice s.a 0 s.c := by rw [hy]; unfold SV.v; rw [h0]
    simp only [execOp, resolve, invoke, builtin]
    simp [hx, hy', run_append_none (P := P) (w := w) (ty := ty) (a2 := s.a) (c := s.c) hT2 hle]
  · have hy' : ev e y = .slice (some ⟨s.b, s.o, none⟩) s.bs.length s.c := by rw [hy]; unfold SV.v; rw [hs.adr (by omega)]
    refine WL.appendO (m := s.bs.length) (news := fun j => .int .u8 (s.bs.getD j 0)) ho st hT hz hzs (by omega) hx hy' (by omega) (fun j hj => hr j (by omega)) (fun j hj => rfl) hby h63 hc hn hg ?_
    intro v' XI' f' w' ho' st' h1 h2
    refine k v' XI' w' ⟨f', by rw [List.length_append]; exact ho', fun i hi => ?_, fun x hx => ?_⟩ st'
    · rw [List.length_append] at hi
      by_cases hi2 : i < bs.length
      · rw [h1 i (by omega), hf i hi2, List.getD_eq_getElem?_getD, List.getD_eq_getElem?_getD, List.getElem?_append_left hi2]
      · have := h2 (i - bs.length) (by omega)
        rw [show bs.length * 1 + (i - bs.length) = i by omega] at this
        rw [this, List.getD_eq_getElem?_getD, List.getD_eq_getElem?_getD, List.getElem?_append_right (by omega)]
    · rcases List.mem_append.1 hx with h | h
      · exact hb x h
      · exact hs.byt x h
end
end Go.E1
