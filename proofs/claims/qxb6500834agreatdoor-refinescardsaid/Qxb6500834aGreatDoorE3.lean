/-
  E3: the memory's word 'St', and the laws of operations that read, write and make memory. No project text.
-/
import Derived.Test.Qxb6500834aGreatDoorE2
set_option linter.unusedSimpArgs false
set_option linter.unusedVariables false
namespace Go.E1
open Go.RowKit

/-! ### The memory -/

/-- A block's number, and a property of what lies there. -/
abbrev HI := Nat × (Obj → Prop)

structure St (w0 : World) (M : Nat → Prop) (l : List HI) (w : World) : Prop where
  os : w.os = w0.os
  tape : w.tape = w0.tape
  output : w.output = w0.output
  size : w0.heap.size ≤ w.heap.size
  kept : ∀ k, k < w0.heap.size → ¬ M k → w.heap[k]? = w0.heap[k]?
  nodup : (l.map (·.1)).Nodup
  get : ∀ it ∈ l, ∃ o, w.heap[it.1]? = some o ∧ it.2 o
  own : ∀ it ∈ l, M it.1 ∨ w0.heap.size ≤ it.1

/-- A row of n cells, cell i holding 'f i'. -/
def Row (t n : Nat) (f : Nat → Value) (o : Obj) : Prop := ∃ cs : Array Value, o = .cells cs t (0, 0) ∧ cs.size = n ∧ ∀ i, i < n → cs[i]? = some (f i)

def nth (l : List Value) (i : Nat) : Value := l.getD i undef
def upd (f : Nat → Value) (o : Nat) (v : Value) (i : Nat) : Value :=
  match Nat.beq i o with
  | true => v
  | false => f i
def upds (f : Nat → Value) (o m : Nat) (g : Nat → Value) (i : Nat) : Value :=
  match Nat.ble o i && Nat.blt i (o + m) with
  | true => g (i - o)
  | false => f i
theorem upd_eq (f : Nat → Value) (o : Nat) (v : Value) (i : Nat) : upd f o v i = if i = o then v else f i := by
  unfold upd
  by_cases h : i = o
  · subst h; rw [if_pos rfl]; simp
  · rw [if_neg h]
    have : Nat.beq i o = false := by rw [← Bool.not_eq_true]; exact fun h' => h (Nat.eq_of_beq_eq_true h')
    rw [this]
theorem upds_eq (f : Nat → Value) (o m : Nat) (g : Nat → Value) (i : Nat) : upds f o m g i = if o ≤ i ∧ i < o + m then g (i - o) else f i := by
  unfold upds
  by_cases h : o ≤ i ∧ i < o + m
  · rw [if_pos h]
    have : (Nat.ble o i && Nat.blt i (o + m)) = true := by
      rw [Bool.and_eq_true, Nat.blt_eq, Nat.ble_eq]; exact h
    rw [this]
  · rw [if_neg h]
    have : (Nat.ble o i && Nat.blt i (o + m)) = false := by
      rw [← Bool.not_eq_true, Bool.and_eq_true, Nat.blt_eq, Nat.ble_eq]
      exact h
    rw [this]

theorem Row.congr {t n : Nat} {f g : Nat → Value} {o : Obj} (h : Row t n f o) (hfg : ∀ i, i < n → f i = g i) : Row t n g o := by
  obtain ⟨cs, h1, h2, h3⟩ := h
  exact ⟨cs, h1, h2, fun i hi => by rw [h3 i hi, hfg i hi]⟩

theorem row_nth (t : Nat) (vs : List Value) : Row t vs.length (nth vs) (.cells vs.toArray t (0, 0)) :=
  ⟨vs.toArray, rfl, by simp, fun i hi => by simp [nth, List.getD, hi]⟩

section
variable {w0 w : World} {M : Nat → Prop} {l : List HI}

theorem St.init (w : World) (M : Nat → Prop) : St w M [] w := ⟨rfl, rfl, rfl, Nat.le_refl _, fun _ _ _ => rfl, by simp, by simp, by simp⟩

theorem St.perm {l' : List HI} (h : St w0 M l w) (hp : l.Perm l') : St w0 M l' w :=
  ⟨h.os, h.tape, h.output, h.size, h.kept, ((hp.map (·.1)).nodup_iff).1 h.nodup, fun it hi => h.get it (hp.mem_iff.2 hi), fun it hi => h.own it (hp.mem_iff.2 hi)⟩

theorem St.sublist {l' : List HI} (h : St w0 M l w) (hp : l'.Sublist l) : St w0 M l' w :=
  ⟨h.os, h.tape, h.output, h.size, h.kept, (hp.map (·.1)).nodup h.nodup, fun it hi => h.get it (hp.subset hi), fun it hi => h.own it (hp.subset hi)⟩

theorem St.drop {it : HI} (h : St w0 M (it :: l) w) : St w0 M l w := h.sublist (List.sublist_cons_self _ _)

/-- A property is given up for another. -/
theorem St.impc {b : Nat} {p q : Obj → Prop} (h : St w0 M ((b, p) :: l) w) (hpq : ∀ o, p o → q o) : St w0 M ((b, q) :: l) w :=
  ⟨h.os, h.tape, h.output, h.size, h.kept, h.nodup, fun it hi => by
    rcases List.mem_cons.1 hi with rfl | hi
    · obtain ⟨o, h1, h2⟩ := h.get (b, p) (by simp)
      exact ⟨o, h1, hpq o h2⟩
    · exact h.get it (by simp [hi]), fun it hi => by
    rcases List.mem_cons.1 hi with rfl | hi
    · exact h.own (b, p) (by simp)
    · exact h.own it (by simp [hi])⟩

theorem St.drew (h : St w0 M l w) : St w0 M l w.drew := ⟨h.os, h.tape, h.output, h.size, h.kept, h.nodup, h.get, h.own⟩
theorem St.drew' (h : St w0 M l w) : St w0 M l { w with drawn := w.drawn + 1 } := ⟨h.os, h.tape, h.output, h.size, h.kept, h.nodup, h.get, h.own⟩

theorem St.lt (h : St w0 M l w) {it : HI} (hi : it ∈ l) : it.1 < w.heap.size := by
  obtain ⟨o, h1, _⟩ := h.get it hi
  exact (Array.getElem?_eq_some_iff.1 h1).1

theorem St.alloc (h : St w0 M l w) (o : Obj) {p : Obj → Prop} (hp : p o) : St w0 M ((w.heap.size, p) :: l) (w.alloc o) := by
  refine ⟨h.os, h.tape, h.output, by have := h.size; simp; omega, fun k hk hM => ?_, ?_, fun it hi => ?_, fun it hi => ?_⟩
  · rw [Below.heap_alloc w o k (by have := h.size; omega)]; exact h.kept k hk hM
  · simp only [List.map_cons, List.nodup_cons]
    refine ⟨fun hm => ?_, h.nodup⟩
    obtain ⟨it, hi, he⟩ := List.mem_map.1 hm
    have := h.lt hi
    omega
  · rcases List.mem_cons.1 hi with rfl | hi
    · exact ⟨o, heap_alloc_new w o, hp⟩
    · obtain ⟨o', h1, h2⟩ := h.get it hi
      exact ⟨o', by rw [Below.heap_alloc w o _ (h.lt hi)]; exact h1, h2⟩
  · rcases List.mem_cons.1 hi with rfl | hi
    · exact .inr h.size
    · exact h.own it hi

/-- A block's object is exchanged. -/
theorem St.exch {b : Nat} {p q : Obj → Prop} (h : St w0 M ((b, p) :: l) w) {w' : World} {o : Obj} (hos : w'.os = w.os) (ht : w'.tape = w.tape) (hout : w'.output = w.output)
    (hs : w'.heap.size = w.heap.size) (hb : w'.heap[b]? = some o) (hq : q o) (hk : ∀ k, k ≠ b → w'.heap[k]? = w.heap[k]?) : St w0 M ((b, q) :: l) w' := by
  have hnd := h.nodup
  simp only [List.map_cons, List.nodup_cons] at hnd
  refine ⟨hos.trans h.os, ht.trans h.tape, hout.trans h.output, by rw [hs]; exact h.size, fun k hk' hM => ?_, h.nodup, fun it hi => ?_, fun it hi => ?_⟩
  · by_cases hkb : k = b
    · subst hkb
      rcases h.own (k, p) (by simp) with h1 | h1
      · exact absurd h1 hM
      · simp only at h1; omega
    · rw [hk k hkb]; exact h.kept k hk' hM
  · rcases List.mem_cons.1 hi with rfl | hi
    · exact ⟨o, hb, hq⟩
    · have hne : it.1 ≠ b := fun e => hnd.1 (List.mem_map.2 ⟨it, hi, e⟩)
      obtain ⟨o', h1, h2⟩ := h.get it (by simp [hi])
      exact ⟨o', by rw [hk _ hne]; exact h1, h2⟩
  · rcases List.mem_cons.1 hi with rfl | hi
    · exact h.own (b, p) (by simp)
    · exact h.own it (by simp [hi])

theorem St.setRow {b : Nat} {p q : Obj → Prop} {cs cs' : Array Value} {t : TypeId} (h : St w0 M ((b, p) :: l) w) (hb : w.heap[b]? = some (.cells cs t (0, 0))) (hq : q (.cells cs' t (0, 0))) :
    St w0 M ((b, q) :: l) (w.setRow b cs') := by
  refine h.exch (o := .cells cs' t (0, 0)) rfl rfl rfl (by simp [World.setRow]) ?_ hq fun k hk => ?_
  · have hlt := (Array.getElem?_eq_some_iff.1 hb).1
    simp only [World.setRow, Array.getElem?_modify, if_true, hb]
    rfl
  · simp only [World.setRow, Array.getElem?_modify]
    rw [if_neg (fun e => hk e.symm)]

theorem St.setCell {b off : Nat} {t n : Nat} {f : Nat → Value} (h : St w0 M ((b, Row t n f) :: l) w) (ho : off < n) (v : Value) :
    St w0 M ((b, Row t n (upd f off v)) :: l) (w.setCell ⟨b, off, none⟩ v) ∧ w.cell? ⟨b, off, none⟩ = some (f off) ∧ w.frozen? ⟨b, off, none⟩ = false := by
  obtain ⟨o, h1, cs, rfl, h3, h4⟩ := h.get (b, Row t n f) (by simp)
  simp only at h1
  refine ⟨?_, by simp [World.cell?, h1, h4 off ho], by simp [World.frozen?, h1]⟩
  rw [setCell_eq_setRow w b off cs t (0, 0) v h1]
  refine h.setRow h1 ⟨_, rfl, by simp [h3], fun i hi => ?_⟩
  by_cases hio : off = i
  · subst hio; simp [upd_eq, h3, hi]
  · rw [Array.getElem?_setIfInBounds_ne hio, h4 i hi]; simp [upd_eq, Ne.symm hio]

theorem St.cell {b off : Nat} {t n : Nat} {f : Nat → Value} (h : St w0 M l w) (hm : (b, Row t n f) ∈ l) (ho : off < n) : w.cell? ⟨b, off, none⟩ = some (f off) := by
  obtain ⟨o, h1, cs, rfl, h3, h4⟩ := h.get (b, Row t n f) hm
  simp only at h1
  simp [World.cell?, h1, h4 off ho]

/-- A cell of the memory as it was, off the blocks that may be written. -/
theorem St.old {b off : Nat} {v : Value} (h : St w0 M l w) (hM : ¬ M b) (hc : w0.cell? ⟨b, off, none⟩ = some v) : w.cell? ⟨b, off, none⟩ = some v := by
  rw [← hc]
  exact World.cell?_of_block (h.kept b (World.block_lt_of_cell? w0 _ hc) hM)

theorem St.below (h : St w0 (fun _ => False) l w) : Below w0.heap.size w0 w := ⟨h.os, h.tape, h.output, h.size, fun k hk => h.kept k hk (fun h => h)⟩

/-- From one start to an earlier one. -/
theorem St.trans {l' : List HI} {w1 : World} {M1 : Nat → Prop} (h : St w0 M l w) (h' : St w M1 l' w1) (hM : ∀ b, M1 b → M b ∨ w0.heap.size ≤ b) : St w0 M l' w1 := by
  refine ⟨h'.os.trans h.os, h'.tape.trans h.tape, h'.output.trans h.output, Nat.le_trans h.size h'.size, fun k hk hMk => ?_, h'.nodup, h'.get, fun it hi => ?_⟩
  · rw [h'.kept k (Nat.lt_of_lt_of_le hk h.size) (fun h1 => by rcases hM k h1 with h2 | h2; exact hMk h2; omega)]
    exact h.kept k hk hMk
  · rcases h'.own it hi with h1 | h1
    · exact hM _ h1
    · exact .inr (Nat.le_trans h.size h1)
end

section
variable {w0 w : World} {M : Nat → Prop} {l : List HI}
theorem St.c0 {b off t n : Nat} {f : Nat → Value} (h : St w0 M ((b, Row t n f) :: l) w) (ho : off < n) : w.cell? ⟨b, off, none⟩ = some (f off) := h.cell (t := t) (n := n) (by simp) ho
theorem St.c1 {x0 : HI} {b off t n : Nat} {f : Nat → Value} (h : St w0 M (x0 :: (b, Row t n f) :: l) w) (ho : off < n) : w.cell? ⟨b, off, none⟩ = some (f off) := h.cell (t := t) (n := n) (by simp) ho
theorem St.c2 {x0 x1 : HI} {b off t n : Nat} {f : Nat → Value} (h : St w0 M (x0 :: x1 :: (b, Row t n f) :: l) w) (ho : off < n) : w.cell? ⟨b, off, none⟩ = some (f off) := h.cell (t := t) (n := n) (by simp) ho
theorem St.c3 {x0 x1 x2 : HI} {b off t n : Nat} {f : Nat → Value} (h : St w0 M (x0 :: x1 :: x2 :: (b, Row t n f) :: l) w) (ho : off < n) : w.cell? ⟨b, off, none⟩ = some (f off) := h.cell (t := t) (n := n) (by simp) ho
theorem St.c4 {x0 x1 x2 x3 : HI} {b off t n : Nat} {f : Nat → Value} (h : St w0 M (x0 :: x1 :: x2 :: x3 :: (b, Row t n f) :: l) w) (ho : off < n) : w.cell? ⟨b, off, none⟩ = some (f off) := h.cell (t := t) (n := n) (by simp) ho
theorem St.c5 {x0 x1 x2 x3 x4 : HI} {b off t n : Nat} {f : Nat → Value} (h : St w0 M (x0 :: x1 :: x2 :: x3 :: x4 :: (b, Row t n f) :: l) w) (ho : off < n) : w.cell? ⟨b, off, none⟩ = some (f off) := h.cell (t := t) (n := n) (by simp) ho
theorem St.c6 {x0 x1 x2 x3 x4 x5 : HI} {b off t n : Nat} {f : Nat → Value} (h : St w0 M (x0 :: x1 :: x2 :: x3 :: x4 :: x5 :: (b, Row t n f) :: l) w) (ho : off < n) : w.cell? ⟨b, off, none⟩ = some (f off) := h.cell (t := t) (n := n) (by simp) ho
theorem St.c7 {x0 x1 x2 x3 x4 x5 x6 : HI} {b off t n : Nat} {f : Nat → Value} (h : St w0 M (x0 :: x1 :: x2 :: x3 :: x4 :: x5 :: x6 :: (b, Row t n f) :: l) w) (ho : off < n) : w.cell? ⟨b, off, none⟩ = some (f off) := h.cell (t := t) (n := n) (by simp) ho
theorem St.c8 {x0 x1 x2 x3 x4 x5 x6 x7 : HI} {b off t n : Nat} {f : Nat → Value} (h : St w0 M (x0 :: x1 :: x2 :: x3 :: x4 :: x5 :: x6 :: x7 :: (b, Row t n f) :: l) w) (ho : off < n) : w.cell? ⟨b, off, none⟩ = some (f off) := h.cell (t := t) (n := n) (by simp) ho
theorem St.front1 {x0 y : HI} (h : St w0 M (x0 :: y :: l) w) : St w0 M (y :: x0 :: l) w := h.perm (by
  have := (List.perm_middle (a := y) (l₁ := [x0]) (l₂ := l)); simpa using this)
theorem St.back1 {x0 y : HI} (h : St w0 M (y :: x0 :: l) w) : St w0 M (x0 :: y :: l) w := h.perm (by
  have := (List.perm_middle (a := y) (l₁ := [x0]) (l₂ := l)).symm; simpa using this)
theorem St.drop1 {x0 y : HI} (h : St w0 M (x0 :: y :: l) w) : St w0 M (x0 :: l) w := (h.front1).drop
theorem St.front2 {x0 x1 y : HI} (h : St w0 M (x0 :: x1 :: y :: l) w) : St w0 M (y :: x0 :: x1 :: l) w := h.perm (by
  have := (List.perm_middle (a := y) (l₁ := [x0, x1]) (l₂ := l)); simpa using this)
theorem St.back2 {x0 x1 y : HI} (h : St w0 M (y :: x0 :: x1 :: l) w) : St w0 M (x0 :: x1 :: y :: l) w := h.perm (by
  have := (List.perm_middle (a := y) (l₁ := [x0, x1]) (l₂ := l)).symm; simpa using this)
theorem St.drop2 {x0 x1 y : HI} (h : St w0 M (x0 :: x1 :: y :: l) w) : St w0 M (x0 :: x1 :: l) w := (h.front2).drop
theorem St.front3 {x0 x1 x2 y : HI} (h : St w0 M (x0 :: x1 :: x2 :: y :: l) w) : St w0 M (y :: x0 :: x1 :: x2 :: l) w := h.perm (by
  have := (List.perm_middle (a := y) (l₁ := [x0, x1, x2]) (l₂ := l)); simpa using this)
theorem St.back3 {x0 x1 x2 y : HI} (h : St w0 M (y :: x0 :: x1 :: x2 :: l) w) : St w0 M (x0 :: x1 :: x2 :: y :: l) w := h.perm (by
  have := (List.perm_middle (a := y) (l₁ := [x0, x1, x2]) (l₂ := l)).symm; simpa using this)
theorem St.drop3 {x0 x1 x2 y : HI} (h : St w0 M (x0 :: x1 :: x2 :: y :: l) w) : St w0 M (x0 :: x1 :: x2 :: l) w := (h.front3).drop
theorem St.front4 {x0 x1 x2 x3 y : HI} (h : St w0 M (x0 :: x1 :: x2 :: x3 :: y :: l) w) : St w0 M (y :: x0 :: x1 :: x2 :: x3 :: l) w := h.perm (by
  have := (List.perm_middle (a := y) (l₁ := [x0, x1, x2, x3]) (l₂ := l)); simpa using this)
theorem St.back4 {x0 x1 x2 x3 y : HI} (h : St w0 M (y :: x0 :: x1 :: x2 :: x3 :: l) w) : St w0 M (x0 :: x1 :: x2 :: x3 :: y :: l) w := h.perm (by
  have := (List.perm_middle (a := y) (l₁ := [x0, x1, x2, x3]) (l₂ := l)).symm; simpa using this)
theorem St.drop4 {x0 x1 x2 x3 y : HI} (h : St w0 M (x0 :: x1 :: x2 :: x3 :: y :: l) w) : St w0 M (x0 :: x1 :: x2 :: x3 :: l) w := (h.front4).drop
theorem St.front5 {x0 x1 x2 x3 x4 y : HI} (h : St w0 M (x0 :: x1 :: x2 :: x3 :: x4 :: y :: l) w) : St w0 M (y :: x0 :: x1 :: x2 :: x3 :: x4 :: l) w := h.perm (by
  have := (List.perm_middle (a := y) (l₁ := [x0, x1, x2, x3, x4]) (l₂ := l)); simpa using this)
theorem St.back5 {x0 x1 x2 x3 x4 y : HI} (h : St w0 M (y :: x0 :: x1 :: x2 :: x3 :: x4 :: l) w) : St w0 M (x0 :: x1 :: x2 :: x3 :: x4 :: y :: l) w := h.perm (by
  have := (List.perm_middle (a := y) (l₁ := [x0, x1, x2, x3, x4]) (l₂ := l)).symm; simpa using this)
theorem St.drop5 {x0 x1 x2 x3 x4 y : HI} (h : St w0 M (x0 :: x1 :: x2 :: x3 :: x4 :: y :: l) w) : St w0 M (x0 :: x1 :: x2 :: x3 :: x4 :: l) w := (h.front5).drop
theorem St.front6 {x0 x1 x2 x3 x4 x5 y : HI} (h : St w0 M (x0 :: x1 :: x2 :: x3 :: x4 :: x5 :: y :: l) w) : St w0 M (y :: x0 :: x1 :: x2 :: x3 :: x4 :: x5 :: l) w := h.perm (by
  have := (List.perm_middle (a := y) (l₁ := [x0, x1, x2, x3, x4, x5]) (l₂ := l)); simpa using this)
theorem St.back6 {x0 x1 x2 x3 x4 x5 y : HI} (h : St w0 M (y :: x0 :: x1 :: x2 :: x3 :: x4 :: x5 :: l) w) : St w0 M (x0 :: x1 :: x2 :: x3 :: x4 :: x5 :: y :: l) w := h.perm (by
  have := (List.perm_middle (a := y) (l₁ := [x0, x1, x2, x3, x4, x5]) (l₂ := l)).symm; simpa using this)
theorem St.drop6 {x0 x1 x2 x3 x4 x5 y : HI} (h : St w0 M (x0 :: x1 :: x2 :: x3 :: x4 :: x5 :: y :: l) w) : St w0 M (x0 :: x1 :: x2 :: x3 :: x4 :: x5 :: l) w := (h.front6).drop
theorem St.front7 {x0 x1 x2 x3 x4 x5 x6 y : HI} (h : St w0 M (x0 :: x1 :: x2 :: x3 :: x4 :: x5 :: x6 :: y :: l) w) : St w0 M (y :: x0 :: x1 :: x2 :: x3 :: x4 :: x5 :: x6 :: l) w := h.perm (by
  have := (List.perm_middle (a := y) (l₁ := [x0, x1, x2, x3, x4, x5, x6]) (l₂ := l)); simpa using this)
theorem St.back7 {x0 x1 x2 x3 x4 x5 x6 y : HI} (h : St w0 M (y :: x0 :: x1 :: x2 :: x3 :: x4 :: x5 :: x6 :: l) w) : St w0 M (x0 :: x1 :: x2 :: x3 :: x4 :: x5 :: x6 :: y :: l) w := h.perm (by
  have := (List.perm_middle (a := y) (l₁ := [x0, x1, x2, x3, x4, x5, x6]) (l₂ := l)).symm; simpa using this)
theorem St.drop7 {x0 x1 x2 x3 x4 x5 x6 y : HI} (h : St w0 M (x0 :: x1 :: x2 :: x3 :: x4 :: x5 :: x6 :: y :: l) w) : St w0 M (x0 :: x1 :: x2 :: x3 :: x4 :: x5 :: x6 :: l) w := (h.front7).drop
theorem St.front8 {x0 x1 x2 x3 x4 x5 x6 x7 y : HI} (h : St w0 M (x0 :: x1 :: x2 :: x3 :: x4 :: x5 :: x6 :: x7 :: y :: l) w) : St w0 M (y :: x0 :: x1 :: x2 :: x3 :: x4 :: x5 :: x6 :: x7 :: l) w := h.perm (by
  have := (List.perm_middle (a := y) (l₁ := [x0, x1, x2, x3, x4, x5, x6, x7]) (l₂ := l)); simpa using this)
theorem St.back8 {x0 x1 x2 x3 x4 x5 x6 x7 y : HI} (h : St w0 M (y :: x0 :: x1 :: x2 :: x3 :: x4 :: x5 :: x6 :: x7 :: l) w) : St w0 M (x0 :: x1 :: x2 :: x3 :: x4 :: x5 :: x6 :: x7 :: y :: l) w := h.perm (by
  have := (List.perm_middle (a := y) (l₁ := [x0, x1, x2, x3, x4, x5, x6, x7]) (l₂ := l)).symm; simpa using this)
theorem St.drop8 {x0 x1 x2 x3 x4 x5 x6 x7 y : HI} (h : St w0 M (x0 :: x1 :: x2 :: x3 :: x4 :: x5 :: x6 :: x7 :: y :: l) w) : St w0 M (x0 :: x1 :: x2 :: x3 :: x4 :: x5 :: x6 :: x7 :: l) w := (h.front8).drop
end

end Go.E1
