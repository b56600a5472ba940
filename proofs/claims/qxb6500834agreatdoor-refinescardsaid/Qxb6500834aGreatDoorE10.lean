/-
  E10: ranging over a map of the call's own; comparisons besides integers; strings; assertions. No project text.
-/
import Derived.Test.Qxb6500834aGreatDoorE9
set_option linter.unusedSimpArgs false
set_option linter.unusedVariables false
namespace Go.E1
open Go.RowKit Go.MapKept

section
variable {P : Program} {ops : Array Oper} {Q : Exit → Act → World → Prop} {n : Nat} {ds : List Deferred} {rest : List Oper} {e : Env} {w w0 : World} {M : Nat → Prop} {l : List HI}
variable {d : Nat} {ty : TypeId} {pos : String} {af : Array Edge} {g : Option (Nat × Bool)} {x y z : Operand}

/-- What is known of a map's entries while it is ranged over. -/
structure Ent (good : Value → Prop) (G : Value → Option Value) (es : Array MapEntry) (clock : Nat) : Prop where
  stamped : Stamped es clock
  holds : ∀ x ∈ es.toList, good x.key ∧ G x.key = some x.val
  all : ∀ v u, G v = some u → ∃ x ∈ es.toList, x.key = v

theorem Ent.mapV {good : Value → Prop} {G : Value → Option Value} {es : Array MapEntry} {clock : Nat} (h : Ent good G es clock) {o : Obj} (ho : Is (.map es clock) o) : MapV good G o :=
  ⟨es, clock, ho, h.stamped, h.holds, h.all⟩

theorem WL.range {T kt et b : Nat} {good : Value → Prop} {G : Value → Option Value} (st : St w0 M ((b, MapV good G) :: l) w) (hT : mpT P T = some (kt, et)) (hx : ev e x = .map (some b)) (hc : okX e x = true) (hn : Nat.blt d n = true) (hg : wantE ops e g = true)
    (k : ∀ es clock r w', Ent good G es clock → St w0 M ((r, Is (.mapIter (some b) clock #[] clock)) :: (b, Is (.map es clock)) :: l) w' → WL P ops Q n ds rest ((d, .pointer (some ⟨r, 0, none⟩)) :: e) w') :
    WL P ops Q n ds (⟨some d, .range T x, ty, pos, af, g⟩ :: rest) e w := by
  have hu := mpT_spec hT
  obtain ⟨o, hb, es, clock, rfl, hs, h1, h2⟩ := st.get (b, MapV good G) (by simp)
  simp only at hb
  have st1 : St w0 M ((b, Is (.map es clock)) :: l) w := st.exch (o := .map es clock) rfl rfl rfl rfl hb rfl (fun _ _ => rfl)
  refine WL.v (v := .pointer (some ⟨w.heap.size, 0, none⟩)) (w' := w.alloc (.mapIter (some b) clock #[] clock)) ?_ (by simpa [cov, noSel, Op.operands] using hc) hn hg (k es clock _ _ ⟨hs, h1, h2⟩ (st1.alloc _ rfl))
  simp only [execOp, hx, Sem.run_bind, run_range_map w T kt et b es clock hu hb]
  rfl

/-- How many entries are still to come. -/
def unseen (es : Array MapEntry) (seen : Array Nat) : Nat := (es.toList.filter fun e => !seen.contains e.born).length

theorem unseen_push {es : Array MapEntry} {seen : Array Nat} {x : MapEntry} (hx : x ∈ es.toList) (hs : seen.contains x.born = false) : unseen es (seen.push x.born) < unseen es seen := by
  unfold unseen
  have h1 : (es.toList.filter fun e => !(seen.push x.born).contains e.born) = (es.toList.filter fun e => !seen.contains e.born).filter (fun e => !(e.born == x.born)) := by
    rw [List.filter_filter]
    apply List.filter_congr
    intro e _
    have : (seen.push x.born).contains e.born = (seen.contains e.born || (e.born == x.born)) := by
      rw [Bool.eq_iff_iff]
      simp only [Array.contains_iff_mem, Array.mem_push, Bool.or_eq_true, beq_iff_eq]
    rw [this]
    cases seen.contains e.born <;> cases (e.born == x.born) <;> rfl
  rw [h1]
  have hm : x ∈ es.toList.filter fun e => !seen.contains e.born := List.mem_filter.2 ⟨hx, by rw [hs]; rfl⟩
  generalize (es.toList.filter fun e => !seen.contains e.born) = L at hm ⊢
  have : (L.filter fun e => !(e.born == x.born)).length ≠ L.length := fun h => by
    have := List.length_filter_eq_length_iff.1 h x hm
    simp at this
  have := List.length_filter_le (fun e : MapEntry => !(e.born == x.born)) L
  omega

theorem run_mnext {b r clock : Nat} {seen : Array Nat} {es : Array MapEntry} {good : Value → Prop} {G : Value → Option Value} (hE : Ent good G es clock)
    (st : St w0 M ((r, Is (.mapIter (some b) clock seen clock)) :: (b, Is (.map es clock)) :: l) w) :
    ((∀ x ∈ es.toList, seen.contains x.born = true) ∧ (Instr.next (.pointer (some ⟨r, 0, none⟩)) false ty).run P w = .ok (.tuple #[.bool false]) w) ∨
    ∃ x ∈ es.toList, seen.contains x.born = false ∧ ∃ w', (Instr.next (.pointer (some ⟨r, 0, none⟩)) false ty).run P w = .ok (.tuple #[.bool true, x.key, x.val]) w' ∧
      St w0 M ((r, Is (.mapIter (some b) clock (seen.push x.born) clock)) :: (b, Is (.map es clock)) :: l) w' := by
  obtain ⟨o1, hr, ho1⟩ := st.get (r, Is (.mapIter (some b) clock seen clock)) (by simp)
  obtain ⟨o2, hb, ho2⟩ := st.get (b, Is (.map es clock)) (by simp)
  simp only [Is] at ho1 ho2 hr hb
  subst ho1 ho2
  have hold : ∀ x ∈ es.toList, x.born < clock := hE.stamped.1
  simp only [Instr.next, getObj, Sem.run_bind, Sem.run, hr, hb, Result.andThen, next_test_false seen es clock clock hold (Nat.le_refl _), Bool.false_eq_true, if_false]
  have hmem : ∀ x ∈ (Array.filter (fun e => !seen.contains e.born) es).toList, x ∈ es.toList ∧ seen.contains x.born = false := fun x hx => by
    rw [Array.toList_filter] at hx
    have := List.mem_filter.1 hx
    exact ⟨this.1, by simpa using this.2⟩
  have hback : ∀ x ∈ es.toList, seen.contains x.born = false → x ∈ (Array.filter (fun e => !seen.contains e.born) es).toList := fun x hx hs => by
    rw [Array.toList_filter]
    exact List.mem_filter.2 ⟨hx, by rw [hs]; rfl⟩
  generalize Array.filter (fun e => !seen.contains e.born) es = L at hmem hback ⊢
  have e1 : L.filter (fun x => decide (x.born < clock)) = L := Array.filter_eq_self.2 (fun x hx => by simpa using hold x (hmem x (by simpa using hx)).1)
  have e2 : L.filter (fun x => decide (x.born ≥ clock)) = #[] := by
    rw [Array.filter_eq_empty_iff]
    intro x hx
    have := hold x (hmem x (by simpa using hx)).1
    simp
    omega
  simp only [e1, e2, Array.append_empty]
  by_cases h0 : L.size = 0
  · left
    have : L = #[] := Array.eq_empty_of_size_eq_zero h0
    subst this
    refine ⟨fun x hx => ?_, ?_⟩
    · cases hc : seen.contains x.born
      · have := hback x hx hc; simp at this
      · rfl
    · simp [choose, Sem.run, Question.forced]
  · right
    have hne : L.isEmpty = false := by simp [Array.isEmpty, h0]
    simp only [hne, Bool.false_eq_true, if_false, Array.empty_append, Array.size_map]
    have hch : ∃ (j : Nat) (w1 : World), j < L.size ∧ w1.heap = w.heap ∧ w1.os = w.os ∧ w1.tape = w.tape ∧ w1.output = w.output ∧ (choose (Question.mapNext L.size)).run P w = .ok j w1 := by
      by_cases hf : L.size ≤ 1
      · exact ⟨0, w, by omega, rfl, rfl, rfl, rfl, by simp [choose, Sem.run, Question.forced, hf]⟩
      · exact ⟨_, w.drew, Nat.mod_lt _ (by omega), rfl, rfl, rfl, rfl, by
          simp only [choose, Sem.run, Question.forced, decide_eq_true_eq, hf, if_false, Question.cut]
          rfl⟩
    obtain ⟨j, w1, hj, hh, hos, htp, hout, hrun⟩ := hch
    have hLj := hmem L[j] (by simp)
    have hr1 : w1.heap[r]? = some (.mapIter (some b) clock seen clock) := by rw [hh]; exact hr
    refine ⟨L[j], hLj.1, hLj.2, { w1 with heap := w1.heap.setIfInBounds r (.mapIter (some b) clock (seen.push L[j].born) clock) }, ?_, ?_⟩
    · have hset : ∀ o', (setObj r o').run P w1 = .ok () { w1 with heap := w1.heap.setIfInBounds r o' } := fun o' => by simp [setObj, Sem.run, hr1]
      simp only [hrun, Array.getElem?_map, Array.getElem?_eq_getElem hj, Option.map_some, Sem.run_bind, hset, Result.andThen]
      rfl
    · exact st.exch (o := .mapIter (some b) clock (seen.push L[j].born) clock) hos htp hout (by simp [hh]) (by have := (Array.getElem?_eq_some_iff.1 hr1).1; simp [this]) rfl
        (fun k hk => by rw [show ({ w1 with heap := w1.heap.setIfInBounds r (.mapIter (some b) clock (seen.push L[j].born) clock) } : World).heap = w1.heap.setIfInBounds r (.mapIter (some b) clock (seen.push L[j].born) clock) from rfl, Array.getElem?_setIfInBounds_ne (Ne.symm hk), hh])

theorem WL.mnext {b r clock : Nat} {seen : Array Nat} {es : Array MapEntry} {good : Value → Prop} {G : Value → Option Value} (hE : Ent good G es clock)
    (st : St w0 M ((r, Is (.mapIter (some b) clock seen clock)) :: (b, Is (.map es clock)) :: l) w) (hx : ev e x = .pointer (some ⟨r, 0, none⟩)) (hc : okX e x = true) (hn : Nat.blt d n = true) (hg : wantE ops e g = true)
    (k1 : (∀ x ∈ es.toList, seen.contains x.born = true) → WL P ops Q n ds rest ((d, .tuple #[.bool false]) :: e) w)
    (k2 : ∀ x w', x ∈ es.toList → seen.contains x.born = false → St w0 M ((r, Is (.mapIter (some b) clock (seen.push x.born) clock)) :: (b, Is (.map es clock)) :: l) w' → WL P ops Q n ds rest ((d, .tuple #[.bool true, x.key, x.val]) :: e) w') :
    WL P ops Q n ds (⟨some d, .next x false, ty, pos, af, g⟩ :: rest) e w := by
  rcases run_mnext (P := P) (ty := ty) hE st with ⟨h1, h2⟩ | ⟨x0, h1, h2, w', h3, h4⟩
  · refine WL.v (v := .tuple #[.bool false]) (w' := w) ?_ (by simpa [cov, noSel, Op.operands] using hc) hn hg (k1 h1)
    simp only [execOp, hx, Sem.run_bind, h2]; rfl
  · refine WL.v (v := .tuple #[.bool true, x0.key, x0.val]) (w' := w') ?_ (by simpa [cov, noSel, Op.operands] using hc) hn hg (k2 x0 w' h1 h2 h4)
    simp only [execOp, hx, Sem.run_bind, h3]; rfl

/-- The entry that the step has come to. -/
theorem r_mentry {ρ : Operand → Value} {d : Option Tmp} {b r clock : Nat} {seen : Array Nat} {es : Array MapEntry} {good : Value → Prop} {G : Value → Option Value} {x0 : MapEntry} (hE : Ent good G es clock) (hx0 : x0 ∈ es.toList)
    (st : St w0 M ((r, Is (.mapIter (some b) clock (seen.push x0.born) clock)) :: (b, Is (.map es clock)) :: l) w) (hx : ρ x = .pointer (some ⟨r, 0, none⟩)) :
    (execOp ρ ⟨d, .entry x, ty, pos, af, g⟩).run P w = .ok (.value (.tuple #[x0.key, x0.val])) w := by
  obtain ⟨o1, hr, ho1⟩ := st.get (r, Is (.mapIter (some b) clock (seen.push x0.born) clock)) (by simp)
  obtain ⟨o2, hb, ho2⟩ := st.get (b, Is (.map es clock)) (by simp)
  simp only [Is] at ho1 ho2 hr hb
  subst ho1 ho2
  have hf : es.find? (fun e => e.born == x0.born) = some x0 := by
    rw [← Array.find?_toList]; exact find_born x0 es.toList hE.stamped.2.1 hx0
  simp [execOp, hx, Instr.entry, getObj, Sem.run, hr, hb, hf]
end

/-! ### Comparisons -/

section
variable {P : Program} {ρ : Operand → Value} {w : World} {d : Option Tmp} {ty : TypeId} {pos : String} {af : Array Edge} {g : Option (Nat × Bool)} {x y z : Operand} {t : Bool}

theorem run_equal_bool {T : TypeId} {a b : Bool} (hT : P.underlying T = some .bool) : (Op.equal T (.bool a) (.bool b)).run P w = .ok (a == b) w := by
  show (Op.equalIn (9999 + 1) T (.bool a) (.bool b)).run P w = _
  unfold Op.equalIn
  rw [Sem.run_bind, run_underlying hT]
  rfl
theorem r_beql {T T' : TypeId} {a b : Bool} (hT : P.underlying T = some .bool) (hx : ρ x = .bool a) (hy : ρ y = .bool b) (ht : (a == b) = t) : (execOp ρ ⟨d, .binOp .eql T x y T', ty, pos, af, g⟩).run P w = .ok (.value (.bool t)) w := by
  subst ht
  simp [execOp, hx, hy, eqGuard, binOp, run_equal_bool hT]
theorem r_bneq {T T' : TypeId} {a b : Bool} (hT : P.underlying T = some .bool) (hx : ρ x = .bool a) (hy : ρ y = .bool b) (ht : (!(a == b)) = t) : (execOp ρ ⟨d, .binOp .neq T x y T', ty, pos, af, g⟩).run P w = .ok (.value (.bool t)) w := by
  subst ht
  simp [execOp, hx, hy, eqGuard, binOp, run_equal_bool hT]

theorem r_seql {T T' : TypeId} {a b : ByteArray} (hx : ρ x = .string a) (hy : ρ y = .string b) (ht : (a.toList == b.toList) = t) : (execOp ρ ⟨d, .binOp .eql T x y T', ty, pos, af, g⟩).run P w = .ok (.value (.bool t)) w := by
  subst ht; simp [execOp, hx, hy, eqGuard, binOp, Op.stringOp, go_sem]
theorem r_sneq {T T' : TypeId} {a b : ByteArray} (hx : ρ x = .string a) (hy : ρ y = .string b) (ht : (!(a.toList == b.toList)) = t) : (execOp ρ ⟨d, .binOp .neq T x y T', ty, pos, af, g⟩).run P w = .ok (.value (.bool t)) w := by
  subst ht; simp [execOp, hx, hy, eqGuard, binOp, Op.stringOp, go_sem]
theorem r_slss {T T' : TypeId} {a b : ByteArray} (hx : ρ x = .string a) (hy : ρ y = .string b) (ht : Op.bytesLess a.toList b.toList = t) : (execOp ρ ⟨d, .binOp .lss T x y T', ty, pos, af, g⟩).run P w = .ok (.value (.bool t)) w := by
  subst ht; simp [execOp, hx, hy, eqGuard, binOp, Op.stringOp, go_sem]
theorem r_sgeq {T T' : TypeId} {a b : ByteArray} (hx : ρ x = .string a) (hy : ρ y = .string b) (ht : (!Op.bytesLess a.toList b.toList) = t) : (execOp ρ ⟨d, .binOp .geq T x y T', ty, pos, af, g⟩).run P w = .ok (.value (.bool t)) w := by
  subst ht; simp [execOp, hx, hy, eqGuard, binOp, Op.stringOp, go_sem]

/-- An interface type. -/
def ifcT (P : Program) (T : Nat) : Bool :=
  match P.underlying T with
  | some (.interface _) => true
  | _ => false
theorem ifcT_spec {T : Nat} (h : ifcT P T = true) : ∃ ms, P.underlying T = some (.interface ms) := by
  unfold ifcT at h
  split at h
  · rename_i ms hu; exact ⟨ms, hu⟩
  · cases h

end

section
variable {P : Program} {e : Env} {w : World} {d : Option Tmp} {ty : TypeId} {pos : String} {af : Array Edge} {g : Option (Nat × Bool)} {x : Operand}

theorem run_equal_ii {T : TypeId} {ms : Array (String × TypeId)} (hu : P.underlying T = some (.interface ms)) : (Op.equal T .nilIface .nilIface).run P w = .ok true w := by
  show (Op.equalIn (9999 + 1) T .nilIface .nilIface).run P w = _
  unfold Op.equalIn
  rw [Sem.run_bind, run_underlying hu]
  rfl
theorem run_equal_vi {T u : TypeId} {v : Value} {ms : Array (String × TypeId)} (hu : P.underlying T = some (.interface ms)) : (Op.equal T (.iface u v) .nilIface).run P w = .ok false w := by
  show (Op.equalIn (9999 + 1) T (.iface u v) .nilIface).run P w = _
  unfold Op.equalIn
  rw [Sem.run_bind, run_underlying hu]
  rfl

theorem r_nil_eql {T T' : TypeId} (hT : ifcT P T = true) (hx : ev e x = .nilIface) : (execOp (ev e) ⟨d, .binOp .eql T x (.const .nilIface) T', ty, pos, af, g⟩).run P w = .ok (.value (.bool true)) w := by
  obtain ⟨ms, hu⟩ := ifcT_spec hT
  have hy : ev e (.const .nilIface) = .nilIface := rfl
  simp [execOp, hx, hy, eqGuard, binOp, run_equal_ii hu, run_equal_vi hu]
theorem r_nil_neq {T T' : TypeId} (hT : ifcT P T = true) (hx : ev e x = .nilIface) : (execOp (ev e) ⟨d, .binOp .neq T x (.const .nilIface) T', ty, pos, af, g⟩).run P w = .ok (.value (.bool false)) w := by
  obtain ⟨ms, hu⟩ := ifcT_spec hT
  have hy : ev e (.const .nilIface) = .nilIface := rfl
  simp [execOp, hx, hy, eqGuard, binOp, run_equal_ii hu, run_equal_vi hu]
theorem r_some_eql {T T' u : TypeId} {v : Value} (hT : ifcT P T = true) (hx : ev e x = .iface u v) : (execOp (ev e) ⟨d, .binOp .eql T x (.const .nilIface) T', ty, pos, af, g⟩).run P w = .ok (.value (.bool false)) w := by
  obtain ⟨ms, hu⟩ := ifcT_spec hT
  have hy : ev e (.const .nilIface) = .nilIface := rfl
  simp [execOp, hx, hy, eqGuard, binOp, run_equal_ii hu, run_equal_vi hu]
theorem r_some_neq {T T' u : TypeId} {v : Value} (hT : ifcT P T = true) (hx : ev e x = .iface u v) : (execOp (ev e) ⟨d, .binOp .neq T x (.const .nilIface) T', ty, pos, af, g⟩).run P w = .ok (.value (.bool true)) w := by
  obtain ⟨ms, hu⟩ := ifcT_spec hT
  have hy : ev e (.const .nilIface) = .nilIface := rfl
  simp [execOp, hx, hy, eqGuard, binOp, run_equal_ii hu, run_equal_vi hu]
end

end Go.E1
