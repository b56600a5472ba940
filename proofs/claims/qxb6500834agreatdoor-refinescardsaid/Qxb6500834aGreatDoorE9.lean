/-
  E9: maps that the program's own call has made. No project text.
-/
import Derived.Test.Qxb6500834aGreatDoorE8
import Derived.Maps.Keyed
import Derived.WideKeyEntry
set_option linter.unusedSimpArgs false
set_option linter.unusedVariables false
namespace Go.E1
open Go.RowKit Go.MapKept

/-- What the laws need of a key's type. -/
structure KB (P : Program) (kt : TypeId) (good : Value → Prop) : Prop where
  check : ∀ (w : World) (em : Bool) (v : Value), good v → (Instr.checkKey em 10000 kt v).run P w = .ok () w
  find : ∀ (w : World) (x : Value), good x → ∀ es : List MapEntry, (∀ e ∈ es, good e.key) →
    ((Instr.findKey kt x es).run P w = .ok none w ∧ ∀ e ∈ es, e.key ≠ x) ∨ ∃ j e, (Instr.findKey kt x es).run P w = .ok (some (j, e.val)) w ∧ es[j]? = some e ∧ e.key = x
  stays : ∀ (w : World) (v : Value), good v → (Instr.keyThatStays v v).run P w = .ok v w

def keyGood (P : Program) (kt : TypeId) (v : Value) : Prop := ∃ l, keyOf P kt v = some l

theorem KB.of_keyed {P : Program} {kt : TypeId} (K : Maps.Keyed P kt) : KB P kt (keyGood P kt) where
  check w em v h := let ⟨l, hl⟩ := h; K.check w em hl
  find w x h es hes := let ⟨l, hl⟩ := h; K.find w hl es hes
  stays w v h := let ⟨l, hl⟩ := h; K.stays w hl

/-- A map that holds 'G'. -/
def MapV (good : Value → Prop) (G : Value → Option Value) (o : Obj) : Prop :=
  ∃ es clock, o = .map es clock ∧ Stamped es clock ∧ (∀ x ∈ es.toList, good x.key ∧ G x.key = some x.val) ∧ (∀ v u, G v = some u → ∃ x ∈ es.toList, x.key = v)

def Is (a : Obj) (o : Obj) : Prop := o = a

theorem mapV_empty (good : Value → Prop) (c : Nat) : MapV good (fun _ => none) (.map #[] c) := ⟨#[], c, rfl, stamped_empty c, by simp, by simp⟩

/-- One entry set. -/
def SetG (G : Value → Option Value) (k v : Value) (G' : Value → Option Value) : Prop := G' k = some v ∧ ∀ x, x ≠ k → G' x = G x

theorem setG_exists (G : Value → Option Value) (k v : Value) : ∃ G', SetG G k v G' := by
  refine ⟨fun x => @ite _ (x = k) (Classical.propDecidable _) (some v) (G x), ?_, fun x hx => ?_⟩
  · simp
  · simp [hx]

theorem MapV.congr {good : Value → Prop} {G G' : Value → Option Value} {o : Obj} (h : MapV good G o) (hG : ∀ v, G v = G' v) : MapV good G' o := by
  have : G = G' := funext hG
  rw [← this]; exact h

section
variable {P : Program} {ρ : Operand → Value} {w w0 : World} {M : Nat → Prop} {l : List HI} {d : Option Tmp} {ty : TypeId} {pos : String} {af : Array Edge} {g : Option (Nat × Bool)} {x y z : Operand}

/-- A map type: key's type, element's type. -/
def mpT (P : Program) (T : Nat) : Option (Nat × Nat) :=
  match P.underlying T with
  | some (.map k e) => some (k, e)
  | _ => none

theorem mpT_spec {T k e : Nat} (h : mpT P T = some (k, e)) : P.underlying T = some (.map k e) := by
  unfold mpT at h
  split at h
  · rename_i k' e' hu
    simp only [Option.some.injEq, Prod.mk.injEq] at h
    obtain ⟨rfl, rfl⟩ := h
    exact hu
  · cases h

/-- One value's zero. -/
def zero1 (P : Program) (T : Nat) : Option Value := (P.info? T).bind (·.zero)

theorem zero1_spec {T : Nat} {z : Value} (h : zero1 P T = some z) (w : World) : (zeroValue T).run P w = .ok z w := by
  unfold zero1 at h
  cases hi : P.info? T with
  | none => rw [hi] at h; simp at h
  | some i => rw [hi] at h; simp at h; simp [zeroValue, typeInfo, hi, h, go_sem]

theorem look_found {kt : TypeId} {good : Value → Prop} (K : KB P kt good) {G : Value → Option Value} {es : Array MapEntry}
    (h1 : ∀ x ∈ es.toList, good x.key ∧ G x.key = some x.val) (h2 : ∀ v u, G v = some u → ∃ x ∈ es.toList, x.key = v) {key : Value} (hk : good key) (w : World) :
    (G key = none ∧ (Instr.findKey kt key es.toList).run P w = .ok none w ∧ ∀ x ∈ es.toList, x.key ≠ key) ∨
    ∃ j e0, (Instr.findKey kt key es.toList).run P w = .ok (some (j, e0.val)) w ∧ es.toList[j]? = some e0 ∧ e0.key = key ∧ G key = some e0.val := by
  rcases K.find w key hk es.toList (fun e he => (h1 e he).1) with ⟨a, b⟩ | ⟨j, e0, a, b, c⟩
  · refine .inl ⟨?_, a, b⟩
    cases hG : G key with
    | none => rfl
    | some u => obtain ⟨x, hx, he⟩ := h2 key u hG; exact absurd he (b x hx)
  · refine .inr ⟨j, e0, a, b, c, ?_⟩
    rw [← c]
    exact (h1 e0 (List.mem_of_getElem? b)).2

theorem run_lookup {T kt et b : Nat} {good : Value → Prop} {G : Value → Option Value} {zv : Value} (K : KB P kt good) (hT : mpT P T = some (kt, et)) (hz : zero1 P et = some zv) {o : Obj} (hb : w.heap[b]? = some o) (hm : MapV good G o) {key : Value} (hk : good key) (ok : Bool) :
    (Instr.lookup T (.map (some b)) key ok).run P w = .ok (if ok then .tuple #[(G key).getD zv, .bool (G key).isSome] else (G key).getD zv) w := by
  obtain ⟨es, clock, rfl, hs, h1, h2⟩ := hm
  have hu := mpT_spec hT
  rcases look_found K h1 h2 hk w with ⟨a, c, _⟩ | ⟨j, e0, a, _, _, c⟩
  · simp [Instr.lookup, run_underlying hu, MapKept.run_getObj_map hb, K.check w _ key hk, c, zero1_spec hz, a]
  · simp [Instr.lookup, run_underlying hu, MapKept.run_getObj_map hb, K.check w _ key hk, a, c]

/-- 'm[k]'. -/
theorem r_look {T kt et b : Nat} {good : Value → Prop} {G : Value → Option Value} {zv key v : Value} (K : KB P kt good) (hT : mpT P T = some (kt, et)) (hz : zero1 P et = some zv) (hx : ρ x = .map (some b)) (hy : ρ y = key)
    (st : St w0 M l w) (hm : (b, MapV good G) ∈ l) (hk : good key) (hv : (G key).getD zv = v) : (execOp ρ ⟨d, .lookup T x y false, ty, pos, af, g⟩).run P w = .ok (.value v) w := by
  obtain ⟨o, h1, h2⟩ := st.get _ hm
  have := run_lookup (w := w) K hT hz h1 h2 hk false
  simp only [Bool.false_eq_true, if_false] at this
  simp only [execOp, hx, hy, Sem.run_bind, this, hv]
  rfl

/-- 'v, ok := m[k]'. -/
theorem r_lookok {T kt et b : Nat} {good : Value → Prop} {G : Value → Option Value} {zv key v : Value} {t : Bool} (K : KB P kt good) (hT : mpT P T = some (kt, et)) (hz : zero1 P et = some zv) (hx : ρ x = .map (some b)) (hy : ρ y = key)
    (st : St w0 M l w) (hm : (b, MapV good G) ∈ l) (hk : good key) (hv : (G key).getD zv = v) (ht : (G key).isSome = t) : (execOp ρ ⟨d, .lookup T x y true, ty, pos, af, g⟩).run P w = .ok (.value (.tuple #[v, .bool t])) w := by
  obtain ⟨o, h1, h2⟩ := st.get _ hm
  have := run_lookup (w := w) K hT hz h1 h2 hk true
  simp only [if_true] at this
  simp only [execOp, hx, hy, Sem.run_bind, this, hv, ht]
  rfl
end

section
variable {P : Program} {ops : Array Oper} {Q : Exit → Act → World → Prop} {n : Nat} {ds : List Deferred} {rest : List Oper} {e : Env} {w w0 : World} {M : Nat → Prop} {l : List HI}
variable {d : Nat} {ty : TypeId} {pos : String} {af : Array Edge} {g : Option (Nat × Bool)} {x y z : Operand}

/-- 'make(map[K]V)'. -/
theorem WL.mkmap {T : Nat} (good : Value → Prop) (st : St w0 M l w) (hn : Nat.blt d n = true) (hg : wantE ops e g = true)
    (k : ∀ b w', St w0 M ((b, MapV good fun _ => none) :: l) w' → WL P ops Q n ds rest ((d, .map (some b)) :: e) w') : WL P ops Q n ds (⟨some d, .makeMap T none, ty, pos, af, g⟩ :: rest) e w :=
  WL.v (v := .map (some w.heap.size)) (w' := w.alloc (.map #[] 0)) (by simp [execOp, Instr.makeMap, go_sem]) rfl hn hg (k _ _ (st.alloc _ (mapV_empty good 0)))

theorem st_setObj {b : Nat} {p q : Obj → Prop} {o o' : Obj} (h : St w0 M ((b, p) :: l) w) (hb : w.heap[b]? = some o) (hq : q o') : St w0 M ((b, q) :: l) { w with heap := w.heap.setIfInBounds b o' } :=
  h.exch (o := o') rfl rfl rfl (by simp) (heap_set hb).1 hq (fun k hk => (heap_set hb).2 k hk)

theorem mapV_push {good : Value → Prop} {G : Value → Option Value} {es : Array MapEntry} {clock : Nat} {key val : Value} (hs : Stamped es clock) (h1 : ∀ x ∈ es.toList, good x.key ∧ G x.key = some x.val)
    (h2 : ∀ v u, G v = some u → ∃ x ∈ es.toList, x.key = v) (hk : good key) (hne : ∀ x ∈ es.toList, x.key ≠ key) {G' : Value → Option Value} (hS : SetG G key val G') : MapV good G' (.map (es.push ⟨key, val, clock⟩) (clock + 1)) := by
  refine ⟨_, _, rfl, stamped_push hs hne, fun x hx => ?_, fun v u hv => ?_⟩
  · simp only [Array.toList_push, List.mem_append, List.mem_singleton] at hx
    rcases hx with hx | rfl
    · exact ⟨(h1 x hx).1, by rw [hS.2 _ (hne x hx)]; exact (h1 x hx).2⟩
    · exact ⟨hk, hS.1⟩
  · by_cases hvk : v = key
    · subst hvk; exact ⟨⟨v, val, clock⟩, by simp, rfl⟩
    · rw [hS.2 v hvk] at hv
      obtain ⟨x, hx, he⟩ := h2 v u hv
      exact ⟨x, by simp [hx], he⟩

theorem mapV_modify {good : Value → Prop} {G : Value → Option Value} {es : Array MapEntry} {clock j : Nat} {key val : Value} {e0 : MapEntry} (hs : Stamped es clock) (h1 : ∀ x ∈ es.toList, good x.key ∧ G x.key = some x.val)
    (h2 : ∀ v u, G v = some u → ∃ x ∈ es.toList, x.key = v) (hk : good key) (hj : es.toList[j]? = some e0) (he0 : e0.key = key) {G' : Value → Option Value} (hS : SetG G key val G') : MapV good G' (.map (es.modify j fun e => { e with key := key, val := val }) clock) := by
  have hj' : es[j]? = some e0 := by simpa using hj
  have hs' := stamped_modify hs j (fun e => { e with key := key, val := val }) (fun e _ => rfl) (fun e _ hej => by rw [hj'] at hej; cases hej; exact he0.symm)
  have hget : ∀ i, (es.modify j fun e => { e with key := key, val := val })[i]? = if j = i then (es[i]?).map (fun e => { e with key := key, val := val }) else es[i]? := fun i => by rw [Array.getElem?_modify]
  have hkeyj : ∀ i x, es[i]? = some x → x.key = key → i = j := fun i x hi hx => by
    have hnd := hs.2.2
    have a1 : (es.toList.map (·.key))[i]? = some key := by simp [hi, hx]
    have a2 : (es.toList.map (·.key))[j]? = some key := by simp [hj', he0]
    have hi' : i < (es.toList.map (·.key)).length := (List.getElem?_eq_some_iff.1 a1).1
    exact (List.getElem?_inj hi' hnd).1 (a1.trans a2.symm)
  refine ⟨_, _, rfl, hs', fun x hx => ?_, fun v u hv => ?_⟩
  · obtain ⟨i, hi⟩ := List.mem_iff_getElem?.1 hx
    rw [Array.getElem?_toList, hget i] at hi
    by_cases hij : j = i
    · subst hij
      rw [if_pos rfl, hj'] at hi
      simp at hi
      subst hi
      exact ⟨hk, hS.1⟩
    · rw [if_neg hij] at hi
      have hx' : x ∈ es.toList := List.mem_iff_getElem?.2 ⟨i, by simpa using hi⟩
      refine ⟨(h1 x hx').1, ?_⟩
      rw [hS.2 _ (fun h => hij (hkeyj i x hi h).symm)]
      exact (h1 x hx').2
  · by_cases hvk : v = key
    · subst hvk
      exact ⟨{ e0 with key := v, val := val }, List.mem_iff_getElem?.2 ⟨j, by rw [Array.getElem?_toList, hget j, if_pos rfl, hj']; rfl⟩, rfl⟩
    · rw [hS.2 v hvk] at hv
      obtain ⟨x, hx, he⟩ := h2 v u hv
      obtain ⟨i, hi⟩ := List.mem_iff_getElem?.1 hx
      have hij : ¬ j = i := fun h => by
        subst h
        rw [hj] at hi; cases hi
        exact hvk (he.symm.trans he0)
      exact ⟨x, List.mem_iff_getElem?.2 ⟨i, by rw [Array.getElem?_toList, hget i, if_neg hij]; simpa using hi⟩, he⟩

/-- 'm[k] = v'. -/
theorem WL.mapSet {T kt et b : Nat} {good : Value → Prop} {G : Value → Option Value} {key val : Value} (K : KB P kt good) (st : St w0 M ((b, MapV good G) :: l) w) (hT : mpT P T = some (kt, et))
    (hx : ev e x = .map (some b)) (hy : ev e y = key) (hz : ev e z = val) (hk : good key) (hc : (okX e x && (okX e y && okX e z)) = true) (hg : wantE ops e g = true)
    (k : ∀ G' w', SetG G key val G' → St w0 M ((b, MapV good G') :: l) w' → WL P ops Q n ds rest e w') : WL P ops Q n ds (⟨none, .mapUpdate T x y z, ty, pos, af, g⟩ :: rest) e w := by
  have hu := mpT_spec hT
  obtain ⟨o, hb, es, clock, rfl, hs, h1, h2⟩ := st.get (b, MapV good G) (by simp)
  simp only at hb
  obtain ⟨G', hS⟩ := setG_exists G key val
  rcases look_found K h1 h2 hk w with ⟨a, c, hne⟩ | ⟨j, e0, a, hj, he0, c⟩
  · refine WL.s (w' := { w with heap := w.heap.setIfInBounds b (.map (es.push ⟨key, val, clock⟩) (clock + 1)) }) ?_ (by simpa [cov, noSel, Op.operands] using hc) hg (k G' _ hS (st_setObj st hb (mapV_push hs h1 h2 hk hne hS)))
    simp [execOp, hx, hy, hz, Instr.mapUpdate, run_underlying hu, MapKept.run_getObj_map hb, K.check w _ key hk, c, MapKept.run_setObj_map _ hb]
  · have hj' : es[j]? = some e0 := by simpa using hj
    refine WL.s (w' := { w with heap := w.heap.setIfInBounds b (.map (es.modify j fun e => { e with key := key, val := val }) clock) }) ?_ (by simpa [cov, noSel, Op.operands] using hc) hg (k G' _ hS (st_setObj st hb (mapV_modify hs h1 h2 hk hj he0 hS)))
    simp [execOp, hx, hy, hz, Instr.mapUpdate, run_underlying hu, MapKept.run_getObj_map hb, K.check w _ key hk, a, hj', he0, K.stays w key hk, MapKept.run_setObj_map _ hb]


/-- The entry made ('mapEntry'), as a run. -/
theorem run_entry_store {T kt et b : Nat} {good : Value → Prop} {G : Value → Option Value} {key zv : Value} (K : KB P kt good) (hT : mpT P T = some (kt, et)) (hzv : zero1 P et = some zv) (st : St w0 M ((b, MapV good G) :: l) w) (hk : good key) :
    ∃ (v0 : Value) (stp : Nat) (w1 : World), (Instr.mapEntry T (.map (some b)) key).run P w = .ok (.tuple #[v0, goInt stp]) w1 ∧
      ∀ (val : Value) (G' : Value → Option Value), SetG G key val G' → ∃ w2, (Instr.entryStore T (.map (some b)) (goInt stp) val).run P w1 = .ok () w2 ∧ St w0 M ((b, MapV good G') :: l) w2 := by
  have hu := mpT_spec hT
  obtain ⟨o, hb, es, clock, rfl, hs, h1, h2⟩ := st.get (b, MapV good G) (by simp)
  simp only at hb
  have hs0 := hs
  obtain ⟨s1, s2, _⟩ := hs0
  rcases look_found K h1 h2 hk w with ⟨a, c, hne⟩ | ⟨j, e0, a, hj, he0, c⟩
  · refine ⟨zv, clock, { w with heap := w.heap.setIfInBounds b (.map (es.push ⟨key, zv, clock⟩) (clock + 1)) }, ?_, fun val G' hS => ?_⟩
    · simp [Instr.mapEntry, run_underlying hu, MapKept.run_getObj_map hb, K.check w false key hk, c, zero1_spec hzv, MapKept.run_setObj_map _ hb, Result.andThen]
    · obtain ⟨G1, hS1⟩ := setG_exists G key zv
      have st1 : St w0 M ((b, MapV good G1) :: l) { w with heap := w.heap.setIfInBounds b (.map (es.push ⟨key, zv, clock⟩) (clock + 1)) } := st_setObj st hb (mapV_push hs h1 h2 hk hne hS1)
      have hw2 : ({ w with heap := w.heap.setIfInBounds b (.map (es.push ⟨key, zv, clock⟩) (clock + 1)) } : World).heap[b]? = some (.map (es.push ⟨key, zv, clock⟩) (clock + 1)) := (heap_set hb).1
      have hidx : (es.push ⟨key, zv, clock⟩).findIdx? (fun e => ((e.born : Nat) : Int) == ((clock : Nat) : Int)) = some es.size := by
        rw [WideElems.findIdx_arr]
        have := WideElems.findIdx_born (l := (es.push ⟨key, zv, clock⟩).toList) (j := es.size) (e0 := ⟨key, zv, clock⟩) (by
          simp only [Array.toList_push, List.map_append, List.map_cons, List.map_nil]
          refine List.nodup_append.2 ⟨s2, by simp, fun a ha c hc e1 => ?_⟩
          simp only [List.mem_singleton] at hc
          obtain ⟨x, hx, rfl⟩ := List.mem_map.1 ha
          have := s1 x hx
          omega) (by simp)
        exact this
      have hmod : (es.push ⟨key, zv, clock⟩).modify es.size (fun e => { e with val := val }) = es.push ⟨key, val, clock⟩ := by
        apply Array.ext'
        rw [Array.toList_modify, Array.toList_push, Array.toList_push, ← Array.length_toList, WideElems.modify_last]
      refine ⟨_, ?_, st_setObj (o' := .map (es.push ⟨key, val, clock⟩) (clock + 1)) st1 hw2 (mapV_push hs h1 h2 hk hne hS)⟩
      simp [Instr.entryStore, MapKept.run_getObj_map hw2, asInt, asIntOf, goInt, hidx, hmod, MapKept.run_setObj_map _ hw2, Result.andThen]
  · have hj' : es[j]? = some e0 := by simpa using hj
    have hsame : es.modify j (fun e => { e with key := key }) = es := by
      apply Array.ext_getElem?
      intro i
      rw [Array.getElem?_modify]
      by_cases hij : j = i
      · subst hij; rw [if_pos rfl, hj']; simp [← he0]
      · rw [if_neg hij]
    refine ⟨e0.val, e0.born, { w with heap := w.heap.setIfInBounds b (.map es clock) }, ?_, fun val G' hS => ?_⟩
    · simp [Instr.mapEntry, run_underlying hu, MapKept.run_getObj_map hb, K.check w false key hk, a, hj', he0, K.stays w key hk, hsame, MapKept.run_setObj_map _ hb, Result.andThen]
    · have st1 : St w0 M ((b, MapV good G) :: l) { w with heap := w.heap.setIfInBounds b (.map es clock) } := st_setObj st hb ⟨es, clock, rfl, hs, h1, h2⟩
      have hw2 : ({ w with heap := w.heap.setIfInBounds b (.map es clock) } : World).heap[b]? = some (.map es clock) := (heap_set hb).1
      have hidx : es.findIdx? (fun e => ((e.born : Nat) : Int) == ((e0.born : Nat) : Int)) = some j := by
        rw [WideElems.findIdx_arr]
        exact WideElems.findIdx_born s2 hj
      have hmod : es.modify j (fun e => { e with val := val }) = es.modify j (fun e' => { e' with key := key, val := val }) := by
        apply Array.ext_getElem?
        intro i
        rw [Array.getElem?_modify, Array.getElem?_modify]
        by_cases hij : j = i
        · subst hij; rw [if_pos rfl, if_pos rfl, hj']; simp [← he0]
        · rw [if_neg hij, if_neg hij]
      refine ⟨_, ?_, st_setObj (o' := .map (es.modify j fun e => { e with key := key, val := val }) clock) st1 hw2 (mapV_modify hs h1 h2 hk hj he0 hS)⟩
      simp [Instr.entryStore, MapKept.run_getObj_map hw2, asInt, asIntOf, goInt, hidx, hmod, MapKept.run_setObj_map _ hw2, Result.andThen]

/-- 'm[k] op= v': the entry is made, then stored into. -/
theorem WL.entrySet {T kt et b d2 : Nat} {good : Value → Prop} {G : Value → Option Value} {key val zv : Value} {x2 : Operand} {ty2 ty3 : TypeId} {pos2 pos3 : String} {af2 af3 : Array Edge}
    (K : KB P kt good) (st : St w0 M ((b, MapV good G) :: l) w) (hT : mpT P T = some (kt, et)) (hzv : zero1 P et = some zv)
    (hx : ev e x = .map (some b)) (hy : ev e y = key) (hk : good key) (hc : (okX e x && okX e y) = true) (hn : Nat.blt d n = true) (hn2 : Nat.blt d2 n = true)
    (hx2 : ∀ v1 v2, ev ((d2, v2) :: (d, v1) :: e) x2 = .map (some b)) (hz : ∀ v1 v2, ev ((d2, v2) :: (d, v1) :: e) z = val) (hd : ∀ v1 v2, (okX ((d2, v2) :: (d, v1) :: e) x2 && okX ((d2, v2) :: (d, v1) :: e) z) = true)
    (k : ∀ G' w' v1 v2, SetG G key val G' → St w0 M ((b, MapV good G') :: l) w' → WL P ops Q n ds rest ((d2, v2) :: (d, v1) :: e) w') :
    WL P ops Q n ds (⟨some d, .mapEntry T x y, ty, pos, af, none⟩ :: ⟨some d2, .extract (.tmp d) 1, ty2, pos2, af2, none⟩ :: ⟨none, .entryStore T x2 (.tmp d2) z, ty3, pos3, af3, none⟩ :: rest) e w := by
  obtain ⟨v0, stp, w1, hr1, hr2⟩ := run_entry_store K hT hzv st hk
  obtain ⟨G', hS⟩ := setG_exists G key val
  obtain ⟨w2, hr3, st2⟩ := hr2 val G' hS
  have kd : ∀ (v : Value) (e' : Env), knows ((d, v) :: e') d = true ∧ look ((d, v) :: e') d = v := fun v e' => by
    have : Nat.beq d d = true := by simp
    simp [knows, look, this]
  have kd2 : ∀ (v : Value) (e' : Env), knows ((d2, v) :: e') d2 = true ∧ look ((d2, v) :: e') d2 = v := fun v e' => by
    have : Nat.beq d2 d2 = true := by simp
    simp [knows, look, this]
  refine WL.v (v := .tuple #[v0, goInt stp]) (w' := w1) ?_ (by simpa [cov, noSel, Op.operands] using hc) hn rfl ?_
  · simp only [execOp, hx, hy, Sem.run_bind, hr1]; rfl
  refine WL.v (v := goInt stp) (w' := w1) (r_extract (vs := #[v0, goInt stp]) (kd _ _).2 rfl) (by simp [cov, noSel, Op.operands, okX, (kd _ _).1]) hn2 rfl ?_
  refine WL.s (w' := w2) ?_ (by have := hd (.tuple #[v0, goInt stp]) (goInt stp); simp only [Bool.and_eq_true] at this; simp [cov, noSel, Op.operands, okX, (kd2 _ _).1]; exact this) rfl (k G' w2 _ _ hS st2)
  simp only [execOp, hx2, hz, Sem.run_bind]
  rw [show ev ((d2, goInt stp) :: (d, .tuple #[v0, goInt stp]) :: e) (.tmp d2) = goInt stp from (kd2 _ _).2, hr3]
  rfl
end

end Go.E1
