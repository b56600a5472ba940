/-
  E13: 'm[k] op= v' where the order is drawn: the entry made, the lookup, the store, in whatever order. No project text.
-/
import Derived.Test.Qxb6500834aGreatDoorE12
set_option linter.unusedSimpArgs false
set_option linter.unusedVariables false
namespace Go.E1
open Go.RowKit Go.MapKept

/-- The entry with stamp stp can be stored into. -/
def EntryAt (P : Program) (w0 : World) (M : Nat → Prop) (l : List HI) (T b : Nat) (good : Value → Prop) (G : Value → Option Value) (key : Value) (stp : Nat) (w1 : World) : Prop :=
  ∀ (val : Value) (G' : Value → Option Value), SetG G key val G' → ∃ w2, (Instr.entryStore T (.map (some b)) (goInt stp) val).run P w1 = .ok () w2 ∧ St w0 M ((b, MapV good G') :: l) w2

section
variable {P : Program} {ops : Array Oper} {Q : Exit → Act → World → Prop} {n : Nat} {ds : List Deferred} {rest : List Oper} {e : Env} {w w0 : World} {M : Nat → Prop} {l : List HI}
variable {d : Nat} {ty : TypeId} {pos : String} {af : Array Edge} {g : Option (Nat × Bool)} {x y z : Operand}

theorem run_entry2 {T kt et b : Nat} {good : Value → Prop} {G : Value → Option Value} {key zv : Value} (K : KB P kt good) (hT : mpT P T = some (kt, et)) (hzv : zero1 P et = some zv) (st : St w0 M ((b, MapV good G) :: l) w) (hk : good key) :
    ∃ (v0 : Value) (stp : Nat) (w1 : World) (G1 : Value → Option Value), (Instr.mapEntry T (.map (some b)) key).run P w = .ok (.tuple #[v0, goInt stp]) w1 ∧ SetG G key ((G key).getD zv) G1 ∧ St w0 M ((b, MapV good G1) :: l) w1 ∧ EntryAt P w0 M l T b good G key stp w1 := by
  obtain ⟨v0, stp, w1, hr1, hr2⟩ := run_entry_store K hT hzv st hk
  obtain ⟨G1, hS1⟩ := setG_exists G key ((G key).getD zv)
  refine ⟨v0, stp, w1, G1, hr1, hS1, ?_, hr2⟩
  have hu := mpT_spec hT
  obtain ⟨o, hb, es, clock, rfl, hs, h1, h2⟩ := st.get (b, MapV good G) (by simp)
  simp only at hb
  rcases look_found K h1 h2 hk w with ⟨a, c, hne⟩ | ⟨j, e0, a, hj, he0, c⟩
  · have hz : (G key).getD zv = zv := by rw [a]; rfl
    rw [hz] at hS1
    have hr : (Instr.mapEntry T (.map (some b)) key).run P w = .ok (.tuple #[zv, goInt clock]) { w with heap := w.heap.setIfInBounds b (.map (es.push ⟨key, zv, clock⟩) (clock + 1)) } := by
      simp [Instr.mapEntry, run_underlying hu, MapKept.run_getObj_map hb, K.check w false key hk, c, zero1_spec hzv, MapKept.run_setObj_map _ hb, Result.andThen]
    rw [hr] at hr1
    cases hr1
    exact st_setObj st hb (mapV_push hs h1 h2 hk hne hS1)
  · have hj' : es[j]? = some e0 := by simpa using hj
    have hsame : es.modify j (fun e => { e with key := key }) = es := by
      apply Array.ext_getElem?
      intro i
      rw [Array.getElem?_modify]
      by_cases hij : j = i
      · subst hij; rw [if_pos rfl, hj']; simp [← he0]
      · rw [if_neg hij]
    have hr : (Instr.mapEntry T (.map (some b)) key).run P w = .ok (.tuple #[e0.val, goInt e0.born]) { w with heap := w.heap.setIfInBounds b (.map es clock) } := by
      simp [Instr.mapEntry, run_underlying hu, MapKept.run_getObj_map hb, K.check w false key hk, a, hj', he0, K.stays w key hk, hsame, MapKept.run_setObj_map _ hb, Result.andThen]
    rw [hr] at hr1
    cases hr1
    have hm : MapV good G (.map es clock) := ⟨es, clock, rfl, hs, h1, h2⟩
    refine st_setObj st hb (hm.congr fun v => ?_)
    by_cases hv : v = key
    · subst hv
      rw [hS1.1]
      have he : e0 ∈ es.toList := List.mem_iff_getElem?.2 ⟨j, hj⟩
      have := (h1 e0 he).2
      rw [he0] at this
      rw [this]; rfl
    · exact (hS1.2 v hv).symm

theorem WL.mapEntry {T kt et b : Nat} {good : Value → Prop} {G : Value → Option Value} {key zv : Value} (K : KB P kt good) (st : St w0 M ((b, MapV good G) :: l) w) (hT : mpT P T = some (kt, et)) (hzv : zero1 P et = some zv)
    (hx : ev e x = .map (some b)) (hy : ev e y = key) (hk : good key) (hc : (okX e x && okX e y) = true) (hn : Nat.blt d n = true) (hg : wantE ops e g = true)
    (k : ∀ v0 stp w1 G1, SetG G key ((G key).getD zv) G1 → St w0 M ((b, MapV good G1) :: l) w1 → EntryAt P w0 M l T b good G key stp w1 → WL P ops Q n ds rest ((d, .tuple #[v0, goInt stp]) :: e) w1) :
    WL P ops Q n ds (⟨some d, .mapEntry T x y, ty, pos, af, g⟩ :: rest) e w := by
  obtain ⟨v0, stp, w1, G1, hr, hS, st1, hE⟩ := run_entry2 K hT hzv st hk
  refine WL.v (v := .tuple #[v0, goInt stp]) (w' := w1) ?_ (by simpa [cov, noSel, Op.operands] using hc) hn hg (k v0 stp w1 G1 hS st1 hE)
  simp only [execOp, hx, hy, Sem.run_bind, hr]; rfl

theorem WL.entryStore {T b stp : Nat} {good : Value → Prop} {G : Value → Option Value} {key val : Value} (hE : EntryAt P w0 M l T b good G key stp w) (hx : ev e x = .map (some b)) (hy : ev e y = goInt stp) (hz : ev e z = val)
    (hc : (okX e x && (okX e y && okX e z)) = true) (hg : wantE ops e g = true) (k : ∀ G' w', SetG G key val G' → St w0 M ((b, MapV good G') :: l) w' → WL P ops Q n ds rest e w') :
    WL P ops Q n ds (⟨none, .entryStore T x y z, ty, pos, af, g⟩ :: rest) e w := by
  obtain ⟨G', hS⟩ := setG_exists G key val
  obtain ⟨w2, hr, st2⟩ := hE val G' hS
  refine WL.s (w' := w2) ?_ (by simpa [cov, noSel, Op.operands] using hc) hg (k G' w2 hS st2)
  simp only [execOp, hx, hy, hz, Sem.run_bind, hr]; rfl

/-- The worlds in which the map answers v0 at the key. -/
def LookC (w0 : World) (M : Nat → Prop) (b : Nat) (l : List HI) (good : Value → Prop) (key zv v0 : Value) : World → Prop := fun w' => ∃ G', St w0 M ((b, MapV good G') :: l) w' ∧ (G' key).getD zv = v0

theorem WC.heldM {id b : Nat} {lo : List Oper} {good : Value → Prop} {G : Value → Option Value} (key zv v0 : Value) (late hs ts : List Nat) (st : St w0 M ((b, MapV good G) :: l) w) (hv : (G key).getD zv = v0) (hm : P.follows .mixedOrders = true) (hB : heldAll lo late hs ts = true)
    (k : ∀ w', St w0 M ((b, MapV good G) :: l) w' → ∀ K : Act → Prop, (∀ e', TL P lo.toArray (NoPanic Q) (LookC w0 M b l good key zv v0) late n ds (ts.map fun i => (i, pick lo i)) e' w' → ∀ a, Fits a n ds e' → K a) → HL P lo.toArray (LookC w0 M b l good key zv v0) K n ds (hs.map (pick lo)) e) :
    WC P (.region id lo.toArray true) Q n ds e w := fun a ha =>
  wp_region_P (S := LookC w0 M b l good key zv v0) (late := late) (hs := hs) (ts := ts) hm hB ⟨G, st.drew, hv⟩ (k _ st.drew _ (fun e' h a' ha' => h a' ha') a ha)
end

/-! ### Keys that are structs of integers and strings -/

/-- One field's part of a key. -/
def keyPart (P : Program) (t : TypeId) (v : Value) : Prop := P.cellsOf t = 1 ∧ ∀ m, ∃ ls, P.keyLits (m + 1) t [v] = some ls

theorem keyPart_int {P : Program} {t : TypeId} {q : IntKind} {x : Int} (hc : P.cellsOf t = 1) (hu : P.underlying t = some (.int q)) (h1 : q.min ≤ x) (h2 : x ≤ q.max) : keyPart P t (.int q x) :=
  ⟨hc, fun m => ⟨[.int q x], by
    have hw : (Lit.int q x).wf = true := by simp only [Lit.wf, Bool.and_eq_true, decide_eq_true_eq]; exact ⟨h1, h2⟩
    simp [Program.keyLits, hu, hw]⟩⟩
theorem keyPart_str {P : Program} {t : TypeId} {x : ByteArray} (hc : P.cellsOf t = 1) (hu : P.underlying t = some .string) (h1 : x.size ≤ maxLen) : keyPart P t (.string x) :=
  ⟨hc, fun m => ⟨[.string x.data.toList], by simp [Program.keyLits, hu, h1]⟩⟩

/-- A struct's fields, none of them blank. -/
def keyFs (P : Program) (k : TypeId) : Option (List (TypeId × Nat)) :=
  match P.underlying k with
  | some (.struct fs) => if P.keyType k && fs.all (·.name != "_") then some (fs.toList.map fun f => (f.type, f.offset)) else none
  | _ => none

theorem keyGood_of {P : Program} {k n : TypeId} {l : List (TypeId × Nat)} {vs : List Value} (h0 : 0 < P.types.size) (hf : keyFs P k = some l) (hc : P.cellsOf k = n) (hn : vs.length = n) (hp : ∀ p ∈ l, p.2 < n ∧ keyPart P p.1 (nth vs p.2)) : keyGood P k (.agg vs.toArray) := by
  unfold keyFs at hf
  split at hf
  case h_2 => cases hf
  rename_i fs hu
  split at hf
  case isFalse => cases hf
  rename_i hk
  simp only [Bool.and_eq_true] at hk
  simp only [Option.some.injEq] at hf
  subst hf
  have hm : ∃ ls, (fs.toList.mapM fun f => P.keyLits P.types.size f.type ((vs.drop f.offset).take (P.cellsOf f.type))) = some ls := by
    have hsz : ∃ m, P.types.size = m + 1 := ⟨P.types.size - 1, by omega⟩
    obtain ⟨m, hm⟩ := hsz
    rw [hm]
    have : ∀ f ∈ fs.toList, ∃ ls, P.keyLits (m + 1) f.type ((vs.drop f.offset).take (P.cellsOf f.type)) = some ls := fun f hf => by
      obtain ⟨h1, h2, h3⟩ := hp (f.type, f.offset) (List.mem_map.2 ⟨f, hf, rfl⟩)
      obtain ⟨ls, hls⟩ := h3 m
      refine ⟨ls, ?_⟩
      rw [h2]
      have hlt : f.offset < vs.length := by omega
      rw [List.drop_eq_getElem_cons hlt, List.take_succ_cons, List.take_zero]
      have : nth vs f.offset = vs[f.offset] := by simp [nth, hlt]
      rw [← this]; exact hls
    generalize fs.toList = L at this
    induction L with
    | nil => exact ⟨[], rfl⟩
    | cons f L ih =>
      obtain ⟨l1, h1⟩ := this f (by simp)
      obtain ⟨l2, h2⟩ := ih fun g hg => this g (by simp [hg])
      exact ⟨l1 :: l2, by simp [h1, h2]⟩
  obtain ⟨ls, hls⟩ := hm
  refine ⟨.string (keyBytes ls.flatten), ?_⟩
  unfold keyOf
  rw [hu]
  simp only
  have hform : (P.keyType k && (Value.agg vs.toArray).formed P k) = true := by simp [hk.1, Value.formed, hu, hc, hn]
  rw [if_pos hform]
  have hcells : (Value.agg vs.toArray).cells.toList = vs := by simp [Value.cells]
  rw [hcells]
  unfold Program.keyLits
  rw [hu]
  simp only
  rw [if_pos ⟨by omega, hk.2⟩, hls]
  rfl
end Go.E1
