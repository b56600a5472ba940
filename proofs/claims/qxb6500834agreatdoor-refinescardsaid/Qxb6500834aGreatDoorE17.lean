/-
  E17: bytes: slices of slices and of arrays, append of any bytes, copy, the string of bytes; results of which one lies in memory. No project text.
-/
import Derived.Test.Qxb6500834aGreatDoorE16
import Derived.ArgAppend
import Derived.Laws.BytesArg
import Derived.Laws.CopyRow
set_option linter.unusedSimpArgs false
set_option linter.unusedVariables false
namespace Go.E1
open Go.RowKit

/-- A row said anew. -/
theorem st_nrm {w0 : World} {M : Nat → Prop} {l : List HI} {w : World} {b t n : Nat} {f : Nat → Value} {L' : List Value} (h : (List.range n).map f = L') (st : St w0 M ((b, Row t n f) :: l) w) : St w0 M ((b, Row t n (nth L')) :: l) w :=
  st.impc fun o ho => ho.congr fun i hi => by
    subst h
    simp [nth, hi]

theorem fill_nil {pl : List (Nat × Nat)} {cs : List Value} : fillL pl cs [] = some cs := rfl
theorem fill_step {pl : List (Nat × Nat)} {cs cs' pv vs : List Value} {i off size : Nat} {v : Value} {rest : List (Nat × Value)} (h1 : pl[i]? = some (off, size)) (h2 : v.cells.toList = pv) (h3 : (Nat.beq pv.length size && Nat.ble (off + size) cs.length) = true)
    (h4 : cs.take off ++ pv ++ cs.drop (off + size) = cs') (h : fillL pl cs' rest = some vs) : fillL pl cs ((i, v) :: rest) = some vs := by
  simp only [Bool.and_eq_true, Nat.beq_eq, Nat.ble_eq] at h3
  simp only [fillL, h1, h2]
  rw [if_pos h3, h4]; exact h

/-! ### Slices -/

/-- Where a slice of a slice begins. -/
def slA (a : Option Addr) (l m s : Nat) : Option Addr := if m = l then a else a.map (·.add (l * s))

theorem slA_some {b o l m s : Nat} (h : l < m) : slA (some ⟨b, o, none⟩) l m s = some ⟨b, o + l * s, none⟩ := by
  unfold slA
  rw [if_neg (by omega)]
  simp [Addr.add_none]

/-- A bound of a slice expression: left out, or a number. -/
def bnd (ρ : Operand → Value) (d j : Nat) : Option Operand → Prop
  | none => j = d
  | some y => ∃ k, ρ y = .int k (j : Int)

section
variable {P : Program} {ρ : Operand → Value} {w : World} {d : Option Tmp} {ty : TypeId} {pos : String} {af : Array Edge} {g : Option (Nat × Bool)} {x y z : Operand}

theorem r_sl {T e s : Nat} {ao : Option Addr} {n c l h m : Nat} {lo hi mx : Option Operand} (hT : slT P T = some (e, s)) (hx : ρ x = .slice ao n c) (hl : bnd ρ 0 l lo) (hh : bnd ρ n h hi) (hm : bnd ρ c m mx) (hq : hi = none → mx = none)
    (h1 : l ≤ h) (h2 : h ≤ m) (h3 : m ≤ c) :
    (execOp ρ ⟨d, .slice T x lo hi mx, ty, pos, af, g⟩).run P w = .ok (.value (.slice (slA ao l m s) (h - l) (m - l))) w := by
  obtain ⟨hu, i, hi2, rfl⟩ := slT_spec hT
  have e1 : (l : Int) ≤ (h : Int) := by omega
  have e2 : (h : Int) ≤ (m : Int) := by omega
  have e3 : (m : Int) ≤ (c : Int) := by omega
  cases lo with
  | none =>
    simp only [bnd] at hl
    subst hl
    cases hi with
    | none =>
      obtain rfl := hq rfl
      simp only [bnd] at hh hm
      subst hh hm
      simp [execOp, Instr.sliceAt, Instr.slice, hx, run_underlying hu, Instr.sliceBounds, Instr.sliceBound, run_sizeOf hi2, slA, go_sem]
    | some yh =>
      obtain ⟨kh, hh⟩ := hh
      cases mx with
      | none =>
        simp only [bnd] at hm
        subst hm
        simp [execOp, Instr.sliceAt, Instr.slice, hx, hh, run_underlying hu, Instr.sliceBounds, Instr.sliceBound, asIntOf, e1, e2, e3, h1, h2, h3, run_sizeOf hi2, slA, go_sem]
      | some ym =>
        obtain ⟨km, hm⟩ := hm
        simp [execOp, Instr.sliceAt, Instr.slice, hx, hh, hm, run_underlying hu, Instr.sliceBounds, Instr.sliceBound, asIntOf, e1, e2, e3, h1, h2, h3, run_sizeOf hi2, slA, go_sem]
  | some yl =>
    obtain ⟨kl, hl⟩ := hl
    cases hi with
    | none =>
      obtain rfl := hq rfl
      simp only [bnd] at hh hm
      subst hh hm
      simp [execOp, Instr.sliceAt, Instr.slice, hx, hl, run_underlying hu, Instr.sliceBounds, Instr.sliceBound, asIntOf, e1, e2, e3, h1, h2, h3, run_sizeOf hi2, slA, go_sem]
    | some yh =>
      obtain ⟨kh, hh⟩ := hh
      cases mx with
      | none =>
        simp only [bnd] at hm
        subst hm
        simp [execOp, Instr.sliceAt, Instr.slice, hx, hl, hh, run_underlying hu, Instr.sliceBounds, Instr.sliceBound, asIntOf, e1, e2, e3, h1, h2, h3, run_sizeOf hi2, slA, go_sem]
      | some ym =>
        obtain ⟨km, hm⟩ := hm
        simp [execOp, Instr.sliceAt, Instr.slice, hx, hl, hh, hm, run_underlying hu, Instr.sliceBounds, Instr.sliceBound, asIntOf, e1, e2, e3, h1, h2, h3, run_sizeOf hi2, slA, go_sem]

/-- The same where the address is known and something is left. -/
theorem r_slS {T e s : Nat} {b o n c l h m : Nat} {lo hi mx : Option Operand} (hT : slT P T = some (e, s)) (hx : ρ x = .slice (some ⟨b, o, none⟩) n c) (hl : bnd ρ 0 l lo) (hh : bnd ρ n h hi) (hm : bnd ρ c m mx) (hq : hi = none → mx = none)
    (h1 : l ≤ h) (h2 : h ≤ m) (h3 : m ≤ c) (h4 : l < m) :
    (execOp ρ ⟨d, .slice T x lo hi mx, ty, pos, af, g⟩).run P w = .ok (.value (.slice (some ⟨b, o + l * s, none⟩) (h - l) (m - l))) w := by
  rw [r_sl hT hx hl hh hm hq h1 h2 h3, slA_some h4]

/-- An array's cells as a slice. -/
theorem r_slAr {T e s n b o : Nat} (hT : arT P T = some (n, e, s)) (hx : ρ x = .pointer (some ⟨b, o, none⟩)) :
    (execOp ρ ⟨d, .slice T x none none none, ty, pos, af, g⟩).run P w = .ok (.value (.slice (some ⟨b, o, none⟩) n n)) w := by
  obtain ⟨hu, i, hi2, rfl⟩ := arT_spec hT
  have h0 : (⟨b, o, none⟩ : Addr).add 0 = ⟨b, o, none⟩ := by simp [Addr.add]
  simp [execOp, Instr.sliceAt, hx, run_underlying hu, Instr.sureAddr, Instr.sliceBounds, run_sizeOf hi2, h0, go_sem]
end

/-! ### Bytes in memory -/

def BA (w : World) (b o : Nat) (bs : List Int) : Prop := ∀ i, i < bs.length → w.cell? ⟨b, o + i, none⟩ = some (.int .u8 (bs.getD i 0))

/-- A slice of bytes, and what it holds. -/
structure SV where
  a : Option Addr
  c : Nat
  b : Nat
  o : Nat
  bs : List Int

def SV.v (s : SV) : Value := .slice s.a s.bs.length s.c
def SV.rd (s : SV) (w : World) : Prop := BA w s.b s.o s.bs
structure SV.ok (s : SV) : Prop where
  le : s.bs.length ≤ s.c
  cap : s.c ≤ 9223372036854775807
  adr : 0 < s.bs.length → s.a = some ⟨s.b, s.o, none⟩
  byt : ∀ x, x ∈ s.bs → 0 ≤ x ∧ x < 256

def SV.nil : SV := ⟨none, 0, 0, 0, []⟩
theorem SV.nil_ok : SV.nil.ok := ⟨Nat.le_refl _, by simp [SV.nil], fun h => by simp [SV.nil] at h, fun x h => by simp [SV.nil] at h⟩
theorem SV.nil_rd (w : World) : SV.nil.rd w := fun i hi => by simp [SV.nil] at hi

theorem getD_mem {l : List Int} {i : Nat} (h : i < l.length) : l.getD i 0 ∈ l := by
  rw [List.getD_eq_getElem?_getD, List.getElem?_eq_getElem h]
  exact List.getElem_mem h

theorem SV.ok.at {s : SV} (h : s.ok) {i : Nat} (hi : i < s.bs.length) : 0 ≤ s.bs.getD i 0 ∧ s.bs.getD i 0 < 256 := h.byt _ (getD_mem hi)

/-- The part from l up to h, its room up to m. -/
def SV.sub (s : SV) (l h m : Nat) : SV := ⟨slA s.a l m 1, m - l, s.b, s.o + l * 1, (s.bs.take h).drop l⟩

theorem SV.sub_len {s : SV} {l h m : Nat} (hh : h ≤ s.bs.length) : (s.sub l h m).bs.length = h - l := by
  simp [SV.sub]; omega
theorem SV.sub_v {s : SV} {l h m : Nat} (hh : h ≤ s.bs.length) : (s.sub l h m).v = .slice (slA s.a l m 1) (h - l) (m - l) := by
  unfold SV.v; rw [SV.sub_len hh]; rfl
theorem SV.sub_ok {s : SV} (hs : s.ok) {l h m : Nat} (h1 : l ≤ h) (hh : h ≤ s.bs.length) (h2 : h ≤ m) (h3 : m ≤ s.c) : (s.sub l h m).ok := by
  refine ⟨by rw [SV.sub_len hh]; show h - l ≤ m - l; omega, by show m - l ≤ _; have := hs.cap; omega, fun hp => ?_, fun x hx => hs.byt x (List.mem_of_mem_take (List.mem_of_mem_drop hx))⟩
  rw [SV.sub_len hh] at hp
  show slA s.a l m 1 = _
  rw [hs.adr (by omega), slA_some (by omega)]; rfl
theorem SV.sub_rd {s : SV} {w : World} (hr : s.rd w) {l h m : Nat} (hh : h ≤ s.bs.length) : (s.sub l h m).rd w := fun i hi => by
  rw [SV.sub_len hh] at hi
  have := hr (l + i) (by omega)
  simp only [SV.sub, List.getD_eq_getElem?_getD, List.getElem?_drop, List.getElem?_take_of_lt (show l + i < h by omega)] at this ⊢
  rw [show s.o + l * 1 + i = s.o + (l + i) by omega]; exact this

/-- A row with the mark behind its last cell. -/
def FRow (t n : Nat) (f : Nat → Value) (o : Obj) : Prop := ∃ cs : Array Value, o = .cells cs t (n, n + 1) ∧ cs.size = n ∧ ∀ i, i < n → cs[i]? = some (f i)

theorem St.fcell {w0 : World} {M : Nat → Prop} {l : List HI} {w : World} {b off : Nat} {t n : Nat} {f : Nat → Value} (h : St w0 M l w) (hm : (b, FRow t n f) ∈ l) (ho : off < n) : w.cell? ⟨b, off, none⟩ = some (f off) := by
  obtain ⟨o, h1, cs, rfl, h3, h4⟩ := h.get (b, FRow t n f) hm
  simp only at h1
  simp [World.cell?, h1, h4 off ho]

/-- A slice of bytes of the call's own: nil, over a row of its own, or the whole of a marked row. -/
def BO (el : Nat) (v : Value) (bs : List Int) (XI : List HI) : Prop :=
  ∃ f, (OwnSl el 1 v bs.length XI f ∨ (0 < bs.length ∧ bs.length ≤ 1000 ∧ ∃ b, v = .slice (some ⟨b, 0, none⟩) bs.length bs.length ∧ XI = [(b, FRow el bs.length f)])) ∧ (∀ i, i < bs.length → f i = .int .u8 (bs.getD i 0)) ∧ ∀ x, x ∈ bs → 0 ≤ x ∧ x < 256

theorem BO.nil (el : Nat) : BO el (.slice none 0 0) [] [] := ⟨fun _ => undef, .inl (OwnSl.nil _ _ _), fun i hi => by simp at hi, fun x hx => by simp at hx⟩

theorem BO.sv {el : Nat} {v : Value} {bs : List Int} {XI : List HI} (h : BO el v bs XI) : ∃ s : SV, s.v = v ∧ s.bs = bs ∧ s.ok ∧ ∀ {w0 : World} {M : Nat → Prop} {l : List HI} {w : World}, St w0 M l w → XI ⊆ l → s.rd w := by
  obtain ⟨f, ho, hf, hb⟩ := h
  rcases ho with (⟨rfl, hl, rfl⟩ | ⟨b, c, rfl, h1, h2, rfl⟩) | ⟨hp, h9, b, rfl, rfl⟩
  · have : bs = [] := List.eq_nil_of_length_eq_zero hl
    subst this
    exact ⟨SV.nil, rfl, rfl, SV.nil_ok, fun _ _ => SV.nil_rd _⟩
  · refine ⟨⟨some ⟨b, 0, none⟩, c, b, 0, bs⟩, rfl, rfl, ⟨h1, h2, fun _ => rfl, hb⟩, fun st hs i hi => ?_⟩
    have := st.cell (b := b) (t := el) (n := c * 1) (f := f) (off := 0 + i) (hs (by simp)) (by simp only at hi; omega)
    rw [this, show 0 + i = i by omega, hf i hi]
  · refine ⟨⟨some ⟨b, 0, none⟩, bs.length, b, 0, bs⟩, rfl, rfl, ⟨Nat.le_refl _, by simp only; omega, fun _ => rfl, hb⟩, fun st hs i hi => ?_⟩
    have := st.fcell (b := b) (t := el) (n := bs.length) (f := f) (off := 0 + i) (hs (by simp)) (by simp only at hi; omega)
    rw [this, show 0 + i = i by omega, hf i hi]

section
variable {P : Program} {ops : Array Oper} {Q : Exit → Act → World → Prop} {n : Nat} {ds : List Deferred} {rest : List Oper} {e : Env} {w w0 : World} {M : Nat → Prop} {l : List HI}
variable {d : Nat} {ty : TypeId} {pos : String} {af : Array Edge} {g : Option (Nat × Bool)} {x y z : Operand}

theorem run_append_none {T el : Nat} {s : Nat} {ao : Option Addr} {nn cap c : Nat} {a2 : Option Addr} (hT : slT P T = some (el, s)) (h : nn ≤ cap) :
    (Builtin.append_ #[T, T] ty #[.slice ao nn cap, .slice a2 0 c]).run P w = .ok (.slice ao nn cap) w := by
  obtain ⟨hu, i, hi, rfl⟩ := slT_spec hT
  have hf : (Builtin.firstCells i.size 0 (.slice a2 0 c)).run P w = .ok #[] w := by
    cases a2 with
    | none => rfl
    | some a => simp [Builtin.firstCells, loadCells, Nat.zero_mul]; rfl
  cases ao with
  | none => simp [Builtin.append_, run_underlying hu, run_sizeOf hi, Builtin.lenOf, h, hf]
  | some a => simp [Builtin.append_, run_underlying hu, run_sizeOf hi, Builtin.lenOf, h, hf, storeCells]

/-- Append of any bytes. -/
theorem WL.appB {T el by' : Nat} {v : Value} {bs : List Int} {XI : List HI} {s : SV} (ho : BO el v bs XI) (hs : s.ok) (hr : s.rd w) (st : St w0 M (XI ++ l) w) (hT : mkT P T = some (el, 1, by')) (hT2 : slT P T = some (el, 1)) {zs : List Value} (hz : zeroL P el = some zs) (hzs : zs.length = 1)
    (hx : ev e x = v) (hy : ev e y = s.v) (hby : (bs.length + s.bs.length) * by' ≤ 140737488355328) (h63 : bs.length + s.bs.length ≤ 9223372036854775807) (hc : (okX e x && okX e y) = true) (hn : Nat.blt d n = true) (hg : wantE ops e g = true)
    (k : ∀ v' XI' w', BO el v' (bs ++ s.bs) XI' → St w0 M (XI' ++ l) w' → WL P ops Q n ds rest ((d, v') :: e) w') :
    WL P ops Q n ds (⟨some d, .call ⟨.builtin .append, #[x, y], #[T, T]⟩, ty, pos, af, g⟩ :: rest) e w := by
  obtain ⟨f, ho, hf, hb⟩ := ho
  by_cases h0 : s.bs.length = 0
  · have hnil : s.bs = [] := List.eq_nil_of_length_eq_zero h0
    have hform : ∃ ao nn cap, v = .slice ao nn cap ∧ nn ≤ cap := by
      rcases ho with (⟨rfl, _, _⟩ | ⟨b, c, rfl, h1, _, _⟩) | ⟨_, _, b, rfl, _⟩
      · exact ⟨none, 0, 0, rfl, Nat.le_refl _⟩
      · exact ⟨_, _, _, rfl, h1⟩
      · exact ⟨_, _, _, rfl, Nat.le_refl _⟩
    obtain ⟨ao, nn, cap, rfl, hle⟩ := hform
    refine WL.v (v := .slice ao nn cap) (w' := w) ?_ (by simpa [cov, noSel, Op.operands, Call.operands] using hc) hn hg (k _ XI w (by rw [hnil, List.append_nil]; exact ⟨f, ho, hf, hb⟩) st)
    have hy' : ev e y = .slice s.a 0 s.c := by rw [hy]; unfold SV.v; rw [h0]
    simp only [execOp, resolve, invoke, builtin]
    simp [hx, hy', run_append_none (P := P) (w := w) (ty := ty) (a2 := s.a) (c := s.c) hT2 hle]
  · have hy' : ev e y = .slice (some ⟨s.b, s.o, none⟩) s.bs.length s.c := by rw [hy]; unfold SV.v; rw [hs.adr (by omega)]
    have fin : ∀ (f' : Nat → Value), (∀ i, i < bs.length * 1 → f' i = f i) → (∀ j, j < s.bs.length * 1 → f' (bs.length * 1 + j) = .int .u8 (s.bs.getD j 0)) → (∀ i, i < (bs ++ s.bs).length → f' i = .int .u8 ((bs ++ s.bs).getD i 0)) ∧ ∀ x, x ∈ bs ++ s.bs → 0 ≤ x ∧ x < 256 := fun f' h1 h2 => by
      refine ⟨fun i hi => ?_, fun x hx => ?_⟩
      · rw [List.length_append] at hi
        by_cases hi2 : i < bs.length
        · rw [h1 i (by omega), hf i hi2, List.getD_eq_getElem?_getD, List.getD_eq_getElem?_getD, List.getElem?_append_left hi2]
        · have := h2 (i - bs.length) (by omega)
          rw [show bs.length * 1 + (i - bs.length) = i by omega] at this
          rw [this, List.getD_eq_getElem?_getD, List.getD_eq_getElem?_getD, List.getElem?_append_right (by omega)]
      · rcases List.mem_append.1 hx with h | h
        · exact hb x h
        · exact hs.byt x h
    rcases ho with ho | ⟨hp, h9, b, rfl, rfl⟩
    · refine WL.appendO (m := s.bs.length) (news := fun j => .int .u8 (s.bs.getD j 0)) ho st hT hz hzs (by omega) hx hy' (by omega) (fun j hj => hr j (by omega)) (fun j hj => rfl) hby h63 hc hn hg ?_
      intro v' XI' f' w' ho' st' h1 h2
      obtain ⟨q1, q2⟩ := fin f' h1 h2
      exact k v' XI' w' ⟨f', .inl (by rw [List.length_append]; exact ho'), q1, q2⟩ st'
    · obtain ⟨hu, i, hi, hi1, hi2⟩ := mkT_spec hT
      obtain ⟨z, hz1, hz2⟩ := zeroL_info hz hi
      have hml : maxLen = 9223372036854775807 := rfl
      obtain ⟨v', w', hrun, hown, hgr⟩ := run_append_arg_grows (P := P) w T ty el i z 1 by' hu hi hz1 hi1 hi2 (by rw [hz2]; simpa using hzs) (by omega) ⟨b, 0, none⟩ bs.length bs.length ((List.range bs.length).map f) (by simp)
        (fun j u hj => by
          by_cases hj' : j < bs.length
          · simp [hj'] at hj; subst hj; rw [Addr.add_none, Nat.zero_add]; exact st.fcell (t := el) (n := bs.length) (by simp) hj'
          · simp [hj'] at hj)
        ⟨s.b, s.o, none⟩ s.bs.length s.c ((List.range s.bs.length).map fun j => .int .u8 (s.bs.getD j 0)) (by simp)
        (fun j u hj => by
          by_cases hj' : j < s.bs.length
          · simp only [List.getElem?_map, List.getElem?_range hj', Option.map_some, Option.some.injEq] at hj; subst hj; rw [Addr.add_none]; exact hr j hj'
          · simp [hj'] at hj) (by omega) (by omega) hby
      have hv' : ∃ g' cap', v' = .slice (some ⟨g', 0, none⟩) (bs.length + s.bs.length) cap' ∧ w.heap.size ≤ g' := by
        rcases hown.2 with ⟨_, h2⟩ | ⟨g', cap', cur, h1, h2, _⟩
        · have := hown.1
          simp only [List.length_append, List.length_map, List.length_range] at this
          first | omega | (simp at h2; omega)
        · exact ⟨g', cap', h1, h2⟩
      obtain ⟨g', cap', rfl, hge⟩ := hv'
      have hown0 : w'.ownsRow 0 el 1 (.slice (some ⟨g', 0, none⟩) (bs.length + s.bs.length) cap') (bs.length + s.bs.length) ((List.range bs.length).map f ++ (List.range s.bs.length).map fun j => .int .u8 (s.bs.getD j 0)) := by
        refine ⟨hown.1, ?_⟩
        rcases hown.2 with ⟨h1, h2⟩ | ⟨g2, cap2, cur, h1, h2, h3⟩
        · exact .inl ⟨h1, h2⟩
        · exact .inr ⟨g2, cap2, cur, h1, Nat.zero_le _, h3⟩
      obtain ⟨r1, r2, ob, f', hb', hrow, hcells⟩ := row_of_owns hown0
      have hst1 : St w0 M l w' := (st.sublist (List.sublist_append_right _ l)).grown0 hgr
      have hst : St w0 M ([(g', Row el (cap' * 1) f')] ++ l) w' :=
        hst1.add hb' hrow (fun it hit heq => by have := st.lt (it := it) (by simp [hit]); omega) (.inr (by have := st.size; omega))
      obtain ⟨q1, q2⟩ := fin f' (fun j hj => by
          have := hcells j (by omega)
          rw [List.getElem?_append_left (by simpa using hj)] at this
          simp [show j < bs.length by omega] at this
          exact this.symm) (fun j hj => by
          have := hcells (bs.length * 1 + j) (by omega)
          rw [List.getElem?_append_right (by simp)] at this
          simp only [List.length_map, List.length_range, List.getElem?_map] at this
          rw [show bs.length * 1 + j - bs.length = j by omega, List.getElem?_range (by omega)] at this
          simp only [Option.map_some, Option.some.injEq] at this
          exact this.symm)
      refine WL.v (v := .slice (some ⟨g', 0, none⟩) (bs.length + s.bs.length) cap') (w' := w') ?_ (by simpa [cov, noSel, Op.operands, Call.operands] using hc) hn hg (k _ [(g', Row el (cap' * 1) f')] w' ⟨f', .inl (.inr ⟨g', cap', by rw [List.length_append], by rw [List.length_append]; exact r1, by omega, rfl⟩), q1, q2⟩ hst)
      simp only [execOp, resolve, invoke, builtin]
      simp [hx, hy', hrun]

/-- A new row of bytes gets the mark. -/
theorem WL.strish {T el b nn c t m : Nat} {f : Nat → Value} (st : St w0 M ((b, Row t m f) :: l) w) (hu : P.underlying T = some (.slice el)) (he : P.underlying el = some (.int .u8)) (hx : ev e x = .slice (some ⟨b, 0, none⟩) nn c) (hc : okX e x = true) (hn : Nat.blt d n = true) (hg : wantE ops e g = true)
    (k : ∀ w', St w0 M ((b, FRow t m f) :: l) w' → WL P ops Q n ds rest ((d, .slice (some ⟨b, 0, none⟩) nn c) :: e) w') :
    WL P ops Q n ds (⟨some d, .convert T T x, ty, pos, af, g⟩ :: rest) e w := by
  obtain ⟨o, hb, cs, rfl, hs, hcs⟩ := st.get (b, Row t m f) (by simp)
  simp only at hb
  have hsh : w.shape? b = some (t, m) := by unfold World.shape?; rw [hb]; simp [hs]
  have hlt : b < w.heap.size := (Array.getElem?_eq_some_iff.1 hb).1
  have hget : (w.freeze ⟨b, m, none⟩ 1).heap[b]? = some (.cells cs t (m, m + 1)) := by
    unfold World.freeze
    rw [if_neg (by decide)]
    simp only [Array.getElem?_modify, if_true]
    rw [hb]
    simp
  have hoth : ∀ k, k ≠ b → (w.freeze ⟨b, m, none⟩ 1).heap[k]? = w.heap[k]? := fun k hk => by
    unfold World.freeze
    rw [if_neg (by decide)]
    simp only [Array.getElem?_modify]
    rw [if_neg (Ne.symm hk)]
  refine WL.v (v := .slice (some ⟨b, 0, none⟩) nn c) (w' := w.freeze ⟨b, m, none⟩ 1) ?_ (by simpa [cov, noSel, Op.operands] using hc) hn hg (k _ (st.exch (o := .cells cs t (m, m + 1)) rfl rfl rfl (by unfold World.freeze; rw [if_neg (by decide)]; simp) hget ⟨cs, rfl, hs, hcs⟩ hoth))
  simp [execOp, hx, convert, run_underlying hu, run_underlying he, markStringish, hsh]

/-- 'copy' of as many cells as the target holds. -/
theorem WL.copyC {dT sT el b o t mm m c1 c2 bx ox : Nat} {f news : Nat → Value} (st : St w0 M ((b, Row t mm f) :: l) w) (hT : slT P dT = some (el, 1)) (hx : ev e x = .slice (some ⟨b, o, none⟩) m c1) (hy : ev e y = .slice (some ⟨bx, ox, none⟩) m c2)
    (hin : o + m ≤ mm) (hnews : ∀ j, j < m → w.cell? ⟨bx, ox + j, none⟩ = some (news j)) (h1 : ∀ j, j < m → (news j).oneCell' = true) (hc : (okX e x && okX e y) = true) (hn : Nat.blt d n = true) (hg : wantE ops e g = true)
    (k : ∀ w', St w0 M ((b, Row t mm (upds f o m news)) :: l) w' → WL P ops Q n ds rest ((d, .int .i64 (m : Nat)) :: e) w') :
    WL P ops Q n ds (⟨some d, .call ⟨.builtin .copy, #[x, y], #[dT, sT]⟩, ty, pos, af, g⟩ :: rest) e w := by
  obtain ⟨hu, i, hi, hi1⟩ := slT_spec hT
  obtain ⟨ob, hb, cs, rfl, hs, hcs⟩ := st.get (b, Row t mm f) (by simp)
  simp only at hb
  have hr := run_copy_row (P := P) w dT sT ty el b o m c1 ⟨bx, ox, none⟩ m c2 cs t ((List.range m).map news) hu (by simp [hi, hi1]) hb (by simp) (fun j u hj => by
      by_cases hj' : j < m
      · simp [hj'] at hj; subst hj; rw [Addr.add_none]; exact hnews j hj'
      · simp [hj'] at hj) (by simp; omega) (fun u hu' => by obtain ⟨j, hj, rfl⟩ := List.mem_map.1 hu'; exact h1 j (List.mem_range.1 hj))
  refine WL.v (v := .int .i64 (m : Nat)) (w' := w.setRow b (cs.toList.take o ++ (List.range m).map news ++ cs.toList.drop (o + ((List.range m).map news).length)).toArray) ?_ (by simpa [cov, noSel, Op.operands, Call.operands] using hc) hn hg (k _ (st.setRow hb ⟨_, rfl, ?_, fun j hj => ?_⟩))
  · simp only [execOp, resolve, invoke, builtin]
    simp [hx, hy, hr, goInt]
  · simp [List.length_take, List.length_drop]; omega
  · have hl : (cs.toList.take o).length = o := by simp; omega
    simp only [upds_eq, List.getElem?_toArray, List.length_map, List.length_range]
    by_cases c1 : j < o
    · rw [if_neg (by omega), List.append_assoc, List.getElem?_append_left (by omega), List.getElem?_take, if_pos c1]
      simpa using hcs j hj
    · by_cases c2 : j < o + m
      · rw [if_pos ⟨by omega, c2⟩, List.append_assoc, List.getElem?_append_right (by omega), List.getElem?_append_left (by simp; omega), hl]
        simp [show j - o < m by omega]
      · rw [if_neg (by omega), List.append_assoc, List.getElem?_append_right (by omega), List.getElem?_append_right (by simp; omega), hl, List.getElem?_drop]
        simp only [List.length_map, List.length_range]
        rw [show o + m + (j - o - m) = j by omega]
        simpa using hcs j hj
end

section
variable {P : Program} {ρ : Operand → Value} {w : World} {d : Option Tmp} {ty : TypeId} {pos : String} {af : Array Edge} {g : Option (Nat × Bool)} {x y z : Operand}

/-- The string of a slice of bytes. -/
theorem r_bstr {S D el : Nat} {s : SV} (hS : P.underlying S = some (.slice el)) (he : P.underlying el = some (.int .u8)) (hD : P.underlying D = some .string) (hs : s.ok) (hr : s.rd w) (hx : ρ x = s.v) :
    (execOp ρ ⟨d, .convert S D x, ty, pos, af, g⟩).run P w = .ok (.value (.string (strOfNums s.bs))) w := by
  by_cases h0 : s.bs.length = 0
  · have hnil : s.bs = [] := List.eq_nil_of_length_eq_zero h0
    have hx' : ρ x = .slice s.a 0 s.c := by rw [hx]; unfold SV.v; rw [h0]
    have hc : (convert S D (.slice s.a 0 s.c)).run P w = .ok (.string (strOfNums s.bs)) w := by
      cases ha : s.a with
      | none =>
        rw [run_convert_bytes_nil w S el hS he 0 s.c D hD, hnil]; rfl
      | some a =>
        rw [run_convert_bytes_string w S D el _ 0 s.c hS he hD, run_bytesToString w a 0 s.c [] (by simp [loadCells]; rfl), hnil]; rfl
    simp [execOp, hx', hc]
  · have hx' : ρ x = .slice (some ⟨s.b, s.o, none⟩) s.bs.length s.c := by rw [hx]; unfold SV.v; rw [hs.adr (by omega)]
    simp [execOp, hx', run_convert_bytes_arg w S el hS he s.b s.o s.bs.length s.c s.bs rfl hr D hD]
end
section
variable {P : Program} {ρ : Operand → Value} {w : World} {d : Option Tmp} {ty : TypeId} {pos : String} {af : Array Edge} {g : Option (Nat × Bool)} {x : Operand}
/-- A slice of a slice of bytes, by what it holds. -/
theorem r_slV {T e : Nat} (s : SV) {l h m : Nat} {lo hi mx : Option Operand} (hT : slT P T = some (e, 1)) (hx : ρ x = .slice s.a s.bs.length s.c) (hl : bnd ρ 0 l lo) (hh : bnd ρ s.bs.length h hi) (hm : bnd ρ s.c m mx) (hq : hi = none → mx = none)
    (h1 : l ≤ h) (h2 : h ≤ m) (h3 : m ≤ s.c) (h4 : h ≤ s.bs.length) : (execOp ρ ⟨d, .slice T x lo hi mx, ty, pos, af, g⟩).run P w = .ok (.value (s.sub l h m).v) w := by
  rw [r_sl hT hx hl hh hm hq h1 h2 h3, SV.sub_v h4]
end
section
variable {P : Program} {Q : Exit → Act → World → Prop} {n : Nat} {e : Env} {w w0 : World} {fn : Func} {R : Ending → World → Prop}

/-- A result that lies in memory, and one that doesn't. -/
theorem WC.retCT {t u T bl off : Nat} {vs : List Value} (hr : fn.results = #[.cell t T, .tmp u]) (hq : ∀ a w, bodyPost P fn R .ret a w → Q .ret a w) (hk : (knows e t && knows e u) = true) (hT : aggT P T = some vs.length) (hx : look e t = .pointer (some ⟨bl, off, none⟩)) (hc : Cells w bl off vs)
    (h : R (.returned (.tuple #[.agg vs.toArray, look e u])) w) : WC P .ret Q n [] e w := by
  intro a ha
  simp only [Bool.and_eq_true] at hk
  refine wp_ret (hq a w (bodyPost_ret ?_ ha.defers h))
  obtain ⟨h1, i, h2, h3⟩ := aggT_spec hT w
  have h4 := run_loadCells_list (P := P) w ⟨bl, off, none⟩ vs (fun j v hj => by rw [Addr.add_none]; exact hc.spec j v hj)
  simp only [loadCells] at h4
  have hp : a.tmps[t]?.getD undef = .pointer (some ⟨bl, off, none⟩) := by
    have := ha.getD hk.1
    rw [hx] at this
    simpa using this
  have hu : a.tmps[u]?.getD undef = look e u := by simpa using ha.getD hk.2
  simp [results, hr, hp, hu, asAddr, loadVar, h1, run_sizeOf h2, h3, h4, go_sem]

theorem WC.retCTT {t u u' T bl off : Nat} {vs : List Value} (hr : fn.results = #[.cell t T, .tmp u, .tmp u']) (hq : ∀ a w, bodyPost P fn R .ret a w → Q .ret a w) (hk : (knows e t && knows e u && knows e u') = true) (hT : aggT P T = some vs.length) (hx : look e t = .pointer (some ⟨bl, off, none⟩)) (hc : Cells w bl off vs)
    (h : R (.returned (.tuple #[.agg vs.toArray, look e u, look e u'])) w) : WC P .ret Q n [] e w := by
  intro a ha
  simp only [Bool.and_eq_true] at hk
  refine wp_ret (hq a w (bodyPost_ret ?_ ha.defers h))
  obtain ⟨h1, i, h2, h3⟩ := aggT_spec hT w
  have h4 := run_loadCells_list (P := P) w ⟨bl, off, none⟩ vs (fun j v hj => by rw [Addr.add_none]; exact hc.spec j v hj)
  simp only [loadCells] at h4
  have hp : a.tmps[t]?.getD undef = .pointer (some ⟨bl, off, none⟩) := by
    have := ha.getD hk.1.1
    rw [hx] at this
    simpa using this
  have hu : a.tmps[u]?.getD undef = look e u := by simpa using ha.getD hk.1.2
  have hu' : a.tmps[u']?.getD undef = look e u' := by simpa using ha.getD hk.2
  simp [results, hr, hp, hu, hu', asAddr, loadVar, h1, run_sizeOf h2, h3, h4, go_sem]
end
end Go.E1
