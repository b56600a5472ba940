import Derived.Test.Qxb6500834aGreatDoorE32
import Derived.ChangeKeysEq
import Derived.Laws.StructEq
-- E33: == and != on arrays and structs of integers and bools, cell by cell
set_option linter.unusedVariables false
set_option linter.unusedSimpArgs false
namespace Go.E1
variable {P : Program}

/-- One cell's kind: true for a bool, false for an integer. -/
def KFit (k : Bool) (a b : Value) : Prop := (k = true ∧ ∃ p q, a = .bool p ∧ b = .bool q) ∨ (k = false ∧ ∃ κ p q, a = .int κ p ∧ b = .int κ q)
def kindsB (P : Program) : Nat → TypeId → Option (List Bool)
  | 0, _ => none
  | d + 1, T => match P.underlying T with
    | some (.int _) => if P.cellsOf T = 1 then some [false] else none
    | some .bool => if P.cellsOf T = 1 then some [true] else none
    | some (.array n e) => match kindsB P d e with
      | some l => if l.length = P.cellsOf e ∧ P.cellsOf T = n * l.length then some ((List.replicate n l).flatten) else none
      | none => none
    | some (.struct fs) => if P.stoodInHeld T then none else go (kindsB P d) fs.toList 0 (P.cellsOf T)
    | _ => none
where
  go (rec : TypeId → Option (List Bool)) : List Field → Nat → Nat → Option (List Bool)
    | [], o, n => if o = n then some [] else none
    | f :: fs, o, n => match rec f.type with
      | some l => if f.offset = o ∧ f.name ≠ "_" ∧ l.length = P.cellsOf f.type then (go rec fs (o + l.length) n).map (l ++ ·) else none
      | none => none
theorem kindsB_len : ∀ (d : Nat) {T : TypeId} {ks : List Bool}, kindsB P d T = some ks → ks.length = P.cellsOf T := by
  have hgo : ∀ (rec : TypeId → Option (List Bool)) (fs : List Field) (o n : Nat) (ks : List Bool), kindsB.go P rec fs o n = some ks → o + ks.length = n := by
    intro rec fs
    induction fs with
    | nil =>
      intro o n ks h
      unfold kindsB.go at h
      split at h
      · rename_i e; cases h; exact e
      · cases h
    | cons f fs ih =>
      intro o n ks h
      unfold kindsB.go at h
      split at h
      · rename_i l hl
        split at h
        · cases hg : kindsB.go P rec fs (o + l.length) n with
          | none => rw [hg] at h; cases h
          | some k2 => rw [hg] at h; cases h; have := ih _ _ _ hg; rw [List.length_append]; omega
        · cases h
      · cases h
  intro d T ks h
  cases d with
  | zero => cases h
  | succ d =>
    unfold kindsB at h
    split at h
    · split at h
      · rename_i e; cases h; rw [e]; rfl
      · cases h
    · split at h
      · rename_i e; cases h; rw [e]; rfl
      · cases h
    · split at h
      · rename_i l hl
        split at h
        · rename_i e; cases h; rw [e.2, List.length_flatten, List.map_replicate, List.sum_replicate_nat]
        · cases h
      · cases h
    · split at h
      · cases h
      · have := hgo _ _ _ _ _ h; omega
    · cases h
def CFit (ks : List Bool) (xs ys : Array Value) (o : Nat) : Prop := ∀ i, i < ks.length → ∃ a b, xs[o + i]? = some a ∧ ys[o + i]? = some b ∧ KFit (ks[i]?.getD false) a b
def Same (n : Nat) (xs ys : Array Value) (o : Nat) : Prop := ∀ i, i < n → xs[o + i]? = ys[o + i]?
def EqOK (P : Program) (dd : Nat) (T : TypeId) (ks : List Bool) : Prop := ∀ (w : World) (xs ys : Array Value) (o : Nat), CFit ks xs ys o →
  ∃ x y r, (part T xs o).run P w = .ok x w ∧ (part T ys o).run P w = .ok y w ∧ (Op.equalIn dd T x y).run P w = .ok r w ∧ (r = true ↔ Same ks.length xs ys o)
theorem CFit.left {k1 k2 : List Bool} {xs ys : Array Value} {o : Nat} (h : CFit (k1 ++ k2) xs ys o) : CFit k1 xs ys o := fun i hi => by
  obtain ⟨a, b, h1, h2, h3⟩ := h i (by rw [List.length_append]; omega)
  rw [List.getElem?_append_left hi] at h3
  exact ⟨a, b, h1, h2, h3⟩
theorem CFit.right {k1 k2 : List Bool} {xs ys : Array Value} {o : Nat} (h : CFit (k1 ++ k2) xs ys o) : CFit k2 xs ys (o + k1.length) := fun i hi => by
  obtain ⟨a, b, h1, h2, h3⟩ := h (k1.length + i) (by rw [List.length_append]; omega)
  rw [List.getElem?_append_right (by omega), show k1.length + i - k1.length = i by omega] at h3
  rw [Nat.add_assoc]
  exact ⟨a, b, h1, h2, h3⟩
theorem Same.app {n m : Nat} {xs ys : Array Value} {o : Nat} : Same (n + m) xs ys o ↔ Same n xs ys o ∧ Same m xs ys (o + n) := by
  constructor
  · intro h
    exact ⟨fun i hi => h i (by omega), fun i hi => by rw [Nat.add_assoc]; exact h (n + i) (by omega)⟩
  · rintro ⟨h1, h2⟩ i hi
    by_cases h : i < n
    · exact h1 i h
    · have := h2 (i - n) (by omega)
      rw [Nat.add_assoc, show n + (i - n) = i by omega] at this
      exact this
theorem extract_get {xs : Array Value} {o n i : Nat} (hi : i < n) (h : o + n ≤ xs.size) : (xs.extract o (o + n))[i]? = xs[o + i]? := by
  rw [Array.getElem?_extract, if_pos (by omega)]
theorem CFit.size {ks : List Bool} {xs ys : Array Value} {o : Nat} (h : CFit ks xs ys o) (h0 : 0 < ks.length) : o + ks.length ≤ xs.size ∧ o + ks.length ≤ ys.size := by
  obtain ⟨a, b, h1, h2, -⟩ := h (ks.length - 1) (by omega)
  have e1 := (Array.getElem?_eq_some_iff.1 h1).1
  have e2 := (Array.getElem?_eq_some_iff.1 h2).1
  omega
theorem items_ok {dd : Nat} {e : TypeId} {l : List Bool} (hl : l.length = P.cellsOf e) (IH : EqOK P dd e l) (w : World) (xs ys : Array Value) : ∀ (n a : Nat), CFit ((List.replicate n l).flatten) xs ys (a * l.length) →
    ∃ r : Bool, (Op.eqItems dd e (P.cellsOf e) xs ys (List.range' a n)).run P w = .ok r w ∧ (r = true ↔ Same (n * l.length) xs ys (a * l.length))
  | 0, a, _ => ⟨true, rfl, by simp [Same]⟩
  | n + 1, a, hF => by
    rw [List.replicate_succ, List.flatten_cons] at hF
    obtain ⟨x, y, r, p1, p2, p3, hr⟩ := IH w xs ys (a * l.length) hF.left
    have hF2 := hF.right
    rw [show a * l.length + l.length = (a + 1) * l.length by rw [Nat.succ_mul]] at hF2
    obtain ⟨r', q, hr'⟩ := items_ok hl IH w xs ys n (a + 1) hF2
    rw [List.range'_succ]
    unfold Op.eqItems
    rw [← hl] at q ⊢
    simp only [Sem.run_bind, p1, p2, p3, Result.andThen_ok]
    rw [show (n + 1) * l.length = l.length + n * l.length by rw [Nat.succ_mul]; omega, Same.app, ← hr, show a * l.length + l.length = (a + 1) * l.length by rw [Nat.succ_mul], ← hr']
    cases r with
    | false => exact ⟨false, by simp, by simp⟩
    | true => exact ⟨r', by simpa using q, by simp⟩
theorem fields_ok {dd : Nat} {rec : TypeId → Option (List Bool)} (IH : ∀ T ks, rec T = some ks → EqOK P dd T ks) (w : World) (xs ys : Array Value) : ∀ (fs : List Field) (o n : Nat) (ks : List Bool), kindsB.go P rec fs o n = some ks → CFit ks xs ys o →
    ∃ r : Bool, (Op.eqFields dd xs ys fs).run P w = .ok r w ∧ (r = true ↔ Same ks.length xs ys o)
  | [], o, n, ks, h, _ => by
    unfold kindsB.go at h
    split at h
    · cases h; exact ⟨true, rfl, by simp [Same]⟩
    · cases h
  | f :: fs, o, n, ks, h, hF => by
    unfold kindsB.go at h
    split at h
    · rename_i l hl
      split at h
      · rename_i he
        cases hg : kindsB.go P rec fs (o + l.length) n with
        | none => rw [hg] at h; cases h
        | some k2 =>
          rw [hg] at h
          cases h
          obtain ⟨x, y, r, p1, p2, p3, hr⟩ := IH _ _ hl w xs ys o hF.left
          obtain ⟨r', q, hr'⟩ := fields_ok IH w xs ys fs (o + l.length) n k2 hg hF.right
          unfold Op.eqFields
          rw [if_pos he.2.1, he.1]
          simp only [Sem.run_bind, p1, p2, p3, Result.andThen_ok]
          rw [List.length_append, Same.app, ← hr, ← hr']
          cases r with
          | false => exact ⟨false, by simp, by simp⟩
          | true => exact ⟨r', by simpa using q, by simp⟩
      · cases h
    · cases h
theorem eqOK (m : Nat) : ∀ (d : Nat) (T : TypeId) (ks : List Bool), kindsB P d T = some ks → EqOK P (m + d) T ks
  | 0, _, _, h => by cases h
  | d + 1, T, ks, h => by
    have hlen := kindsB_len (d + 1) h
    intro w xs ys o hF
    unfold kindsB at h
    split at h
    · rename_i k hu
      split at h
      · cases h
        obtain ⟨a, b, h1, h2, h3⟩ := hF 0 (by decide)
        rcases h3 with ⟨h3, -⟩ | ⟨-, κ, p, q, rfl, rfl⟩
        · cases h3
        have e1 : (part T xs o).run P w = .ok (.int κ p) w := run_part_int hu h1
        have e2 : (part T ys o).run P w = .ok (.int κ q) w := run_part_int hu h2
        refine ⟨_, _, p == q, e1, e2, run_equal_int (m + d) hu, ?_⟩
        constructor
        · intro hp i hi
          obtain rfl : i = 0 := by simpa using hi
          rw [h1, h2]; simp at hp; rw [hp]
        · intro hs
          have := hs 0 (by decide)
          rw [h1, h2] at this
          simp at this
          simpa using this
      · cases h
    · rename_i hu
      split at h
      · cases h
        obtain ⟨a, b, h1, h2, h3⟩ := hF 0 (by decide)
        rcases h3 with ⟨-, p, q, rfl, rfl⟩ | ⟨h3, -⟩
        rotate_left
        · cases h3
        have e1 : (part T xs o).run P w = .ok (.bool p) w := by simp [part, isAgg, run_underlying hu, show xs[o]? = some (.bool p) from h1, Result.andThen]
        have e2 : (part T ys o).run P w = .ok (.bool q) w := by simp [part, isAgg, run_underlying hu, show ys[o]? = some (.bool q) from h2, Result.andThen]
        refine ⟨_, _, p == q, e1, e2, run_equalIn_bool w (m + d) T p q hu, ?_⟩
        constructor
        · intro hp i hi
          obtain rfl : i = 0 := by simpa using hi
          rw [h1, h2]; simp at hp; rw [hp]
        · intro hs
          have := hs 0 (by decide)
          rw [h1, h2] at this
          simp at this
          simpa using this
      · cases h
    · rename_i n e hu
      split at h
      · rename_i l hl
        split at h
        · rename_i he
          cases h
          obtain ⟨i, hi⟩ := Go.info_of_underlying hu
          have hie : ∃ i, P.info? e = some i := by
            cases d with
            | zero => cases hl
            | succ d =>
              unfold kindsB at hl
              split at hl <;> first | exact Go.info_of_underlying ‹_› | cases hl
          obtain ⟨ie, hie⟩ := hie
          have hfl : ((List.replicate n l).flatten).length = n * l.length := by rw [List.length_flatten, List.map_replicate, List.sum_replicate_nat]
          have e1 : ∀ zs : Array Value, (part T zs o).run P w = .ok (.agg (zs.extract o (o + P.cellsOf T))) w := fun zs => by simp [part, isAgg, run_underlying hu, Go.run_sizeOf w hi]
          have hsz : 0 < n * l.length → o + P.cellsOf T ≤ xs.size ∧ o + P.cellsOf T ≤ ys.size := fun h0 => by
            have := hF.size (by omega)
            rw [hlen] at this
            exact this
          have hget : ∀ i, i < n * l.length → (xs.extract o (o + P.cellsOf T))[i]? = xs[o + i]? ∧ (ys.extract o (o + P.cellsOf T))[i]? = ys[o + i]? := fun i hi => by
            have := hsz (by omega)
            exact ⟨extract_get (by omega) this.1, extract_get (by omega) this.2⟩
          have hF' : CFit ((List.replicate n l).flatten) (xs.extract o (o + P.cellsOf T)) (ys.extract o (o + P.cellsOf T)) (0 * l.length) := fun i hi => by
            obtain ⟨a, b, h1, h2, h3⟩ := hF i hi
            have := hget i (by omega)
            rw [Nat.zero_mul, Nat.zero_add, this.1, this.2]
            exact ⟨a, b, h1, h2, h3⟩
          obtain ⟨r, hr, hiff⟩ := items_ok he.1 (eqOK m d e l hl) w _ _ n 0 hF'
          refine ⟨_, _, r, e1 xs, e1 ys, ?_, ?_⟩
          · rw [show m + (d + 1) = (m + d) + 1 from rfl, Go.run_equalIn_array w (m + d) _ _ hu hie, List.range_eq_range']
            exact hr
          · rw [hiff, hfl]
            constructor
            · intro hs i hi
              have := hs i hi
              rw [Nat.zero_mul, Nat.zero_add, (hget i hi).1, (hget i hi).2] at this
              exact this
            · intro hs i hi
              rw [Nat.zero_mul, Nat.zero_add, (hget i hi).1, (hget i hi).2]
              exact hs i hi
        · cases h
      · cases h
    · rename_i fs hu
      split at h
      · cases h
      · rename_i hsi
        obtain ⟨i, hi⟩ := Go.info_of_underlying hu
        have e1 : ∀ zs : Array Value, (part T zs o).run P w = .ok (.agg (zs.extract o (o + P.cellsOf T))) w := fun zs => by simp [part, isAgg, run_underlying hu, Go.run_sizeOf w hi]
        have hget : ∀ i, i < ks.length → (xs.extract o (o + P.cellsOf T))[i]? = xs[o + i]? ∧ (ys.extract o (o + P.cellsOf T))[i]? = ys[o + i]? := fun i hi => by
          have := hF.size (by omega)
          rw [hlen] at this
          exact ⟨extract_get (by omega) this.1, extract_get (by omega) this.2⟩
        have hF' : CFit ks (xs.extract o (o + P.cellsOf T)) (ys.extract o (o + P.cellsOf T)) 0 := fun i hi => by
          obtain ⟨a, b, h1, h2, h3⟩ := hF i hi
          have := hget i (by omega)
          rw [Nat.zero_add, this.1, this.2]
          exact ⟨a, b, h1, h2, h3⟩
        obtain ⟨r, hr, hiff⟩ := fields_ok (eqOK m d) w _ _ fs.toList 0 _ ks h hF'
        refine ⟨_, _, r, e1 xs, e1 ys, ?_, ?_⟩
        · have hfs : P.fieldsOf T = fs := by simp [Program.fieldsOf, hu]
          rw [show m + (d + 1) = (m + d) + 1 from rfl, Go.run_equalIn_struct w (m + d) T _ _ (by rw [hfs]; exact hu) (by simpa using hsi), hfs]
          exact hr
        · rw [hiff]
          constructor
          · intro hs i hi
            have := hs i hi
            rw [Nat.zero_add, (hget i hi).1, (hget i hi).2] at this
            exact this
          · intro hs i hi
            rw [Nat.zero_add, (hget i hi).1, (hget i hi).2]
            exact hs i hi
    · cases h

variable {ρ : Operand → Value} {w : World} {d : Option Tmp} {ty : TypeId} {pos : String} {af : Array Edge} {g : Option (Nat × Bool)} {x y : Operand}
/-- What may be compared as a row: its cells' kinds. -/
def eqT (P : Program) (T : TypeId) : Option (List Bool) := if P.eqGuardType P.depth T then none else match P.underlying T with
  | some (.array _ _) | some (.struct _) => kindsB P 8 T
  | _ => none
theorem eqT_run {T : TypeId} {ks : List Bool} {n : Nat} {F G : Nat → Value} {b : Bool} (hT : eqT P T = some ks) (hn : ks.length = n) (hk : ∀ i, i < n → KFit (ks[i]?.getD false) (F i) (G i)) (hb : b = true ↔ ∀ i, i < n → F i = G i) :
    (Op.equal T (.agg (mkA n F)) (.agg (mkA n G))).run P w = .ok b w ∧ P.eqGuardType P.depth T = false := by
  unfold eqT at hT
  split at hT
  · cases hT
  rename_i hg
  have hu : ∃ i, P.info? T = some i ∧ kindsB P 8 T = some ks ∧ ∀ zs : Array Value, (part T zs 0).run P w = .ok (.agg (zs.extract 0 (0 + P.cellsOf T))) w := by
    split at hT
    · rename_i hu
      obtain ⟨i, hi⟩ := Go.info_of_underlying hu
      exact ⟨i, hi, hT, fun zs => by simp [part, isAgg, run_underlying hu, Go.run_sizeOf w hi]⟩
    · rename_i hu
      obtain ⟨i, hi⟩ := Go.info_of_underlying hu
      exact ⟨i, hi, hT, fun zs => by simp [part, isAgg, run_underlying hu, Go.run_sizeOf w hi]⟩
    · cases hT
  obtain ⟨i, hi, hks, hpart⟩ := hu
  have hlen := kindsB_len 8 hks
  have hsz : ∀ H : Nat → Value, (mkA n H).extract 0 (0 + P.cellsOf T) = mkA n H := fun H => by
    have e : (mkA n H).size = n := by simp [mkA]
    have e2 : (mkA n H).extract 0 (mkA n H).size = mkA n H := Array.extract_size
    rw [e] at e2
    rw [Nat.zero_add, ← hlen, hn]
    exact e2
  obtain ⟨x, y, r, p1, p2, p3, hr⟩ := eqOK 9992 8 T ks hks w (mkA n F) (mkA n G) 0 fun j hj => by
    rw [Nat.zero_add, mkA_get (by omega), mkA_get (by omega)]
    exact ⟨_, _, rfl, rfl, hk j (by omega)⟩
  rw [hpart, hsz] at p1 p2
  cases p1
  cases p2
  refine ⟨?_, by simpa using hg⟩
  have hrb : r = b := by
    rw [Bool.eq_iff_iff, hr, hb, hn]
    constructor
    · intro h j hj
      have := h j hj
      rw [Nat.zero_add, mkA_get hj, mkA_get hj] at this
      exact Option.some.inj this
    · intro h j hj
      rw [Nat.zero_add, mkA_get hj, mkA_get hj, h j hj]
  rw [← hrb]
  exact p3
theorem r_aneq {T T' : TypeId} {ks : List Bool} {n : Nat} {F G : Nat → Value} {t : Bool} (hT : eqT P T = some ks) (hn : ks.length = n) (hx : ρ x = .agg (mkA n F)) (hy : ρ y = .agg (mkA n G)) (hk : ∀ i, i < n → KFit (ks[i]?.getD false) (F i) (G i)) (hb : t = false ↔ ∀ i, i < n → F i = G i) :
    (execOp ρ ⟨d, .binOp .neq T x y T', ty, pos, af, g⟩).run P w = .ok (.value (.bool t)) w := by
  have h := eqT_run (w := w) (b := !t) hT hn hk (by rw [← hb]; simp)
  simp [execOp, hx, hy, eqGuard, binOp, h.1, h.2]
theorem r_aeql {T T' : TypeId} {ks : List Bool} {n : Nat} {F G : Nat → Value} {t : Bool} (hT : eqT P T = some ks) (hn : ks.length = n) (hx : ρ x = .agg (mkA n F)) (hy : ρ y = .agg (mkA n G)) (hk : ∀ i, i < n → KFit (ks[i]?.getD false) (F i) (G i)) (hb : t = true ↔ ∀ i, i < n → F i = G i) :
    (execOp ρ ⟨d, .binOp .eql T x y T', ty, pos, af, g⟩).run P w = .ok (.value (.bool t)) w := by
  have h := eqT_run (w := w) (b := t) hT hn hk hb
  simp [execOp, hx, hy, eqGuard, binOp, h.1, h.2]
end Go.E1
