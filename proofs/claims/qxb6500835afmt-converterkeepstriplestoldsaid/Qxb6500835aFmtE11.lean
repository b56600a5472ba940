/-
  E11: a region that draws its order: operations that yield the same value in every world of a family are taken first (in an order of the prover's), the others follow in a forced order;
  the family is shown anew behind each of those that may come ahead of one of the first. No project text.
-/
import Derived.Test.Qxb6500835aFmtE10
import Derived.OrdersHeld
import Derived.StillTail
import Derived.Deep.RegionHeld3
set_option linter.unusedSimpArgs false
set_option linter.unusedVariables false
namespace Go.E1
open Go.RowKit

section
variable {P : Program} {ops : Array Oper} {Q : Exit → Act → World → Prop} {S : World → Prop}

/-- Whatever order is picked; S is shown behind each operation whose number is not among 'late'. -/
def wpAnyP (P : Program) (ops : Array Oper) (Q : Exit → Act → World → Prop) (S : World → Prop) (late : List Nat) : Nat → Array Bool → Act → World → Prop
  | 0, listed, a, w => Region.ready .any ops listed = [] ∧ Q .normal a w
  | f + 1, listed, a, w =>
    (Region.ready .any ops listed = [] → Q .normal a w) ∧
    ∀ i ∈ Region.ready .any ops listed, wpOp P ops Q i (fun a' w' => (i ∉ late → S w') ∧ wpAnyP P ops Q S late f (listed.setIfInBounds i true) a' w') a w

theorem wpAny_of_P {late : List Nat} : ∀ (f : Nat) (listed : Array Bool) (a : Act) (w : World), wpAnyP P ops Q S late f listed a w → wpAny P .any ops Q f listed a w
  | 0, _, _, _, h => h
  | f + 1, _, _, _, h => ⟨h.1, fun i hi => wpOp_mono (fun a' w' h' => wpAny_of_P f _ a' w' h'.2) (h.2 i hi)⟩

/-- Each of 'late' waits for number i. -/
def lateB (ops : Array Oper) (late : List Nat) (i : Nat) : Bool :=
  late.all fun j => match ops[j]? with
    | some o => o.after.any fun e => Region.binds .any e && e.on == i
    | none => true

theorem wpAnyP_first {late : List Nat} {i : Nat} {oi : Oper} {v : Value} (hi : ops[i]? = some oi) (hsel : ∀ (j : Nat) (o : Oper) cs b, ops[j]? = some o → o.op ≠ .select cs b) (hl : lateB ops late i = true)
    (hQ : ∀ c a w, ¬ Q (.panic c) a w) :
    ∀ (f : Nat) (listed : Array Bool) (a : Act) (w : World),
      (∀ j oj, ops[j]? = some oj → j ≠ i → listed.getD j true = false → (∀ e ∈ oj.after, Region.binds .any e = true → e.on ≠ i) → oi.apart ops oj = true) →
      i ∈ Region.ready .any ops listed → YieldsIf P ops S oi v a → S w →
      wpAnyP P ops Q S late f (listed.setIfInBounds i true) (a.put oi.dst v) w → wpAnyP P ops Q S late (f + 1) listed a w := by
  intro f
  induction f with
  | zero =>
    intro listed a w _ hr hy hS H
    refine ⟨fun h => (by rw [h] at hr; cases hr), fun j hj => ?_⟩
    by_cases hji : j = i
    · subst hji; exact hy.wpOp hi hS ⟨fun _ => hS, H⟩
    · have := ready_mono hj hji
      rw [H.1] at this
      cases this
  | succ f ih =>
    intro listed a w hfree hr hy hS H
    refine ⟨fun h => (by rw [h] at hr; cases hr), fun j hj => ?_⟩
    by_cases hji : j = i
    · subst hji; exact hy.wpOp hi hS ⟨fun _ => hS, H⟩
    · have h1 := H.2 j (ready_mono hj hji)
      obtain ⟨hjun, oj, hoj, hall⟩ := mem_ready.1 hj
      have hnot : ∀ e ∈ oj.after, Region.binds .any e = true → e.on ≠ i := fun e he hb heq => by
        have h1 := hall e he hb
        have h0 := (mem_ready.1 hr).1
        rw [heq] at h1
        rcases Nat.lt_or_ge i listed.size with h' | h'
        · simp [h'] at h0 h1; rw [h0] at h1; cases h1
        · simp [Array.getElem?_eq_none h'] at h1
      have hnl : j ∉ late := fun hm => by
        have h3 := List.all_eq_true.1 hl j hm
        simp only [hoj] at h3
        obtain ⟨e, he, h4⟩ := Array.any_eq_true'.1 h3
        simp only [Bool.and_eq_true, beq_iff_eq] at h4
        exact hnot e he h4.1 h4.2
      have h2 := wpOp_putIf hoj (hfree j oj hoj hji hjun hnot) (fun cs b => hsel i oi cs b hi) (fun cs b => hsel j oj cs b hoj) (fun c a w h => absurd h (hQ c _ w)) hy h1
      have hfree' : ∀ k ok, ops[k]? = some ok → k ≠ i → (listed.setIfInBounds j true).getD k true = false →
          (∀ e ∈ ok.after, Region.binds .any e = true → e.on ≠ i) → oi.apart ops ok = true := fun k ok hk hki hun hno => by
        refine hfree k ok hk hki ?_ hno
        by_cases hjk : j = k
        · subst hjk; exact hjun
        · rw [getD_set_ne true hjk] at hun; exact hun
      refine wpOp_mono (fun a' w' h3 => ⟨h3.2.1, ih (listed.setIfInBounds j true) a' w' hfree' (ready_mono hr (Ne.symm hji)) h3.1 (h3.2.1 hnl) ?_⟩) h2
      rw [Array.setIfInBounds_comm _ _ hji]
      exact h3.2.2

/-- The operations taken first, in the order hs. -/
def wpHeld (P : Program) (ops : Array Oper) (S : World → Prop) (K : Act → Prop) : List Oper → Act → Prop
  | [], a => K a
  | o :: l, a => if Region.wanted o (yielded ops a.tmps) then ∃ v, (∀ w, S w → (execOp a.eval o).run P w = .ok (.value v) w) ∧ wpHeld P ops S K l (a.put o.dst v) else wpHeld P ops S K l (a.put o.dst undef)

/-- Those that follow. -/
def wpSeqP (P : Program) (ops : Array Oper) (Q : Exit → Act → World → Prop) (S : World → Prop) (late : List Nat) : List (Nat × Oper) → Act → World → Prop
  | [], a, w => Q .normal a w
  | (i, o) :: l, a, w => wpList P ops (fun ex a' w' => match ex with
      | .normal => (i ∉ late → S w') ∧ wpSeqP P ops Q S late l a' w'
      | ex => Q ex a' w') [o] a w

/-- ts come in this order and in no other. -/
def seqTs (ops : Array Oper) : List Nat → Array Bool → Bool
  | [], listed => (Region.ready .any ops listed).isEmpty
  | t :: ts, listed => decide (Region.ready .any ops listed = [t]) && seqTs ops ts (listed.setIfInBounds t true)

/-- hs may be taken one by one; then ts come in this order and in no other. -/
def heldB (ops : Array Oper) (late : List Nat) (ts : List Nat) : List Nat → Array Bool → Bool
  | [], listed => seqTs ops ts listed
  | i :: hs, listed => (Region.ready .any ops listed).contains i && Region.free .any ops listed i && lateB ops late i && heldB ops late ts hs (listed.setIfInBounds i true)

def pick (lo : List Oper) (i : Nat) : Oper := lo.getD i ⟨none, .move (.const undef), 0, "", #[], none⟩

theorem pick_get {lo : List Oper} {i : Nat} (h : i < lo.length) : lo.toArray[i]? = some (pick lo i) := by
  simp [pick, h]

theorem wpList_one {o : Oper} {Q' : Exit → Act → World → Prop} {K : Act → World → Prop} {a : Act} {w : World} (hK : ∀ a w, Q' .normal a w → K a w) (hp : ∀ c a w, Q' (.panic c) a w → Q (.panic c) a w) (hl : LetsOut Q' → LetsOut Q)
    (h : wpList P ops Q' [o] a w) : (if Region.wanted o (yielded ops a.tmps) then o.wp P a w K Q ∨ (o.asks P a w ∧ LetsOut Q) else K (a.put o.dst undef) w) := by
  simp only [wpList] at h
  split
  · rename_i hw
    rw [if_pos hw] at h
    rcases h with h | h
    · refine .inl ?_
      unfold Oper.wp at *
      generalize (execOp a.eval o).run P w = r at *
      cases r with
      | ok x w' =>
        cases x <;> simp only [Oper.upon] at h ⊢
        case value u => exact hK _ _ h
        case skip => exact hK _ _ h
        case defer d => exact hK _ _ h
        case enter f args =>
          refine Calls.mono h fun e w'' he => ?_
          cases e with
          | returned u => exact hK _ _ he
          | panicked c => exact hp _ _ _ he
          | outgrown => exact hl he
        case row row args => exact Rows.mono h fun u w'' he => hK _ _ he
      | halt x w' =>
        cases x <;> simp only [Oper.upon] at h ⊢
        case panic u => exact hp _ _ _ h
    · exact .inr ⟨h.1, hl h.2⟩
  · rename_i hw
    rw [if_neg hw] at h
    exact hK _ _ h

theorem wpAnyP_of_seq {late : List Nat} {lo : List Oper} : ∀ (ts : List Nat) (f : Nat) (listed : Array Bool) (a : Act) (w : World), (ts.all fun i => Nat.blt i lo.length) = true → ts.length ≤ f → seqTs lo.toArray ts listed = true →
    wpSeqP P lo.toArray Q S late (ts.map fun i => (i, pick lo i)) a w → wpAnyP P lo.toArray Q S late f listed a w
  | [], f, listed, a, w, _, _, hB, h => by
    have h0 : Region.ready .any lo.toArray listed = [] := by simpa [seqTs] using hB
    cases f with
    | zero => exact ⟨h0, h⟩
    | succ f => exact ⟨fun _ => h, by rw [h0]; simp⟩
  | t :: ts, f, listed, a, w, hlt, hf, hB, h => by
    cases f with
    | zero => simp at hf
    | succ f =>
      simp only [seqTs, Bool.and_eq_true, decide_eq_true_eq] at hB
      simp only [List.all_cons, Bool.and_eq_true] at hlt
      refine ⟨fun h1 => (by rw [hB.1] at h1; cases h1), fun i hi => ?_⟩
      rw [hB.1] at hi
      obtain rfl : i = t := by simpa using hi
      unfold wpOp
      rw [pick_get (Nat.blt_eq.mp hlt.1)]
      simp only
      refine wpList_one (Q := Q) (Q' := fun ex a' w' => match ex with
        | .normal => (i ∉ late → S w') ∧ wpSeqP P lo.toArray Q S late (ts.map fun i => (i, pick lo i)) a' w'
        | ex => Q ex a' w') (fun a' w' h' => ?_) (fun c a w h => h) (fun h => h) h
      exact ⟨h'.1, wpAnyP_of_seq ts f _ a' w' hlt.2 (by simp at hf; omega) hB.2 h'.2⟩

theorem wpAnyP_held {late ts : List Nat} {lo : List Oper} {w : World} (hsel : Region.noSelect lo.toArray = true) (hQ : ∀ c a w, ¬ Q (.panic c) a w) (hts : (ts.all fun i => Nat.blt i lo.length) = true) (hS : S w) :
    ∀ (hs : List Nat) (f : Nat) (listed : Array Bool) (a : Act), (hs.all fun i => Nat.blt i lo.length) = true → hs.length + ts.length ≤ f → heldB lo.toArray late ts hs listed = true →
    wpHeld P lo.toArray S (fun a' => wpSeqP P lo.toArray Q S late (ts.map fun i => (i, pick lo i)) a' w) (hs.map (pick lo)) a → wpAnyP P lo.toArray Q S late f listed a w
  | [], f, listed, a, _, hf, hB, h => wpAnyP_of_seq ts f listed a w hts (by simpa using hf) hB h
  | i :: hs, 0, listed, a, _, hf, _, _ => by simp at hf
  | i :: hs, f + 1, listed, a, hlt, hf, hB, h => by
    simp only [heldB, Bool.and_eq_true] at hB
    obtain ⟨⟨⟨hr, hfr⟩, hl⟩, hB'⟩ := hB
    simp only [List.all_cons, Bool.and_eq_true] at hlt
    have hi := pick_get (Nat.blt_eq.mp hlt.1)
    have go : ∀ v, YieldsIf P lo.toArray S (pick lo i) v a → wpHeld P lo.toArray S (fun a' => wpSeqP P lo.toArray Q S late (ts.map fun i => (i, pick lo i)) a' w) (hs.map (pick lo)) (a.put (pick lo i).dst v) →
        wpAnyP P lo.toArray Q S late (f + 1) listed a w := fun v hy h' =>
      wpAnyP_first hi (Region.noSelect_spec hsel) hl hQ f listed a w (Region.free_spec hi hfr) (by simpa using hr) hy hS
        (wpAnyP_held hsel hQ hts hS hs f _ _ hlt.2 (by simp at hf; omega) hB' h')
    simp only [List.map_cons, wpHeld] at h
    split at h
    · rename_i hw
      obtain ⟨v, hv, h⟩ := h
      exact go v (.inl ⟨hw, hv⟩) h
    · rename_i hw
      exact go undef (.inr ⟨by simpa using hw, rfl⟩) h

/-- The whole check, closed. -/
def heldAll (lo : List Oper) (late hs ts : List Nat) : Bool :=
  Region.noSelect lo.toArray && (ts.all fun i => Nat.blt i lo.length) && (hs.all fun i => Nat.blt i lo.length) && Nat.ble (hs.length + ts.length) lo.length && heldB lo.toArray late ts hs (Array.replicate lo.length false)

theorem wp_region_P {id : Nat} {lo : List Oper} {late hs ts : List Nat} {a : Act} {w : World} (hm : P.follows .mixedOrders = true) (hB : heldAll lo late hs ts = true) (hS : S w.drew)
    (h : wpHeld P lo.toArray S (fun a' => wpSeqP P lo.toArray (NoPanic Q) S late (ts.map fun i => (i, pick lo i)) a' w.drew) (hs.map (pick lo)) a) : (Code.region id lo.toArray true).wp P Q a w := by
  simp only [heldAll, Bool.and_eq_true] at hB
  obtain ⟨⟨⟨⟨h1, h2⟩, h3⟩, h4⟩, h5⟩ := hB
  refine wp_region_noPanic (wp_region_any hm (wpAny_of_P (S := S) (late := late) _ _ _ _ ?_))
  have := wpAnyP_held (P := P) (Q := NoPanic Q) (w := w.drew) h1 (fun c a w h => h) h2 hS hs lo.toArray.size (Array.replicate lo.toArray.size false) a h3 (by simpa using Nat.le_of_ble_eq_true h4) (by simpa using h5) h
  exact this
end

/-! ### In terms of what is known of the frame -/

def HL (P : Program) (ops : Array Oper) (S : World → Prop) (K : Act → Prop) (n : Nat) (ds : List Deferred) (l : List Oper) (e : Env) : Prop := ∀ a, Fits a n ds e → wpHeld P ops S K l a
def TL (P : Program) (ops : Array Oper) (Q : Exit → Act → World → Prop) (S : World → Prop) (late : List Nat) (n : Nat) (ds : List Deferred) (l : List (Nat × Oper)) (e : Env) (w : World) : Prop := ∀ a, Fits a n ds e → wpSeqP P ops Q S late l a w

section
variable {P : Program} {ops : Array Oper} {S : World → Prop} {K : Act → Prop} {Q : Exit → Act → World → Prop} {n : Nat} {ds : List Deferred} {rest : List Oper} {e : Env} {w : World} {late : List Nat}
variable {d : Nat} {op : Op} {ty : TypeId} {pos : String} {af : Array Edge} {g : Option (Nat × Bool)} {val : Value}

theorem HL.v (hr : ∀ w, S w → (execOp (ev e) ⟨some d, op, ty, pos, af, g⟩).run P w = .ok (.value val) w) (hc : cov e op = true) (hn : Nat.blt d n = true) (hg : wantE ops e g = true)
    (k : HL P ops S K n ds rest ((d, val) :: e)) : HL P ops S K n ds (⟨some d, op, ty, pos, af, g⟩ :: rest) e := by
  intro a ha
  unfold wpHeld
  rw [if_pos (wanted_of ha hg)]
  exact ⟨val, fun w hw => by rw [ha.exec hc]; exact hr w hw, k _ (ha.put hn val)⟩

theorem HL.vn (hr : ∀ w, S w → (execOp (ev e) ⟨none, op, ty, pos, af, g⟩).run P w = .ok (.value val) w) (hc : cov e op = true) (hg : wantE ops e g = true)
    (k : HL P ops S K n ds rest e) : HL P ops S K n ds (⟨none, op, ty, pos, af, g⟩ :: rest) e := by
  intro a ha
  unfold wpHeld
  rw [if_pos (wanted_of ha hg)]
  exact ⟨val, fun w hw => by rw [ha.exec hc]; exact hr w hw, k _ ha⟩

theorem HL.no (hn : Nat.blt d n = true) (hg : wantN ops e g = true) (k : HL P ops S K n ds rest ((d, undef) :: e)) : HL P ops S K n ds (⟨some d, op, ty, pos, af, g⟩ :: rest) e := by
  intro a ha
  unfold wpHeld
  rw [if_neg (by rw [wanted_not ha hg]; simp)]
  exact k _ (ha.put hn undef)

theorem HL.fin {X : Env → Prop} (hK : ∀ e', X e' → ∀ a, Fits a n ds e' → K a) (k : X e) : HL P ops S K n ds [] e := fun a ha => hK e k a ha

/-- The post behind one operation of the tail. -/
def PostP (P : Program) (ops : Array Oper) (Q : Exit → Act → World → Prop) (S : World → Prop) (late : List Nat) (i : Nat) (l : List (Nat × Oper)) : Exit → Act → World → Prop :=
  fun ex a' w' => match ex with
    | .normal => (i ∉ late → S w') ∧ wpSeqP P ops Q S late l a' w'
    | ex => Q ex a' w'

theorem TL.at {i : Nat} {o : Oper} {l : List (Nat × Oper)} (h : WL P ops (PostP P ops Q S late i l) n ds [o] e w) : TL P ops Q S late n ds ((i, o) :: l) e w := fun a ha => h a ha

/-- Behind an operation. -/
theorem TL.nxt {i : Nat} {l : List (Nat × Oper)} (hS : S w) (k : TL P ops Q S late n ds l e w) : WL P ops (PostP P ops Q S late i l) n ds [] e w := fun a ha => ⟨fun _ => hS, k a ha⟩
/-- Behind a late one. -/
theorem TL.nxt' {i : Nat} {l : List (Nat × Oper)} (hi : late.contains i = true) (k : TL P ops Q S late n ds l e w) : WL P ops (PostP P ops Q S late i l) n ds [] e w :=
  fun a ha => ⟨fun h => absurd (by simpa using hi) h, k a ha⟩
theorem TL.wl (k : WL P ops Q n ds [] e w) : TL P ops (NoPanic Q) S late n ds [] e w := fun a ha => k a ha
theorem QL.wl {C : World → Prop} {l : List HI} {w0 : World} {M : Nat → Prop} {Kq : Act → Prop}
    (hKq : ∀ e', (∀ w', St w0 M l w' → ∀ a, Fits a n ds e' → Q .normal a w') → ∀ a, Fits a n ds e' → Kq a) (k : ∀ w', St w0 M l w' → WL P ops Q n ds [] e w') : QL P ops C Kq n ds [] e :=
  fun a ha => hKq e (fun w' st a' ha' => k w' st a' ha') a ha
/-- The end. -/
theorem TL.fin {K : Act → World → Prop} {X : Env → World → Prop} (hK : ∀ e' w', X e' w' → ∀ a, Fits a n ds e' → K a w') (hq : ∀ a w, K a w → Q .normal a w) (k : X e w) : TL P ops (NoPanic Q) S late n ds [] e w :=
  fun a ha => hq a w (hK e w k a ha)
end

section
variable {P : Program} {Q : Exit → Act → World → Prop} {n : Nat} {ds : List Deferred} {e : Env} {w w0 : World} {M : Nat → Prop} {l l0 : List HI}

theorem WC.heldS {id : Nat} {lo : List Oper} (late hs ts : List Nat) (st : St w0 M l w) (s0 : St w0 M l0 w) (hm : P.follows .mixedOrders = true) (hB : heldAll lo late hs ts = true)
    (k : ∀ w', St w0 M l w' → ∀ K : Act → Prop, (∀ e', TL P lo.toArray (NoPanic Q) (St w0 M l0) late n ds (ts.map fun i => (i, pick lo i)) e' w' → ∀ a, Fits a n ds e' → K a) → HL P lo.toArray (St w0 M l0) K n ds (hs.map (pick lo)) e) :
    WC P (.region id lo.toArray true) Q n ds e w := fun a ha =>
  wp_region_P (S := St w0 M l0) (late := late) (hs := hs) (ts := ts) hm hB s0.drew (k _ st.drew _ (fun e' h a' ha' => h a' ha') a ha)
end
end Go.E1
