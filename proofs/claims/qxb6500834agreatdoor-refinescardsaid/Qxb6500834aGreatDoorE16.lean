/-
  E16: a region that draws, once more: first the operations that read (they yield the same in every world of a family S), then some that read nothing at all, then the others in a forced order.
  S is asked behind an operation only if that operation may come ahead of one of the reading ones. No project text.
-/
import Derived.Test.Qxb6500834aGreatDoorE15
set_option linter.unusedSimpArgs false
set_option linter.unusedVariables false
namespace Go.E1
open Go.RowKit

/-- No late operation has come up. -/
def noLate (late : List Nat) (listed : Array Bool) : Prop := ∀ l, l ∈ late → listed.getD l false = false
/-- What has come up is closed under what it waits for. -/
def Closed (ops : Array Oper) (listed : Array Bool) : Prop := ∀ j oj, ops[j]? = some oj → listed.getD j false = true → ∀ e ∈ oj.after, Region.binds .any e = true → listed.getD e.on false = true

theorem getD_set_self {listed : Array Bool} {i j : Nat} (h : (listed.setIfInBounds i true).getD j false = true) : j = i ∨ listed.getD j false = true := by
  by_cases hij : i = j
  · exact .inl hij.symm
  · rw [getD_set_ne false hij] at h; exact .inr h

theorem Closed.set {ops : Array Oper} {listed : Array Bool} (h : Closed ops listed) {i : Nat} (hr : i ∈ Region.ready .any ops listed) : Closed ops (listed.setIfInBounds i true) := by
  intro j oj hj hl e he hb
  rcases getD_set_self hl with rfl | hl
  · obtain ⟨_, o, ho, hall⟩ := mem_ready.1 hr
    rw [hj] at ho; cases ho
    exact getD_set_true (hall e he hb)
  · exact getD_set_true (h j oj hj hl e he hb)

theorem noLate.of_set {late : List Nat} {listed : Array Bool} {i : Nat} (h : noLate late (listed.setIfInBounds i true)) : noLate late listed := fun l hl => by
  have := h l hl
  by_cases hil : i = l
  · subst hil
    cases hc : listed.getD i false with
    | false => rfl
    | true => rw [getD_set_true hc] at this; cases this
  · rwa [getD_set_ne false hil] at this

section
variable {P : Program} {ops : Array Oper} {Q : Exit → Act → World → Prop} {S : World → Prop}

def wpAnyR (P : Program) (ops : Array Oper) (Q : Exit → Act → World → Prop) (S : World → Prop) (late : List Nat) : Nat → Array Bool → Act → World → Prop
  | 0, listed, a, w => Region.ready .any ops listed = [] ∧ Q .normal a w
  | f + 1, listed, a, w =>
    (Region.ready .any ops listed = [] → Q .normal a w) ∧
    ∀ i ∈ Region.ready .any ops listed, wpOp P ops Q i (fun a' w' => (noLate late (listed.setIfInBounds i true) → S w') ∧ wpAnyR P ops Q S late f (listed.setIfInBounds i true) a' w') a w

theorem wpAny_of_R {late : List Nat} : ∀ (f : Nat) (listed : Array Bool) (a : Act) (w : World), wpAnyR P ops Q S late f listed a w → wpAny P .any ops Q f listed a w
  | 0, _, _, _, h => h
  | f + 1, _, _, _, h => ⟨h.1, fun i hi => wpOp_mono (fun a' w' h' => wpAny_of_R f _ a' w' h'.2) (h.2 i hi)⟩

theorem not_waits {i : Nat} {oj : Oper} {listed : Array Bool} (hr : i ∈ Region.ready .any ops listed) (hall : ∀ e ∈ oj.after, Region.binds .any e = true → listed.getD e.on false = true) : ∀ e ∈ oj.after, Region.binds .any e = true → e.on ≠ i := fun e he hb heq => by
  have h1 := hall e he hb
  have h0 := (mem_ready.1 hr).1
  rw [heq] at h1
  rcases Nat.lt_or_ge i listed.size with h' | h'
  · simp [h'] at h0 h1; rw [h0] at h1; cases h1
  · simp [Array.getElem?_eq_none h'] at h1

/-- j waits for i, through others too. -/
def reach (ops : Array Oper) : Nat → Nat → Nat → Bool
  | 0, _, _ => false
  | f + 1, j, i => match ops[j]? with
    | some o => o.after.any fun e => Region.binds .any e && (e.on == i || reach ops f e.on i)
    | none => false
def lateT (ops : Array Oper) (late : List Nat) (i : Nat) : Bool := late.all fun j => reach ops ops.size j i

theorem reach_listed {listed : Array Bool} {i : Nat} (hcl : Closed ops listed) : ∀ f j oj, ops[j]? = some oj → (∀ e ∈ oj.after, Region.binds .any e = true → listed.getD e.on false = true) → reach ops f j i = true → listed.getD i false = true
  | 0, _, _, _, _, h => by simp [reach] at h
  | f + 1, j, oj, hj, hall, h => by
    simp only [reach, hj] at h
    obtain ⟨e, he, h4⟩ := Array.any_eq_true'.1 h
    simp only [Bool.and_eq_true, Bool.or_eq_true, beq_iff_eq] at h4
    have hl := hall e he h4.1
    rcases h4.2 with h5 | h5
    · rw [← h5]; exact hl
    · cases ho : ops[e.on]? with
      | none => cases f <;> simp [reach, ho] at h5
      | some o => exact reach_listed hcl f e.on o ho (hcl e.on o ho hl) h5

/-- A reading one first. -/
theorem wpAnyR_first {late : List Nat} {i : Nat} {oi : Oper} {v : Value} (hi : ops[i]? = some oi) (hsel : ∀ (j : Nat) (o : Oper) cs b, ops[j]? = some o → o.op ≠ .select cs b) (hl : lateT ops late i = true) (hb : (late.all fun l => Nat.blt l ops.size) = true)
    (hQ : ∀ c a w, ¬ Q (.panic c) a w) :
    ∀ (f : Nat) (listed : Array Bool) (a : Act) (w : World), Closed ops listed →
      (∀ j oj, ops[j]? = some oj → j ≠ i → listed.getD j true = false → (∀ e ∈ oj.after, Region.binds .any e = true → e.on ≠ i) → oi.apart ops oj = true) →
      i ∈ Region.ready .any ops listed → YieldsIf P ops S oi v a → S w →
      wpAnyR P ops Q S late f (listed.setIfInBounds i true) (a.put oi.dst v) w → wpAnyR P ops Q S late (f + 1) listed a w := by
  have waits : ∀ {listed : Array Bool} {j : Nat}, j ∈ late → Closed ops listed → i ∈ Region.ready .any ops listed → listed.getD j false = false ∧ j ∉ Region.ready .any ops listed := fun {listed j} hj hcl hr => by
    have h3 := List.all_eq_true.1 hl j hj
    have hjs := Nat.blt_eq.mp (List.all_eq_true.1 hb j hj)
    have hoj : ops[j]? = some ops[j] := by simp [hjs]
    have hun : listed.getD i false = false := by
      have h0 := (mem_ready.1 hr).1
      cases hc : listed.getD i false with
      | false => rfl
      | true =>
        rcases Nat.lt_or_ge i listed.size with h' | h'
        · simp [h'] at h0 hc; rw [h0] at hc; cases hc
        · simp [Array.getElem?_eq_none h'] at hc
    refine ⟨?_, fun hjr => ?_⟩
    · cases hc : listed.getD j false with
      | false => rfl
      | true => rw [reach_listed hcl _ j _ hoj (hcl j _ hoj hc) h3] at hun; cases hun
    · obtain ⟨_, o, ho, hall⟩ := mem_ready.1 hjr
      rw [reach_listed hcl _ j o ho hall h3] at hun; cases hun
  intro f
  induction f with
  | zero =>
    intro listed a w _ _ hr hy hS H
    refine ⟨fun h => (by rw [h] at hr; cases hr), fun j hj => ?_⟩
    by_cases hji : j = i
    · subst hji; exact hy.wpOp hi hS ⟨fun _ => hS, H⟩
    · have := ready_mono hj hji
      rw [H.1] at this
      cases this
  | succ f ih =>
    intro listed a w hcl hfree hr hy hS H
    refine ⟨fun h => (by rw [h] at hr; cases hr), fun j hj => ?_⟩
    by_cases hji : j = i
    · subst hji; exact hy.wpOp hi hS ⟨fun _ => hS, H⟩
    · have h1 := H.2 j (ready_mono hj hji)
      obtain ⟨hjun, oj, hoj, hall⟩ := mem_ready.1 hj
      have hnot := not_waits hr hall
      have hnl : j ∉ late := fun hm => (waits hm hcl hr).2 hj
      have hno : noLate late ((listed.setIfInBounds i true).setIfInBounds j true) := fun l hl' => by
        have h5 := (waits hl' hcl hr).1
        have hlj : j ≠ l := fun h => hnl (h ▸ hl')
        have hli : i ≠ l := fun h => by subst h; exact (waits hl' hcl hr).2 hr
        rw [getD_set_ne false hlj, getD_set_ne false hli]; exact h5
      have h2 := wpOp_putIf hoj (hfree j oj hoj hji hjun hnot) (fun cs b => hsel i oi cs b hi) (fun cs b => hsel j oj cs b hoj) (fun c a w h => absurd h (hQ c _ w)) hy h1
      have hfree' : ∀ k ok, ops[k]? = some ok → k ≠ i → (listed.setIfInBounds j true).getD k true = false →
          (∀ e ∈ ok.after, Region.binds .any e = true → e.on ≠ i) → oi.apart ops ok = true := fun k ok hk hki hun hno => by
        refine hfree k ok hk hki ?_ hno
        by_cases hjk : j = k
        · subst hjk; exact hjun
        · rw [getD_set_ne true hjk] at hun; exact hun
      refine wpOp_mono (fun a' w' h3 => ⟨fun _ => h3.2.1 hno, ih (listed.setIfInBounds j true) a' w' (hcl.set hj) hfree' (ready_mono hr (Ne.symm hji)) h3.1 (h3.2.1 hno) ?_⟩) h2
      rw [Array.setIfInBounds_comm _ _ hji]
      exact h3.2.2

/-- One that reads nothing first. -/
theorem wpAnyR_pure {late : List Nat} {i : Nat} {oi : Oper} {v : Value} (hi : ops[i]? = some oi) (hsel : ∀ (j : Nat) (o : Oper) cs b, ops[j]? = some o → o.op ≠ .select cs b) (hil : i ∉ late) (hQ : ∀ c a w, ¬ Q (.panic c) a w) :
    ∀ (f : Nat) (listed : Array Bool) (a : Act) (w : World),
      (∀ j oj, ops[j]? = some oj → j ≠ i → listed.getD j true = false → (∀ e ∈ oj.after, Region.binds .any e = true → e.on ≠ i) → oi.apart ops oj = true) →
      i ∈ Region.ready .any ops listed → YieldsIf P ops (fun _ => True) oi v a → (noLate late listed → S w) →
      wpAnyR P ops Q S late f (listed.setIfInBounds i true) (a.put oi.dst v) w → wpAnyR P ops Q S late (f + 1) listed a w := by
  intro f
  induction f with
  | zero =>
    intro listed a w _ hr hy hS H
    refine ⟨fun h => (by rw [h] at hr; cases hr), fun j hj => ?_⟩
    by_cases hji : j = i
    · subst hji; exact hy.wpOp hi trivial ⟨fun h => hS h.of_set, H⟩
    · have := ready_mono hj hji
      rw [H.1] at this
      cases this
  | succ f ih =>
    intro listed a w hfree hr hy hS H
    refine ⟨fun h => (by rw [h] at hr; cases hr), fun j hj => ?_⟩
    by_cases hji : j = i
    · subst hji; exact hy.wpOp hi trivial ⟨fun h => hS h.of_set, H⟩
    · have h1 := H.2 j (ready_mono hj hji)
      obtain ⟨hjun, oj, hoj, hall⟩ := mem_ready.1 hj
      have hnot := not_waits hr hall
      have h2 := wpOp_putIf hoj (hfree j oj hoj hji hjun hnot) (fun cs b => hsel i oi cs b hi) (fun cs b => hsel j oj cs b hoj) (fun c a w h => absurd h (hQ c _ w)) hy h1
      have hfree' : ∀ k ok, ops[k]? = some ok → k ≠ i → (listed.setIfInBounds j true).getD k true = false →
          (∀ e ∈ ok.after, Region.binds .any e = true → e.on ≠ i) → oi.apart ops ok = true := fun k ok hk hki hun hno => by
        refine hfree k ok hk hki ?_ hno
        by_cases hjk : j = k
        · subst hjk; exact hjun
        · rw [getD_set_ne true hjk] at hun; exact hun
      have hS' : ∀ {w'}, (noLate late ((listed.setIfInBounds i true).setIfInBounds j true) → S w') → noLate late (listed.setIfInBounds j true) → S w' := fun h hn => h fun l hl => by
        have h5 := hn l hl
        have hli : i ≠ l := fun h => hil (h ▸ hl)
        rw [Array.setIfInBounds_comm _ _ (Ne.symm hji), getD_set_ne false hli]; exact h5
      refine wpOp_mono (fun a' w' h3 => ⟨hS' h3.2.1, ih (listed.setIfInBounds j true) a' w' hfree' (ready_mono hr (Ne.symm hji)) h3.1 (hS' h3.2.1) ?_⟩) h2
      rw [Array.setIfInBounds_comm _ _ hji]
      exact h3.2.2

theorem wpAnyR_of_seq {late : List Nat} {lo : List Oper} : ∀ (ts : List Nat) (f : Nat) (listed : Array Bool) (a : Act) (w : World), listed.size = lo.length → (ts.all fun i => Nat.blt i lo.length) = true → ts.length ≤ f → seqTs lo.toArray ts listed = true →
    wpSeqP P lo.toArray Q S late (ts.map fun i => (i, pick lo i)) a w → wpAnyR P lo.toArray Q S late f listed a w
  | [], f, listed, a, w, _, _, _, hB, h => by
    have h0 : Region.ready .any lo.toArray listed = [] := by simpa [seqTs] using hB
    cases f with
    | zero => exact ⟨h0, h⟩
    | succ f => exact ⟨fun _ => h, by rw [h0]; simp⟩
  | t :: ts, f, listed, a, w, hsz, hlt, hf, hB, h => by
    cases f with
    | zero => simp at hf
    | succ f =>
      simp only [seqTs, Bool.and_eq_true, decide_eq_true_eq] at hB
      simp only [List.all_cons, Bool.and_eq_true] at hlt
      refine ⟨fun h1 => (by rw [hB.1] at h1; cases h1), fun i hi => ?_⟩
      rw [hB.1] at hi
      obtain rfl : i = t := by simpa using hi
      have hil := Nat.blt_eq.mp hlt.1
      unfold wpOp
      rw [pick_get hil]
      simp only
      refine wpList_one (Q := Q) (Q' := fun ex a' w' => match ex with
        | .normal => (i ∉ late → S w') ∧ wpSeqP P lo.toArray Q S late (ts.map fun i => (i, pick lo i)) a' w'
        | ex => Q ex a' w') (fun a' w' h' => ?_) (fun c a w h => h) (fun h => h) h
      refine ⟨fun hn => h'.1 fun hm => ?_, wpAnyR_of_seq ts f _ a' w' (by simpa using hsz) hlt.2 (by simp at hf; omega) hB.2 h'.2⟩
      have := hn i hm
      rw [show (listed.setIfInBounds i true).getD i false = true by simp [hsz, hil]] at this
      cases this

/-- The whole check, closed: hs1 read, hs2 read nothing, ts are forced. -/
def heldB2 (ops : Array Oper) (late ts : List Nat) : List Nat → Array Bool → Bool
  | [], listed => seqTs ops ts listed
  | i :: hs, listed => (Region.ready .any ops listed).contains i && Region.free .any ops listed i && !late.contains i && heldB2 ops late ts hs (listed.setIfInBounds i true)
def heldB1 (ops : Array Oper) (late ts hs2 : List Nat) : List Nat → Array Bool → Bool
  | [], listed => heldB2 ops late ts hs2 listed
  | i :: hs, listed => (Region.ready .any ops listed).contains i && Region.free .any ops listed i && lateT ops late i && heldB1 ops late ts hs2 hs (listed.setIfInBounds i true)

theorem wpAnyR_held2 {late ts : List Nat} {lo : List Oper} {w : World} (hsel : Region.noSelect lo.toArray = true) (hQ : ∀ c a w, ¬ Q (.panic c) a w) (hts : (ts.all fun i => Nat.blt i lo.length) = true) (hS : S w) :
    ∀ (hs : List Nat) (f : Nat) (listed : Array Bool) (a : Act), listed.size = lo.length → (hs.all fun i => Nat.blt i lo.length) = true → hs.length + ts.length ≤ f → heldB2 lo.toArray late ts hs listed = true →
    wpHeld P lo.toArray (fun _ => True) (fun a' => wpSeqP P lo.toArray Q S late (ts.map fun i => (i, pick lo i)) a' w) (hs.map (pick lo)) a → wpAnyR P lo.toArray Q S late f listed a w
  | [], f, listed, a, hsz, _, hf, hB, h => wpAnyR_of_seq ts f listed a w hsz hts (by simpa using hf) hB h
  | i :: hs, 0, listed, a, _, _, hf, _, _ => by simp at hf
  | i :: hs, f + 1, listed, a, hsz, hlt, hf, hB, h => by
    simp only [heldB2, Bool.and_eq_true] at hB
    obtain ⟨⟨⟨hr, hfr⟩, hl⟩, hB'⟩ := hB
    simp only [List.all_cons, Bool.and_eq_true] at hlt
    have hi := pick_get (Nat.blt_eq.mp hlt.1)
    have go : ∀ v, YieldsIf P lo.toArray (fun _ => True) (pick lo i) v a → wpHeld P lo.toArray (fun _ => True) (fun a' => wpSeqP P lo.toArray Q S late (ts.map fun i => (i, pick lo i)) a' w) (hs.map (pick lo)) (a.put (pick lo i).dst v) →
        wpAnyR P lo.toArray Q S late (f + 1) listed a w := fun v hy h' =>
      wpAnyR_pure hi (Region.noSelect_spec hsel) (by simpa using hl) hQ f listed a w (Region.free_spec hi hfr) (by simpa using hr) hy (fun _ => hS)
        (wpAnyR_held2 hsel hQ hts hS hs f _ _ (by simpa using hsz) hlt.2 (by simp at hf; omega) hB' h')
    simp only [List.map_cons, wpHeld] at h
    split at h
    · rename_i hw
      obtain ⟨v, hv, h⟩ := h
      exact go v (.inl ⟨hw, hv⟩) h
    · rename_i hw
      exact go undef (.inr ⟨by simpa using hw, rfl⟩) h

theorem wpAnyR_held1 {late ts hs2 : List Nat} {lo : List Oper} {w : World} (hsel : Region.noSelect lo.toArray = true) (hQ : ∀ c a w, ¬ Q (.panic c) a w) (hts : (ts.all fun i => Nat.blt i lo.length) = true) (hh2 : (hs2.all fun i => Nat.blt i lo.length) = true) (hlb : (late.all fun l => Nat.blt l lo.toArray.size) = true) (hS : S w) :
    ∀ (hs : List Nat) (f : Nat) (listed : Array Bool) (a : Act), listed.size = lo.length → Closed lo.toArray listed → (hs.all fun i => Nat.blt i lo.length) = true → hs.length + (hs2.length + ts.length) ≤ f → heldB1 lo.toArray late ts hs2 hs listed = true →
    wpHeld P lo.toArray S (fun a' => wpHeld P lo.toArray (fun _ => True) (fun a' => wpSeqP P lo.toArray Q S late (ts.map fun i => (i, pick lo i)) a' w) (hs2.map (pick lo)) a') (hs.map (pick lo)) a → wpAnyR P lo.toArray Q S late f listed a w
  | [], f, listed, a, hsz, _, _, hf, hB, h => wpAnyR_held2 hsel hQ hts hS hs2 f listed a hsz hh2 (by simpa using hf) hB h
  | i :: hs, 0, listed, a, _, _, _, hf, _, _ => by simp at hf
  | i :: hs, f + 1, listed, a, hsz, hcl, hlt, hf, hB, h => by
    simp only [heldB1, Bool.and_eq_true] at hB
    obtain ⟨⟨⟨hr, hfr⟩, hl⟩, hB'⟩ := hB
    simp only [List.all_cons, Bool.and_eq_true] at hlt
    have hi := pick_get (Nat.blt_eq.mp hlt.1)
    have hr' : i ∈ Region.ready .any lo.toArray listed := by simpa using hr
    have go : ∀ v, YieldsIf P lo.toArray S (pick lo i) v a → wpHeld P lo.toArray S (fun a' => wpHeld P lo.toArray (fun _ => True) (fun a' => wpSeqP P lo.toArray Q S late (ts.map fun i => (i, pick lo i)) a' w) (hs2.map (pick lo)) a') (hs.map (pick lo)) (a.put (pick lo i).dst v) →
        wpAnyR P lo.toArray Q S late (f + 1) listed a w := fun v hy h' =>
      wpAnyR_first hi (Region.noSelect_spec hsel) hl hlb hQ f listed a w hcl (Region.free_spec hi hfr) hr' hy hS
        (wpAnyR_held1 hsel hQ hts hh2 hlb hS hs f _ _ (by simpa using hsz) (hcl.set hr') hlt.2 (by simp at hf; omega) hB' h')
    simp only [List.map_cons, wpHeld] at h
    split at h
    · rename_i hw
      obtain ⟨v, hv, h⟩ := h
      exact go v (.inl ⟨hw, hv⟩) h
    · rename_i hw
      exact go undef (.inr ⟨by simpa using hw, rfl⟩) h

def heldAll2 (lo : List Oper) (late hs1 hs2 ts : List Nat) : Bool :=
  Region.noSelect lo.toArray && (ts.all fun i => Nat.blt i lo.length) && (hs1.all fun i => Nat.blt i lo.length) && (hs2.all fun i => Nat.blt i lo.length) && (late.all fun i => Nat.blt i lo.length) && Nat.ble (hs1.length + (hs2.length + ts.length)) lo.length && heldB1 lo.toArray late ts hs2 hs1 (Array.replicate lo.length false)

theorem wp_region_R {id : Nat} {lo : List Oper} {late hs1 hs2 ts : List Nat} {a : Act} {w : World} (hm : P.follows .mixedOrders = true) (hB : heldAll2 lo late hs1 hs2 ts = true) (hS : S w.drew)
    (h : wpHeld P lo.toArray S (fun a' => wpHeld P lo.toArray (fun _ => True) (fun a' => wpSeqP P lo.toArray (NoPanic Q) S late (ts.map fun i => (i, pick lo i)) a' w.drew) (hs2.map (pick lo)) a') (hs1.map (pick lo)) a) : (Code.region id lo.toArray true).wp P Q a w := by
  simp only [heldAll2, Bool.and_eq_true] at hB
  obtain ⟨⟨⟨⟨⟨⟨h1, h2⟩, h3⟩, h4⟩, h5⟩, h6⟩, h7⟩ := hB
  refine wp_region_noPanic (wp_region_any hm (wpAny_of_R (S := S) (late := late) _ _ _ _ ?_))
  exact wpAnyR_held1 (P := P) (Q := NoPanic Q) (w := w.drew) h1 (fun c a w h => h) h2 h4 (by simpa using h5) hS hs1 lo.toArray.size (Array.replicate lo.toArray.size false) a (by simp)
    (fun j oj hj hl => by rw [getD_replicate_false] at hl; cases hl) h3 (by simpa using Nat.le_of_ble_eq_true h6) (by simpa using h7) h
end

section
variable {P : Program} {Q : Exit → Act → World → Prop} {n : Nat} {ds : List Deferred} {e : Env} {w w0 : World} {M : Nat → Prop} {l l0 : List HI}

/-- Behind the reading ones. -/
theorem HL.pure {ops : Array Oper} {S : World → Prop} {K K2 : Act → Prop} {l2 : List Oper} (hK : ∀ e', HL P ops (fun _ => True) K2 n ds l2 e' → ∀ a, Fits a n ds e' → K a) (k : HL P ops (fun _ => True) K2 n ds l2 e) : HL P ops S K n ds [] e := fun a ha => hK e k a ha

theorem WC.heldS2 {id : Nat} {lo : List Oper} (late hs1 hs2 ts : List Nat) (st : St w0 M l w) (s0 : St w0 M l0 w) (hm : P.follows .mixedOrders = true) (hB : heldAll2 lo late hs1 hs2 ts = true)
    (k : ∀ w', St w0 M l w' → ∀ K K2 : Act → Prop, (∀ e', HL P lo.toArray (fun _ => True) K2 n ds (hs2.map (pick lo)) e' → ∀ a, Fits a n ds e' → K a) →
      (∀ e', TL P lo.toArray (NoPanic Q) (St w0 M l0) late n ds (ts.map fun i => (i, pick lo i)) e' w' → ∀ a, Fits a n ds e' → K2 a) → HL P lo.toArray (St w0 M l0) K n ds (hs1.map (pick lo)) e) :
    WC P (.region id lo.toArray true) Q n ds e w := fun a ha =>
  wp_region_R (S := St w0 M l0) (late := late) (hs1 := hs1) (hs2 := hs2) (ts := ts) hm hB s0.drew (k _ st.drew _ _ (fun e' h a' ha' => h a' ha') (fun e' h a' ha' => h a' ha') a ha)
end
end Go.E1
