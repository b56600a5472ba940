/-
  E24: a region that draws its order: operations that yield the same value in every world of a family are taken as soon as they may be taken; the others come one at a time, each alone when it comes. No project text.
-/
import Derived.Test.Qxb6500834aGreatDoorE23
set_option linter.unusedSimpArgs false
set_option linter.unusedVariables false
namespace Go.E1
open Go.RowKit
section
variable {P : Program} {ops : Array Oper} {Q : Exit → Act → World → Prop} {S : World → Prop}

/-- (i, true): number i is taken now, though others may be ready; (i, false): number i alone is ready. -/
def mixB (ops : Array Oper) : List (Nat × Bool) → Array Bool → Bool
  | [], listed => (Region.ready .any ops listed).isEmpty
  | (i, true) :: l, listed => (Region.ready .any ops listed).contains i && Region.free .any ops listed i && mixB ops l (listed.setIfInBounds i true)
  | (i, false) :: l, listed => decide (Region.ready .any ops listed = [i]) && mixB ops l (listed.setIfInBounds i true)

def wpMix (P : Program) (ops : Array Oper) (Q : Exit → Act → World → Prop) (S : World → Prop) : List ((Nat × Bool) × Oper) → Act → World → Prop
  | [], a, w => Q .normal a w
  | ((_, true), o) :: l, a, w => if Region.wanted o (yielded ops a.tmps) then ∃ v, (∀ w, S w → (execOp a.eval o).run P w = .ok (.value v) w) ∧ wpMix P ops Q S l (a.put o.dst v) w else wpMix P ops Q S l (a.put o.dst undef) w
  | ((_, false), o) :: l, a, w => wpList P ops (fun ex a' w' => match ex with
      | .normal => S w' ∧ wpMix P ops Q S l a' w'
      | ex => Q ex a' w') [o] a w

theorem wpAnyP_mix {lo : List Oper} (hsel : Region.noSelect lo.toArray = true) (hQ : ∀ c a w, ¬ Q (.panic c) a w) :
    ∀ (sc : List (Nat × Bool)) (f : Nat) (listed : Array Bool) (a : Act) (w : World), (sc.all fun i => Nat.blt i.1 lo.length) = true → sc.length ≤ f → mixB lo.toArray sc listed = true → S w →
    wpMix P lo.toArray Q S (sc.map fun i => (i, pick lo i.1)) a w → wpAnyP P lo.toArray Q S [] f listed a w
  | [], f, listed, a, w, _, _, hB, _, h => by
    have h0 : Region.ready .any lo.toArray listed = [] := by simpa [mixB] using hB
    cases f with
    | zero => exact ⟨h0, h⟩
    | succ f => exact ⟨fun _ => h, by rw [h0]; simp⟩
  | x :: sc, 0, listed, a, w, _, hf, _, _, _ => by simp at hf
  | (i, true) :: sc, f + 1, listed, a, w, hlt, hf, hB, hS, h => by
    simp only [mixB, Bool.and_eq_true] at hB
    obtain ⟨⟨hr, hfr⟩, hB'⟩ := hB
    simp only [List.all_cons, Bool.and_eq_true] at hlt
    have hi := pick_get (Nat.blt_eq.mp hlt.1)
    have go : ∀ v, YieldsIf P lo.toArray S (pick lo i) v a → wpMix P lo.toArray Q S (sc.map fun i => (i, pick lo i.1)) (a.put (pick lo i).dst v) w → wpAnyP P lo.toArray Q S [] (f + 1) listed a w := fun v hy h' =>
      wpAnyP_first hi (Region.noSelect_spec hsel) rfl hQ f listed a w (Region.free_spec hi hfr) (by simpa using hr) hy hS
        (wpAnyP_mix hsel hQ sc f _ _ w hlt.2 (by simp at hf; omega) hB' hS h')
    simp only [List.map_cons, wpMix] at h
    split at h
    · rename_i hw
      obtain ⟨v, hv, h⟩ := h
      exact go v (.inl ⟨hw, hv⟩) h
    · rename_i hw
      exact go undef (.inr ⟨by simpa using hw, rfl⟩) h
  | (i, false) :: sc, f + 1, listed, a, w, hlt, hf, hB, hS, h => by
    simp only [mixB, Bool.and_eq_true, decide_eq_true_eq] at hB
    simp only [List.all_cons, Bool.and_eq_true] at hlt
    refine ⟨fun h1 => (by rw [hB.1] at h1; cases h1), fun j hj => ?_⟩
    rw [hB.1] at hj
    obtain rfl : j = i := by simpa using hj
    unfold wpOp
    rw [pick_get (Nat.blt_eq.mp hlt.1)]
    simp only
    refine wpList_one (Q := Q) (Q' := fun ex a' w' => match ex with
      | .normal => S w' ∧ wpMix P lo.toArray Q S (sc.map fun i => (i, pick lo i.1)) a' w'
      | ex => Q ex a' w') (fun a' w' h' => ?_) (fun c a w h => h) (fun h => h) h
    exact ⟨fun _ => h'.1, wpAnyP_mix hsel hQ sc f _ a' w' hlt.2 (by simp at hf; omega) hB.2 h'.1 h'.2⟩

def mixAll (lo : List Oper) (sc : List (Nat × Bool)) : Bool :=
  Region.noSelect lo.toArray && (sc.all fun i => Nat.blt i.1 lo.length) && Nat.ble sc.length lo.length && mixB lo.toArray sc (Array.replicate lo.length false)

theorem wp_region_mix {id : Nat} {lo : List Oper} {sc : List (Nat × Bool)} {a : Act} {w : World} (hm : P.follows .mixedOrders = true) (hB : mixAll lo sc = true) (hS : S w.drew)
    (h : wpMix P lo.toArray (NoPanic Q) S (sc.map fun i => (i, pick lo i.1)) a w.drew) : (Code.region id lo.toArray true).wp P Q a w := by
  simp only [mixAll, Bool.and_eq_true] at hB
  obtain ⟨⟨⟨h1, h2⟩, h4⟩, h5⟩ := hB
  refine wp_region_noPanic (wp_region_any hm (wpAny_of_P (S := S) (late := []) _ _ _ _ ?_))
  exact wpAnyP_mix (P := P) (Q := NoPanic Q) h1 (fun c a w h => h) sc lo.toArray.size (Array.replicate lo.toArray.size false) a w.drew h2 (by simpa using Nat.le_of_ble_eq_true h4) (by simpa using h5) hS h
end

def ML (P : Program) (ops : Array Oper) (Q : Exit → Act → World → Prop) (S : World → Prop) (n : Nat) (ds : List Deferred) (l : List ((Nat × Bool) × Oper)) (e : Env) (w : World) : Prop := ∀ a, Fits a n ds e → wpMix P ops Q S l a w

section
variable {P : Program} {ops : Array Oper} {S : World → Prop} {Q : Exit → Act → World → Prop} {n : Nat} {ds : List Deferred} {rest : List ((Nat × Bool) × Oper)} {e : Env} {w : World}
variable {d i : Nat} {op : Op} {ty : TypeId} {pos : String} {af : Array Edge} {g : Option (Nat × Bool)} {val : Value}

theorem ML.v (hr : ∀ w, S w → (execOp (ev e) ⟨some d, op, ty, pos, af, g⟩).run P w = .ok (.value val) w) (hc : cov e op = true) (hn : Nat.blt d n = true) (hg : wantE ops e g = true)
    (k : ML P ops Q S n ds rest ((d, val) :: e) w) : ML P ops Q S n ds (((i, true), ⟨some d, op, ty, pos, af, g⟩) :: rest) e w := by
  intro a ha
  unfold wpMix
  rw [if_pos (wanted_of ha hg)]
  exact ⟨val, fun w hw => by rw [ha.exec hc]; exact hr w hw, k _ (ha.put hn val)⟩
theorem ML.no (hn : Nat.blt d n = true) (hg : wantN ops e g = true) (k : ML P ops Q S n ds rest ((d, undef) :: e) w) : ML P ops Q S n ds (((i, true), ⟨some d, op, ty, pos, af, g⟩) :: rest) e w := by
  intro a ha
  unfold wpMix
  rw [if_neg (by rw [wanted_not ha hg]; simp)]
  exact k _ (ha.put hn undef)
def PostM (P : Program) (ops : Array Oper) (Q : Exit → Act → World → Prop) (S : World → Prop) (l : List ((Nat × Bool) × Oper)) : Exit → Act → World → Prop :=
  fun ex a' w' => match ex with
    | .normal => S w' ∧ wpMix P ops Q S l a' w'
    | ex => Q ex a' w'
theorem ML.at {o : Oper} {l : List ((Nat × Bool) × Oper)} (h : WL P ops (PostM P ops Q S l) n ds [o] e w) : ML P ops Q S n ds (((i, false), o) :: l) e w := fun a ha => h a ha
theorem ML.nxt {l : List ((Nat × Bool) × Oper)} (hS : S w) (k : ML P ops Q S n ds l e w) : WL P ops (PostM P ops Q S l) n ds [] e w := fun a ha => ⟨hS, k a ha⟩
theorem ML.wl (k : WL P ops Q n ds [] e w) : ML P ops (NoPanic Q) S n ds [] e w := fun a ha => k a ha
end

section
variable {P : Program} {Q : Exit → Act → World → Prop} {n : Nat} {ds : List Deferred} {e : Env} {w w0 : World} {M : Nat → Prop} {l l0 : List HI}
theorem WC.mixS {id : Nat} {lo : List Oper} (sc : List (Nat × Bool)) (st : St w0 M l w) (s0 : St w0 M l0 w) (hm : P.follows .mixedOrders = true) (hB : mixAll lo sc = true)
    (k : ∀ w', St w0 M l w' → ML P lo.toArray (NoPanic Q) (St w0 M l0) n ds (sc.map fun i => (i, pick lo i.1)) e w') : WC P (.region id lo.toArray true) Q n ds e w := fun a ha =>
  wp_region_mix (S := St w0 M l0) (sc := sc) hm hB s0.drew (k _ st.drew a ha)
end
end Go.E1
