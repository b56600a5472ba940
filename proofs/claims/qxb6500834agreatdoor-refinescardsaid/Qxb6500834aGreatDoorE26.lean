/-
  E26: E24 with operations behind which the family need not stand any more ('late'). No project text.
-/
import Derived.Test.Qxb6500834aGreatDoorE25
set_option linter.unusedSimpArgs false
set_option linter.unusedVariables false
namespace Go.E1
open Go.RowKit
section
variable {P : Program} {ops : Array Oper} {Q : Exit → Act → World → Prop} {S : World → Prop}

/-- (i, true): number i is taken now, though others may be ready; (i, false): number i alone is ready. -/
def mixLB (ops : Array Oper) (late : List Nat) : List (Nat × Bool) → Array Bool → Bool
  | [], listed => (Region.ready .any ops listed).isEmpty
  | (i, true) :: l, listed => (Region.ready .any ops listed).contains i && Region.free .any ops listed i && lateB ops late i && mixLB ops late l (listed.setIfInBounds i true)
  | (i, false) :: l, listed => decide (Region.ready .any ops listed = [i]) && (!late.contains i || !l.any (·.2)) && mixLB ops late l (listed.setIfInBounds i true)

def wpMixL (P : Program) (ops : Array Oper) (Q : Exit → Act → World → Prop) (S : World → Prop) (late : List Nat) : List ((Nat × Bool) × Oper) → Act → World → Prop
  | [], a, w => Q .normal a w
  | ((_, true), o) :: l, a, w => if Region.wanted o (yielded ops a.tmps) then ∃ v, (∀ w, S w → (execOp a.eval o).run P w = .ok (.value v) w) ∧ wpMixL P ops Q S late l (a.put o.dst v) w else wpMixL P ops Q S late l (a.put o.dst undef) w
  | ((i, false), o) :: l, a, w => wpList P ops (fun ex a' w' => match ex with
      | .normal => (i ∉ late → S w') ∧ wpMixL P ops Q S late l a' w'
      | ex => Q ex a' w') [o] a w

theorem wpAnyP_mixL {late : List Nat} {lo : List Oper} (hsel : Region.noSelect lo.toArray = true) (hQ : ∀ c a w, ¬ Q (.panic c) a w) :
    ∀ (sc : List (Nat × Bool)) (f : Nat) (listed : Array Bool) (a : Act) (w : World), (sc.all fun i => Nat.blt i.1 lo.length) = true → sc.length ≤ f → mixLB lo.toArray late sc listed = true → (sc.any (·.2) = true → S w) →
    wpMixL P lo.toArray Q S late (sc.map fun i => (i, pick lo i.1)) a w → wpAnyP P lo.toArray Q S late f listed a w
  | [], f, listed, a, w, _, _, hB, _, h => by
    have h0 : Region.ready .any lo.toArray listed = [] := by simpa [mixLB] using hB
    cases f with
    | zero => exact ⟨h0, h⟩
    | succ f => exact ⟨fun _ => h, by rw [h0]; simp⟩
  | x :: sc, 0, listed, a, w, _, hf, _, _, _ => by simp at hf
  | (i, true) :: sc, f + 1, listed, a, w, hlt, hf, hB, hS, h => by
    simp only [mixLB, Bool.and_eq_true] at hB
    obtain ⟨⟨⟨hr, hfr⟩, hl⟩, hB'⟩ := hB
    simp only [List.all_cons, Bool.and_eq_true] at hlt
    have hi := pick_get (Nat.blt_eq.mp hlt.1)
    have go : ∀ v, YieldsIf P lo.toArray S (pick lo i) v a → wpMixL P lo.toArray Q S late (sc.map fun i => (i, pick lo i.1)) (a.put (pick lo i).dst v) w → wpAnyP P lo.toArray Q S late (f + 1) listed a w := fun v hy h' =>
      wpAnyP_first hi (Region.noSelect_spec hsel) hl hQ f listed a w (Region.free_spec hi hfr) (by simpa using hr) hy (hS (by simp))
        (wpAnyP_mixL hsel hQ sc f _ _ w hlt.2 (by simp at hf; omega) hB' (fun _ => hS (by simp)) h')
    simp only [List.map_cons, wpMixL] at h
    split at h
    · rename_i hw
      obtain ⟨v, hv, h⟩ := h
      exact go v (.inl ⟨hw, hv⟩) h
    · rename_i hw
      exact go undef (.inr ⟨by simpa using hw, rfl⟩) h
  | (i, false) :: sc, f + 1, listed, a, w, hlt, hf, hB, hS, h => by
    simp only [mixLB, Bool.and_eq_true, decide_eq_true_eq] at hB
    obtain ⟨⟨hB1, hB2⟩, hB3⟩ := hB
    simp only [List.all_cons, Bool.and_eq_true] at hlt
    refine ⟨fun h1 => (by rw [hB1] at h1; cases h1), fun j hj => ?_⟩
    rw [hB1] at hj
    obtain rfl : j = i := by simpa using hj
    unfold wpOp
    rw [pick_get (Nat.blt_eq.mp hlt.1)]
    simp only
    refine wpList_one (Q := Q) (Q' := fun ex a' w' => match ex with
      | .normal => (j ∉ late → S w') ∧ wpMixL P lo.toArray Q S late (sc.map fun i => (i, pick lo i.1)) a' w'
      | ex => Q ex a' w') (fun a' w' h' => ?_) (fun c a w h => h) (fun h => h) h
    refine ⟨h'.1, wpAnyP_mixL hsel hQ sc f _ a' w' hlt.2 (by simp at hf; omega) hB3 (fun hany => h'.1 fun hm => ?_) h'.2⟩
    simp only [Bool.or_eq_true, Bool.not_eq_true'] at hB2
    rcases hB2 with hB2 | hB2
    · have : late.contains j = true := by simpa using hm
      rw [this] at hB2; cases hB2
    · rw [hany] at hB2; cases hB2

def mixLAll (lo : List Oper) (late : List Nat) (sc : List (Nat × Bool)) : Bool :=
  Region.noSelect lo.toArray && (sc.all fun i => Nat.blt i.1 lo.length) && Nat.ble sc.length lo.length && mixLB lo.toArray late sc (Array.replicate lo.length false)

theorem wp_region_mixL {id : Nat} {lo : List Oper} {late : List Nat} {sc : List (Nat × Bool)} {a : Act} {w : World} (hm : P.follows .mixedOrders = true) (hB : mixLAll lo late sc = true) (hS : S w.drew)
    (h : wpMixL P lo.toArray (NoPanic Q) S late (sc.map fun i => (i, pick lo i.1)) a w.drew) : (Code.region id lo.toArray true).wp P Q a w := by
  simp only [mixLAll, Bool.and_eq_true] at hB
  obtain ⟨⟨⟨h1, h2⟩, h4⟩, h5⟩ := hB
  refine wp_region_noPanic (wp_region_any hm (wpAny_of_P (S := S) (late := late) _ _ _ _ ?_))
  exact wpAnyP_mixL (P := P) (Q := NoPanic Q) h1 (fun c a w h => h) sc lo.toArray.size (Array.replicate lo.toArray.size false) a w.drew h2 (by simpa using Nat.le_of_ble_eq_true h4) (by simpa using h5) (fun _ => hS) h
end

def MLL (P : Program) (ops : Array Oper) (Q : Exit → Act → World → Prop) (S : World → Prop) (late : List Nat) (n : Nat) (ds : List Deferred) (l : List ((Nat × Bool) × Oper)) (e : Env) (w : World) : Prop := ∀ a, Fits a n ds e → wpMixL P ops Q S late l a w

section
variable {P : Program} {ops : Array Oper} {S : World → Prop} {Q : Exit → Act → World → Prop} {n : Nat} {ds : List Deferred} {rest : List ((Nat × Bool) × Oper)} {e : Env} {w : World}
variable {late : List Nat} {d i : Nat} {op : Op} {ty : TypeId} {pos : String} {af : Array Edge} {g : Option (Nat × Bool)} {val : Value}

theorem MLL.v (hr : ∀ w, S w → (execOp (ev e) ⟨some d, op, ty, pos, af, g⟩).run P w = .ok (.value val) w) (hc : cov e op = true) (hn : Nat.blt d n = true) (hg : wantE ops e g = true)
    (k : MLL P ops Q S late n ds rest ((d, val) :: e) w) : MLL P ops Q S late n ds (((i, true), ⟨some d, op, ty, pos, af, g⟩) :: rest) e w := by
  intro a ha
  unfold wpMixL
  rw [if_pos (wanted_of ha hg)]
  exact ⟨val, fun w hw => by rw [ha.exec hc]; exact hr w hw, k _ (ha.put hn val)⟩
theorem MLL.no (hn : Nat.blt d n = true) (hg : wantN ops e g = true) (k : MLL P ops Q S late n ds rest ((d, undef) :: e) w) : MLL P ops Q S late n ds (((i, true), ⟨some d, op, ty, pos, af, g⟩) :: rest) e w := by
  intro a ha
  unfold wpMixL
  rw [if_neg (by rw [wanted_not ha hg]; simp)]
  exact k _ (ha.put hn undef)
def PostML (P : Program) (ops : Array Oper) (Q : Exit → Act → World → Prop) (S : World → Prop) (late : List Nat) (i : Nat) (l : List ((Nat × Bool) × Oper)) : Exit → Act → World → Prop :=
  fun ex a' w' => match ex with
    | .normal => (i ∉ late → S w') ∧ wpMixL P ops Q S late l a' w'
    | ex => Q ex a' w'
theorem MLL.at {o : Oper} {l : List ((Nat × Bool) × Oper)} (h : WL P ops (PostML P ops Q S late i l) n ds [o] e w) : MLL P ops Q S late n ds (((i, false), o) :: l) e w := fun a ha => h a ha
theorem MLL.nxt {l : List ((Nat × Bool) × Oper)} (hS : S w) (k : MLL P ops Q S late n ds l e w) : WL P ops (PostML P ops Q S late i l) n ds [] e w := fun a ha => ⟨fun _ => hS, k a ha⟩
theorem MLL.nxt' {l : List ((Nat × Bool) × Oper)} (hi : late.contains i = true) (k : MLL P ops Q S late n ds l e w) : WL P ops (PostML P ops Q S late i l) n ds [] e w := fun a ha => ⟨fun h => absurd (by simpa using hi) h, k a ha⟩
theorem MLL.wl (k : WL P ops Q n ds [] e w) : MLL P ops (NoPanic Q) S late n ds [] e w := fun a ha => k a ha
end

section
variable {P : Program} {Q : Exit → Act → World → Prop} {n : Nat} {ds : List Deferred} {e : Env} {w w0 : World} {M : Nat → Prop} {l l0 : List HI}
theorem WC.mixLS {id : Nat} {lo : List Oper} (late : List Nat) (sc : List (Nat × Bool)) (st : St w0 M l w) (s0 : St w0 M l0 w) (hm : P.follows .mixedOrders = true) (hB : mixLAll lo late sc = true)
    (k : ∀ w', St w0 M l w' → MLL P lo.toArray (NoPanic Q) (St w0 M l0) late n ds (sc.map fun i => (i, pick lo i.1)) e w') : WC P (.region id lo.toArray true) Q n ds e w := fun a ha =>
  wp_region_mixL (S := St w0 M l0) (late := late) (sc := sc) hm hB s0.drew (k _ st.drew a ha)
end
end Go.E1
