/-
  E32: a region that draws its order, as a tree: an operation that yields the same value in every world of a family is taken as soon as it may be; of the others one or two are ready at a time. No project text.
-/
import Derived.Test.Qxb6500834aGreatDoorE31
set_option linter.unusedSimpArgs false
set_option linter.unusedVariables false
namespace Go.E1
open Go.RowKit
/-! The tree is laid in the model's own type of code: skip: nothing is left; block i s: an operation of the family; seq (exit i) s: the only one that is ready; seq (seq (exit i) s) (seq (exit j) s'): one of two. -/
def schD : Code → Nat
  | .block _ s => schD s + 1
  | .seq (.exit _) s => schD s + 1
  | .seq (.seq (.exit _) s) (.seq (.exit _) s') => max (schD s) (schD s') + 1
  | _ => 0
section
variable {P : Program} {Q : Exit → Act → World → Prop} {S : World → Prop}
def schB (lo : List Oper) : Code → Array Bool → Bool
  | .skip, listed => (Region.ready .any lo.toArray listed).isEmpty
  | .block i s, listed => Nat.blt i lo.length && (Region.ready .any lo.toArray listed).contains i && Region.free .any lo.toArray listed i && schB lo s (listed.setIfInBounds i true)
  | .seq (.exit i) s, listed => Nat.blt i lo.length && decide (Region.ready .any lo.toArray listed = [i]) && schB lo s (listed.setIfInBounds i true)
  | .seq (.seq (.exit i) s) (.seq (.exit j) s'), listed => Nat.blt i lo.length && Nat.blt j lo.length && decide (Region.ready .any lo.toArray listed = [i, j]) && schB lo s (listed.setIfInBounds i true) && schB lo s' (listed.setIfInBounds j true)
  | _, _ => false
def wpSch (P : Program) (lo : List Oper) (Q : Exit → Act → World → Prop) (S : World → Prop) : Code → Act → World → Prop
  | .skip, a, w => Q .normal a w
  | .block i s, a, w => if Region.wanted (pick lo i) (yielded lo.toArray a.tmps) then ∃ v, (∀ w, S w → (execOp a.eval (pick lo i)).run P w = .ok (.value v) w) ∧ wpSch P lo Q S s (a.put (pick lo i).dst v) w else wpSch P lo Q S s (a.put (pick lo i).dst undef) w
  | .seq (.exit i) s, a, w => wpList P lo.toArray (fun ex a' w' => match ex with
      | .normal => S w' ∧ wpSch P lo Q S s a' w'
      | ex => Q ex a' w') [pick lo i] a w
  | .seq (.seq (.exit i) s) (.seq (.exit j) s'), a, w => wpList P lo.toArray (fun ex a' w' => match ex with
      | .normal => S w' ∧ wpSch P lo Q S s a' w'
      | ex => Q ex a' w') [pick lo i] a w ∧ wpList P lo.toArray (fun ex a' w' => match ex with
      | .normal => S w' ∧ wpSch P lo Q S s' a' w'
      | ex => Q ex a' w') [pick lo j] a w
  | _, _, _ => False
theorem sch_step {lo : List Oper} {i : Nat} {s : Code} {f : Nat} {listed : Array Bool} {a : Act} {w : World} (hi : Nat.blt i lo.length = true)
    (ih : ∀ a' w', S w' → wpSch P lo Q S s a' w' → wpAnyP P lo.toArray Q S [] f (listed.setIfInBounds i true) a' w')
    (h : wpList P lo.toArray (fun ex a' w' => match ex with
      | .normal => S w' ∧ wpSch P lo Q S s a' w'
      | ex => Q ex a' w') [pick lo i] a w) :
    wpOp P lo.toArray Q i (fun a' w' => (i ∉ ([] : List Nat) → S w') ∧ wpAnyP P lo.toArray Q S [] f (listed.setIfInBounds i true) a' w') a w := by
  unfold wpOp
  rw [pick_get (Nat.blt_eq.mp hi)]
  simp only
  refine wpList_one (Q := Q) (Q' := fun ex a' w' => match ex with
    | .normal => S w' ∧ wpSch P lo Q S s a' w'
    | ex => Q ex a' w') (fun a' w' h' => ?_) (fun c a w h => h) (fun h => h) h
  exact ⟨fun _ => h'.1, ih a' w' h'.1 h'.2⟩
theorem wpAnyP_sch {lo : List Oper} (hsel : Region.noSelect lo.toArray = true) (hQ : ∀ c a w, ¬ Q (.panic c) a w) :
    ∀ (s : Code) (f : Nat) (listed : Array Bool) (a : Act) (w : World), schD s ≤ f → schB lo s listed = true → S w → wpSch P lo Q S s a w → wpAnyP P lo.toArray Q S [] f listed a w
  | .skip, f, listed, a, w, _, hB, _, h => by
    have h0 : Region.ready .any lo.toArray listed = [] := by simpa [schB] using hB
    cases f with
    | zero => exact ⟨h0, h⟩
    | succ f => exact ⟨fun _ => h, by rw [h0]; simp⟩
  | .block i s, 0, listed, a, w, hf, _, _, _ => by simp [schD] at hf
  | .block i s, f + 1, listed, a, w, hf, hB, hS, h => by
    simp only [schB, Bool.and_eq_true] at hB
    obtain ⟨⟨⟨hlt, hr⟩, hfr⟩, hB'⟩ := hB
    have hi := pick_get (Nat.blt_eq.mp hlt)
    have go : ∀ v, YieldsIf P lo.toArray S (pick lo i) v a → wpSch P lo Q S s (a.put (pick lo i).dst v) w → wpAnyP P lo.toArray Q S [] (f + 1) listed a w := fun v hy h' =>
      wpAnyP_first hi (Region.noSelect_spec hsel) rfl hQ f listed a w (Region.free_spec hi hfr) (by simpa using hr) hy hS
        (wpAnyP_sch hsel hQ s f _ _ w (by simp [schD] at hf; omega) hB' hS h')
    simp only [wpSch] at h
    split at h
    · rename_i hw
      obtain ⟨v, hv, h⟩ := h
      exact go v (.inl ⟨hw, hv⟩) h
    · rename_i hw
      exact go undef (.inr ⟨by simpa using hw, rfl⟩) h
  | .seq (.exit i) s, 0, listed, a, w, hf, _, _, _ => by simp [schD] at hf
  | .seq (.exit i) s, f + 1, listed, a, w, hf, hB, hS, h => by
    simp only [schB, Bool.and_eq_true, decide_eq_true_eq] at hB
    obtain ⟨⟨hlt, hr⟩, hB'⟩ := hB
    refine ⟨fun h1 => (by rw [hr] at h1; cases h1), fun j hj => ?_⟩
    rw [hr] at hj
    obtain rfl : j = i := by simpa using hj
    exact sch_step hlt (fun a' w' hS' h' => wpAnyP_sch hsel hQ s f _ a' w' (by simp [schD] at hf; omega) hB' hS' h') h
  | .seq (.seq (.exit i) s) (.seq (.exit j) s'), 0, listed, a, w, hf, _, _, _ => by simp [schD] at hf
  | .seq (.seq (.exit i) s) (.seq (.exit j) s'), f + 1, listed, a, w, hf, hB, hS, h => by
    simp only [schB, Bool.and_eq_true, decide_eq_true_eq] at hB
    obtain ⟨⟨⟨⟨hi, hj⟩, hr⟩, hB1⟩, hB2⟩ := hB
    have h1 : schD s ≤ f := by simp only [schD] at hf; omega
    have h2 : schD s' ≤ f := by simp only [schD] at hf; omega
    refine ⟨fun h1 => (by rw [hr] at h1; cases h1), fun k hk => ?_⟩
    rw [hr] at hk
    simp only [List.mem_cons, List.not_mem_nil, or_false] at hk
    rcases hk with rfl | rfl
    · exact sch_step hi (fun a' w' hS' h' => wpAnyP_sch hsel hQ s f _ a' w' h1 hB1 hS' h') h.1
    · exact sch_step hj (fun a' w' hS' h' => wpAnyP_sch hsel hQ s' f _ a' w' h2 hB2 hS' h') h.2
def schAll (lo : List Oper) (s : Code) : Bool := Region.noSelect lo.toArray && Nat.ble (schD s) lo.length && schB lo s (Array.replicate lo.length false)
theorem wp_region_sch {id : Nat} {lo : List Oper} {s : Code} {a : Act} {w : World} (hm : P.follows .mixedOrders = true) (hB : schAll lo s = true) (hS : S w.drew) (h : wpSch P lo (NoPanic Q) S s a w.drew) : (Code.region id lo.toArray true).wp P Q a w := by
  simp only [schAll, Bool.and_eq_true] at hB
  obtain ⟨⟨h1, h4⟩, h5⟩ := hB
  refine wp_region_noPanic (wp_region_any hm (wpAny_of_P (S := S) (late := []) _ _ _ _ ?_))
  exact wpAnyP_sch (P := P) (Q := NoPanic Q) h1 (fun c a w h => h) s lo.toArray.size (Array.replicate lo.toArray.size false) a w.drew (by simpa using Nat.le_of_ble_eq_true h4) (by simpa using h5) hS h
end
def SC (P : Program) (lo : List Oper) (Q : Exit → Act → World → Prop) (S : World → Prop) (n : Nat) (ds : List Deferred) (s : Code) (e : Env) (w : World) : Prop := ∀ a, Fits a n ds e → wpSch P lo Q S s a w
section
variable {P : Program} {lo : List Oper} {S : World → Prop} {Q : Exit → Act → World → Prop} {n : Nat} {ds : List Deferred} {s s' : Code} {e : Env} {w : World}
variable {d i j : Nat} {op : Op} {ty : TypeId} {pos : String} {af : Array Edge} {g : Option (Nat × Bool)} {val : Value}
theorem SC.v (hp : pick lo i = ⟨some d, op, ty, pos, af, g⟩) (hr : ∀ w, S w → (execOp (ev e) ⟨some d, op, ty, pos, af, g⟩).run P w = .ok (.value val) w) (hc : cov e op = true) (hn : Nat.blt d n = true) (hg : wantE lo.toArray e g = true)
    (k : SC P lo Q S n ds s ((d, val) :: e) w) : SC P lo Q S n ds (.block i s) e w := by
  intro a ha
  unfold wpSch
  rw [hp, if_pos (wanted_of ha hg)]
  exact ⟨val, fun w hw => by rw [ha.exec hc]; exact hr w hw, k _ (ha.put hn val)⟩
def PostS (P : Program) (lo : List Oper) (Q : Exit → Act → World → Prop) (S : World → Prop) (s : Code) : Exit → Act → World → Prop :=
  fun ex a' w' => match ex with
    | .normal => S w' ∧ wpSch P lo Q S s a' w'
    | ex => Q ex a' w'
theorem SC.at {o : Oper} (hp : pick lo i = o) (h : WL P lo.toArray (PostS P lo Q S s) n ds [o] e w) : SC P lo Q S n ds (.seq (.exit i) s) e w := fun a ha => by subst hp; exact h a ha
theorem SC.two {o o' : Oper} (hp : pick lo i = o) (hp' : pick lo j = o') (h : WL P lo.toArray (PostS P lo Q S s) n ds [o] e w) (h' : WL P lo.toArray (PostS P lo Q S s') n ds [o'] e w) : SC P lo Q S n ds (.seq (.seq (.exit i) s) (.seq (.exit j) s')) e w := fun a ha => by subst hp; subst hp'; exact ⟨h a ha, h' a ha⟩
theorem SC.nxt (hS : S w) (k : SC P lo Q S n ds s e w) : WL P lo.toArray (PostS P lo Q S s) n ds [] e w := fun a ha => ⟨hS, k a ha⟩
theorem SC.wl (k : WL P lo.toArray Q n ds [] e w) : SC P lo (NoPanic Q) S n ds .skip e w := fun a ha => k a ha
end
section
variable {P : Program} {Q : Exit → Act → World → Prop} {n : Nat} {ds : List Deferred} {e : Env} {w w0 : World} {M : Nat → Prop} {l l0 : List HI}
theorem WC.schS {id : Nat} {lo : List Oper} (s : Code) (st : St w0 M l w) (s0 : St w0 M l0 w) (hm : P.follows .mixedOrders = true) (hB : schAll lo s = true)
    (k : ∀ w', St w0 M l w' → SC P lo (NoPanic Q) (St w0 M l0) n ds s e w') : WC P (.region id lo.toArray true) Q n ds e w := fun a ha =>
  wp_region_sch (S := St w0 M l0) (s := s) hm hB s0.drew (k _ st.drew a ha)
end
end Go.E1
