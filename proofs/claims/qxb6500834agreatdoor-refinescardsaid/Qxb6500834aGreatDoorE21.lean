/-
  E21: a region that draws its order, whose tail begins with one of two operations, each followed by a forced order. No project text.
-/
import Derived.Test.Qxb6500834aGreatDoorE20
set_option linter.unusedSimpArgs false
set_option linter.unusedVariables false
namespace Go.E1
open Go.RowKit

section
variable {P : Program} {ops : Array Oper} {Q : Exit → Act → World → Prop} {S : World → Prop}

/-- What is ready is i or j; behind each a forced order. -/
def twoTs (ops : Array Oper) (i j : Nat) (ti tj : List Nat) (listed : Array Bool) : Bool :=
  decide (Region.ready .any ops listed = [i, j]) && seqTs ops ti (listed.setIfInBounds i true) && seqTs ops tj (listed.setIfInBounds j true)
def heldW (ops : Array Oper) (late : List Nat) (i j : Nat) (ti tj : List Nat) : List Nat → Array Bool → Bool
  | [], listed => twoTs ops i j ti tj listed
  | h :: hs, listed => (Region.ready .any ops listed).contains h && Region.free .any ops listed h && lateB ops late h && heldW ops late i j ti tj hs (listed.setIfInBounds h true)

theorem wpAnyP_step {late : List Nat} {lo : List Oper} {i : Nat} {ts : List Nat} {f : Nat} {listed : Array Bool} {a : Act} {w : World} (hlt : ((i :: ts).all fun i => Nat.blt i lo.length) = true) (hf : ts.length ≤ f) (hB : seqTs lo.toArray ts (listed.setIfInBounds i true) = true)
    (h : wpSeqP P lo.toArray Q S late ((i :: ts).map fun i => (i, pick lo i)) a w) :
    wpOp P lo.toArray Q i (fun a' w' => (i ∉ late → S w') ∧ wpAnyP P lo.toArray Q S late f (listed.setIfInBounds i true) a' w') a w := by
  simp only [List.all_cons, Bool.and_eq_true] at hlt
  unfold wpOp
  rw [pick_get (Nat.blt_eq.mp hlt.1)]
  simp only
  refine wpList_one (Q := Q) (Q' := fun ex a' w' => match ex with
    | .normal => (i ∉ late → S w') ∧ wpSeqP P lo.toArray Q S late (ts.map fun i => (i, pick lo i)) a' w'
    | ex => Q ex a' w') (fun a' w' h' => ?_) (fun c a w h => h) (fun h => h) h
  exact ⟨h'.1, wpAnyP_of_seq ts f _ a' w' hlt.2 hf hB h'.2⟩

theorem wpAnyP_heldW {late ti tj : List Nat} {i j : Nat} {lo : List Oper} {w : World} (hsel : Region.noSelect lo.toArray = true) (hQ : ∀ c a w, ¬ Q (.panic c) a w) (hti : ((i :: ti).all fun i => Nat.blt i lo.length) = true) (htj : ((j :: tj).all fun i => Nat.blt i lo.length) = true) (hS : S w) :
    ∀ (hs : List Nat) (f : Nat) (listed : Array Bool) (a : Act), (hs.all fun i => Nat.blt i lo.length) = true → hs.length + (ti.length + 1) ≤ f → hs.length + (tj.length + 1) ≤ f → heldW lo.toArray late i j ti tj hs listed = true →
    wpHeld P lo.toArray S (fun a' => wpSeqP P lo.toArray Q S late ((i :: ti).map fun i => (i, pick lo i)) a' w ∧ wpSeqP P lo.toArray Q S late ((j :: tj).map fun i => (i, pick lo i)) a' w) (hs.map (pick lo)) a → wpAnyP P lo.toArray Q S late f listed a w
  | [], 0, listed, a, _, hf, _, hB, h => by simp at hf
  | [], f + 1, listed, a, _, hf, hf2, hB, h => by
    simp only [heldW, twoTs, Bool.and_eq_true, decide_eq_true_eq] at hB
    obtain ⟨⟨h0, hi⟩, hj⟩ := hB
    refine ⟨fun h1 => (by rw [h0] at h1; cases h1), fun k hk => ?_⟩
    rw [h0] at hk
    simp only [List.mem_cons, List.not_mem_nil, or_false] at hk
    rcases hk with rfl | rfl
    · exact wpAnyP_step hti (by simp at hf; omega) hi h.1
    · exact wpAnyP_step htj (by simp at hf2; omega) hj h.2
  | k :: hs, 0, listed, a, _, hf, _, _, _ => by simp at hf
  | k :: hs, f + 1, listed, a, hlt, hf, hf2, hB, h => by
    simp only [heldW, Bool.and_eq_true] at hB
    obtain ⟨⟨⟨hr, hfr⟩, hl⟩, hB'⟩ := hB
    simp only [List.all_cons, Bool.and_eq_true] at hlt
    have hi := pick_get (Nat.blt_eq.mp hlt.1)
    have go : ∀ v, YieldsIf P lo.toArray S (pick lo k) v a → wpHeld P lo.toArray S (fun a' => wpSeqP P lo.toArray Q S late ((i :: ti).map fun i => (i, pick lo i)) a' w ∧ wpSeqP P lo.toArray Q S late ((j :: tj).map fun i => (i, pick lo i)) a' w) (hs.map (pick lo)) (a.put (pick lo k).dst v) →
        wpAnyP P lo.toArray Q S late (f + 1) listed a w := fun v hy h' =>
      wpAnyP_first hi (Region.noSelect_spec hsel) hl hQ f listed a w (Region.free_spec hi hfr) (by simpa using hr) hy hS
        (wpAnyP_heldW hsel hQ hti htj hS hs f _ _ hlt.2 (by simp at hf; omega) (by simp at hf2; omega) hB' h')
    simp only [List.map_cons, wpHeld] at h
    split at h
    · rename_i hw
      obtain ⟨v, hv, h⟩ := h
      exact go v (.inl ⟨hw, hv⟩) h
    · rename_i hw
      exact go undef (.inr ⟨by simpa using hw, rfl⟩) h

/-- The whole check, closed. -/
def heldAllW (lo : List Oper) (late : List Nat) (i j : Nat) (ti tj hs : List Nat) : Bool :=
  Region.noSelect lo.toArray && ((i :: ti).all fun i => Nat.blt i lo.length) && ((j :: tj).all fun i => Nat.blt i lo.length) && (hs.all fun i => Nat.blt i lo.length) && Nat.ble (hs.length + (ti.length + 1)) lo.length && Nat.ble (hs.length + (tj.length + 1)) lo.length && heldW lo.toArray late i j ti tj hs (Array.replicate lo.length false)

theorem wp_region_W {id : Nat} {lo : List Oper} {late ti tj hs : List Nat} {i j : Nat} {a : Act} {w : World} (hm : P.follows .mixedOrders = true) (hB : heldAllW lo late i j ti tj hs = true) (hS : S w.drew)
    (h : wpHeld P lo.toArray S (fun a' => wpSeqP P lo.toArray (NoPanic Q) S late ((i :: ti).map fun i => (i, pick lo i)) a' w.drew ∧ wpSeqP P lo.toArray (NoPanic Q) S late ((j :: tj).map fun i => (i, pick lo i)) a' w.drew) (hs.map (pick lo)) a) : (Code.region id lo.toArray true).wp P Q a w := by
  simp only [heldAllW, Bool.and_eq_true] at hB
  obtain ⟨⟨⟨⟨⟨⟨h1, h2⟩, h3⟩, h4⟩, h5⟩, h6⟩, h7⟩ := hB
  refine wp_region_noPanic (wp_region_any hm (wpAny_of_P (S := S) (late := late) _ _ _ _ ?_))
  exact wpAnyP_heldW (P := P) (Q := NoPanic Q) (w := w.drew) h1 (fun c a w h => h) (by simpa using h2) (by simpa using h3) hS hs lo.toArray.size (Array.replicate lo.toArray.size false) a h4 (by simpa using Nat.le_of_ble_eq_true h5) (by simpa using Nat.le_of_ble_eq_true h6) (by simpa using h7) h
end

section
variable {P : Program} {Q : Exit → Act → World → Prop} {n : Nat} {ds : List Deferred} {e : Env} {w w0 : World} {M : Nat → Prop} {l l0 : List HI}

theorem WC.heldW {id : Nat} {lo : List Oper} (late : List Nat) (i j : Nat) (ti tj hs : List Nat) (st : St w0 M l w) (s0 : St w0 M l0 w) (hm : P.follows .mixedOrders = true) (hB : heldAllW lo late i j ti tj hs = true)
    (k : ∀ w', St w0 M l w' → ∀ K : Act → Prop, (∀ e', (TL P lo.toArray (NoPanic Q) (St w0 M l0) late n ds ((i :: ti).map fun i => (i, pick lo i)) e' w' ∧ TL P lo.toArray (NoPanic Q) (St w0 M l0) late n ds ((j :: tj).map fun i => (i, pick lo i)) e' w') → ∀ a, Fits a n ds e' → K a) → HL P lo.toArray (St w0 M l0) K n ds (hs.map (pick lo)) e) :
    WC P (.region id lo.toArray true) Q n ds e w := fun a ha =>
  wp_region_W (S := St w0 M l0) (late := late) (i := i) (j := j) (ti := ti) (tj := tj) (hs := hs) hm hB s0.drew (k _ st.drew _ (fun e' h a' ha' => ⟨h.1 a' ha', h.2 a' ha'⟩) a ha)
end
end Go.E1
