/-
  E12: what a readable argument looks like in memory: opening by the type, the reach handed down. No project text.
-/
import Derived.Test.Qxb6500834aGreatDoorE11
import Derived.ProofKit
import Derived.SizedLaws
set_option linter.unusedSimpArgs false
set_option linter.unusedVariables false
namespace Go.E1
open Go.RowKit

/-- The cells cs of type t can be read as data in w, each part within the reach. -/
def Rd (P : Program) (w : World) (t : TypeId) (cs : List Value) : Prop :=
  ∃ (H : Type) (enc : TypeId × Value → H) (fuel : Nat) (d : DataW H) (ps : List MemPlace), DataW.trod enc P w 0 (fun _ => true) true fuel t cs = some (d, ps) ∧ ∀ x ∈ d.weights P t, x ≤ reachBytes

theorem rd_of_trod {P : Program} {w : World} {H : Type} {enc : TypeId × Value → H} {t : TypeId} {v : Value} {d : DataW H} {ps : List MemPlace} (h : DataW.Trod enc P w 0 (fun _ => true) true t v d ps) (hw : ∀ x ∈ d.weights P t, x ≤ reachBytes) : Rd P w t v.cells.toList := by
  obtain ⟨fuel, h⟩ := h
  exact ⟨H, enc, fuel, d, ps, h, hw⟩

theorem mapM_some {α β : Type} {f : α → Option β} : ∀ {l : List α} {r : List β}, l.mapM f = some r → r.length = l.length ∧ ∀ (i : Nat) x, l[i]? = some x → ∃ y, r[i]? = some y ∧ f x = some y
  | [], r, h => by simp at h; subst h; exact ⟨rfl, fun i x hx => by simp at hx⟩
  | a :: l, r, h => by
    simp only [List.mapM_cons] at h
    cases ha : f a with
    | none => simp [ha] at h
    | some y =>
      cases hl : l.mapM f with
      | none => simp [ha, hl] at h
      | some r' =>
        simp [ha, hl] at h
        subst h
        obtain ⟨h1, h2⟩ := mapM_some hl
        refine ⟨by simp [h1], fun i x hx => ?_⟩
        cases i with
        | zero => simp at hx; subst hx; exact ⟨y, by simp, ha⟩
        | succ i => simp at hx; obtain ⟨z, hz1, hz2⟩ := h2 i x hx; exact ⟨z, by simpa using hz1, hz2⟩

section
variable {P : Program} {w : World} {t : TypeId} {cs : List Value}

theorem rd_int {k : IntKind} (hu : P.underlying t = some (.int k)) (h : Rd P w t cs) : ∃ n, cs = [.int k n] ∧ k.min ≤ n ∧ n ≤ k.max := by
  obtain ⟨H, enc, fuel, d, ps, h, _⟩ := h
  cases fuel with
  | zero => simp [DataW.trod] at h
  | succ fuel =>
    unfold DataW.trod at h
    rw [hu] at h
    split at h <;> first | (exfalso; simp_all; done) | skip
    · rename_i heq
      cases heq
      split at h
      · rename_i hc
        obtain ⟨rfl, hwf⟩ := hc
        simp only [Lit.wf, Bool.and_eq_true, decide_eq_true_eq] at hwf
        exact ⟨_, rfl, hwf⟩
      · cases h

theorem rd_bool (hu : P.underlying t = some .bool) (h : Rd P w t cs) : ∃ b, cs = [.bool b] := by
  obtain ⟨H, enc, fuel, d, ps, h, _⟩ := h
  cases fuel with
  | zero => simp [DataW.trod] at h
  | succ fuel =>
    unfold DataW.trod at h
    rw [hu] at h
    split at h <;> first | (exfalso; simp_all; done) | skip
    · exact ⟨_, rfl⟩

theorem rd_string (hu : P.underlying t = some .string) (h : Rd P w t cs) : ∃ s, cs = [.string s] ∧ s.size ≤ reachBytes := by
  obtain ⟨H, enc, fuel, d, ps, h, hw⟩ := h
  cases fuel with
  | zero => simp [DataW.trod] at h
  | succ fuel =>
    unfold DataW.trod at h
    rw [hu] at h
    split at h <;> first | (exfalso; simp_all; done) | skip
    · split at h
      · simp only [Option.some.injEq, Prod.mk.injEq] at h
        obtain ⟨rfl, rfl⟩ := h
        have := hw _ (by simp only [DataW.weights]; exact List.mem_singleton.2 rfl)
        exact ⟨_, rfl, by simpa using this⟩
      · cases h

theorem weightsAll_mem {H : Type} {P : Program} {e : TypeId} : ∀ {l : List (DataW H)} {d : DataW H}, d ∈ l → ∀ x ∈ d.weights P e, x ∈ DataW.weightsAll P e l
  | [], _, h, _, _ => by cases h
  | a :: l, d, h, x, hx => by
    simp only [DataW.weightsAll, List.mem_append]
    rcases List.mem_cons.1 h with rfl | h
    · exact .inl hx
    · exact .inr (weightsAll_mem h x hx)

theorem weightsEach_mem {H : Type} {P : Program} : ∀ {ts : List TypeId} {l : List (DataW H)} {i : Nat} {t : TypeId} {d : DataW H}, ts[i]? = some t → l[i]? = some d → ∀ x ∈ d.weights P t, x ∈ DataW.weightsEach P ts l
  | [], _, _, _, _, h, _, _, _ => by simp at h
  | _ :: _, [], _, _, _, _, h, _, _ => by simp at h
  | a :: ts, b :: l, i, t, d, ht, hd, x, hx => by
    simp only [DataW.weightsEach, List.mem_append]
    cases i with
    | zero => simp at ht hd; subst ht; subst hd; exact .inl hx
    | succ i => simp at ht hd; exact .inr (weightsEach_mem ht hd x hx)

/-- An element of a slice, by its cells. -/
def ElemAt (P : Program) (w : World) (e : TypeId) (b o i : Nat) : Prop :=
  ∃ ecs : List Value, ecs.length = P.cellsOf e ∧ (∀ j, j < P.cellsOf e → w.cell? ⟨b, o + i * P.cellsOf e + j, none⟩ = some (nth ecs j)) ∧ Rd P w e ecs

theorem rd_slice {e : TypeId} (hu : P.underlying t = some (.slice e)) (he : 0 < P.cellsOf e) (h : Rd P w t cs) :
    ∃ a n c b o, cs = [.slice a n c] ∧ n ≤ c ∧ c ≤ maxLen ∧ c * P.bytesOf e ≤ reachBytes ∧ (0 < n → a = some ⟨b, o, none⟩) ∧ ∀ i, i < n → ElemAt P w e b o i := by
  obtain ⟨H, enc, fuel, d, ps, h, hw⟩ := h
  cases fuel with
  | zero => simp [DataW.trod] at h
  | succ fuel =>
    unfold DataW.trod at h
    rw [hu] at h
    split at h <;> first | (exfalso; simp_all; done) | skip
    · exact ⟨none, 0, 0, 0, 0, rfl, by simp, by simp [maxLen], by simp, by simp, fun i hi => by omega⟩
    · rename_i a n c heq
      cases heq
      simp only [Nat.zero_le, true_and, if_true] at h
      split at h
      case isFalse => cases h
      rename_i hcc
      obtain ⟨h1, h2⟩ := hcc
      cases hel : ((List.range n).mapM fun i => (w.cells? 0 (a.add (i * P.cellsOf e)) (P.cellsOf e)).bind (DataW.trod enc P w 0 (fun _ => true) true fuel e)) with
      | none => rw [hel] at h; cases h
      | some elems =>
      rw [hel] at h
      simp only [Option.bind_some] at h
      cases hre : ((List.range (c - n)).mapM fun j => (w.cells? 0 (a.add ((n + j) * P.cellsOf e)) (P.cellsOf e)).bind (DataW.trod enc P w 0 (fun _ => true) true fuel e)) with
      | none => rw [hre] at h; cases h
      | some rest =>
      rw [hre] at h
      simp only [Option.map_some, Option.some.injEq, Prod.mk.injEq] at h
      obtain ⟨hd, _⟩ := h
      subst hd
      obtain ⟨hl1, hg1⟩ := mapM_some hel
      obtain ⟨hl2, hg2⟩ := mapM_some hre
      simp only [List.length_range] at hl1 hl2
      have hcap : c * P.bytesOf e ≤ reachBytes := by
        have := hw ((elems.length + rest.length) * P.bytesOf e) (by simp only [DataW.weights, hu, List.length_map]; exact List.mem_cons_self ..)
        rwa [hl1, hl2, show n + (c - n) = c by omega] at this
      refine ⟨some a, n, c, a.block, a.off, rfl, h1, h2, hcap, fun h0 => ?_, fun i hi => ?_⟩
      · obtain ⟨y, hy1, hy2⟩ := hg1 0 0 (by simp [h0])
        simp only [Nat.zero_mul] at hy2
        cases hc : w.cells? 0 (a.add 0) (P.cellsOf e) with
        | none => simp [hc] at hy2
        | some ecs =>
          unfold World.cells? at hc
          simp only [Nat.zero_le, if_true] at hc
          obtain ⟨_, hg⟩ := mapM_some hc
          obtain ⟨v, _, hv⟩ := hg 0 0 (by simp [he])
          simp only [Addr.add, if_true] at hv
          obtain ⟨ab, ao, as⟩ := a
          cases as with
          | none => rfl
          | some s => simp [World.cell?] at hv; split at hv <;> simp at hv
      · obtain ⟨y, hy1, hy2⟩ := hg1 i i (by simp [hi])
        cases hc : w.cells? 0 (a.add (i * P.cellsOf e)) (P.cellsOf e) with
        | none => simp [hc] at hy2
        | some ecs =>
          simp only [hc, Option.bind_some] at hy2
          unfold World.cells? at hc
          simp only [Nat.zero_le, if_true] at hc
          obtain ⟨hl, hg⟩ := mapM_some hc
          simp only [List.length_range] at hl
          refine ⟨ecs, hl, fun j hj => ?_, H, enc, fuel, y.1, y.2, hy2, fun x hx => hw x ?_⟩
          · obtain ⟨v, hv1, hv2⟩ := hg j j (by simp [hj])
            have e1 : nth ecs j = v := by simp [nth, hv1]
            rw [e1, ← hv2]
            obtain ⟨ab, ao, as⟩ := a
            by_cases hz : i * P.cellsOf e + j = 0
            · have hz1 : i * P.cellsOf e = 0 := by omega
              have hz2 : j = 0 := by omega
              subst hz2
              simp only [hz1, Addr.add, if_true] at hv2 ⊢
              cases as with
              | none => rfl
              | some s => simp [World.cell?] at hv2; split at hv2 <;> simp at hv2
            · by_cases hz1 : i * P.cellsOf e = 0
              · rw [hz1] at hz ⊢
                simp only [Nat.zero_add] at hz
                simp [Addr.add, hz]
              · by_cases hz2 : j = 0
                · subst hz2; simp [Addr.add, hz1]
                · simp [Addr.add, hz1, hz2]
          · simp only [DataW.weights, hu, List.mem_cons, List.mem_append]
            exact .inr (.inl (weightsAll_mem (List.mem_map.2 ⟨y, List.mem_of_getElem? hy1, rfl⟩) x hx))

theorem rd_struct {fs : Array Field} (hu : P.underlying t = some (.struct fs)) (h : Rd P w t cs) :
    cs.length = P.cellsOf t ∧ ∀ (i : Nat) f, fs.toList[i]? = some f → Rd P w f.type ((cs.drop f.offset).take (P.cellsOf f.type)) := by
  obtain ⟨H, enc, fuel, d, ps, h, hw⟩ := h
  cases fuel with
  | zero => simp [DataW.trod] at h
  | succ fuel =>
    unfold DataW.trod at h
    rw [hu] at h
    simp only at h
    split at h
    · rename_i hl
      refine ⟨hl, fun i f hf => ?_⟩
      cases hm : (fs.toList.mapM fun f => DataW.trod enc P w 0 (fun _ => true) true fuel f.type ((cs.drop f.offset).take (P.cellsOf f.type))) with
      | none => simp [hm] at h
      | some xs =>
        simp only [hm, Option.map_some, Option.some.injEq, Prod.mk.injEq] at h
        obtain ⟨rfl, rfl⟩ := h
        obtain ⟨_, hg⟩ := mapM_some hm
        obtain ⟨y, hy1, hy2⟩ := hg i f hf
        refine ⟨H, enc, fuel, y.1, y.2, hy2, fun x hx => hw x ?_⟩
        simp only [DataW.weights, hu]
        exact weightsEach_mem (i := i) (t := f.type) (d := y.1) (by simp [hf]) (by simp [hy1]) x hx
    · cases h

/-- A struct's fields: type and offset. -/
def fieldsT (P : Program) (t : TypeId) : Option (List (TypeId × Nat)) :=
  match P.underlying t with
  | some (.struct fs) => some (fs.toList.map fun f => (f.type, f.offset))
  | _ => none

theorem rd_fields {l : List (TypeId × Nat)} (hf : fieldsT P t = some l) (h : Rd P w t cs) : cs.length = P.cellsOf t ∧ ∀ (i : Nat) ft fo, l[i]? = some (ft, fo) → Rd P w ft ((cs.drop fo).take (P.cellsOf ft)) := by
  unfold fieldsT at hf
  split at hf
  · rename_i fs hu
    simp only [Option.some.injEq] at hf
    subst hf
    obtain ⟨h1, h2⟩ := rd_struct hu h
    refine ⟨h1, fun i ft fo hi => ?_⟩
    simp only [List.getElem?_map] at hi
    cases hg : fs.toList[i]? with
    | none => simp [hg] at hi
    | some f =>
      simp only [hg, Option.map_some, Option.some.injEq, Prod.mk.injEq] at hi
      obtain ⟨rfl, rfl⟩ := hi
      exact h2 i f hg
  · cases hf

/-- A field of one cell. -/
theorem rd_f1 {l : List (TypeId × Nat)} {m ft fo : Nat} (i : Nat) (hf : fieldsT P t = some l) (hm : P.cellsOf t = m) (hi : l[i]? = some (ft, fo)) (h1 : P.cellsOf ft = 1) (hlt : fo < m) (h : Rd P w t cs) : Rd P w ft [nth cs fo] := by
  obtain ⟨hl, hg⟩ := rd_fields hf h
  have := hg i ft fo hi
  rw [h1] at this
  have e : (cs.drop fo).take 1 = [nth cs fo] := by
    have hlt' : fo < cs.length := by omega
    rw [List.drop_eq_getElem_cons hlt', List.take_succ_cons, List.take_zero]
    simp [nth, hlt']
  rwa [e] at this

/-- A field of several cells, and a one-cell field of it. -/
theorem rd_f2 {l l' : List (TypeId × Nat)} {m ft fo m' gt go : Nat} (i i' : Nat) (hf : fieldsT P t = some l) (hm : P.cellsOf t = m) (hi : l[i]? = some (ft, fo)) (hf' : fieldsT P ft = some l') (hm' : P.cellsOf ft = m') (hi' : l'[i']? = some (gt, go)) (h1 : P.cellsOf gt = 1)
    (hlt : fo + go < m) (hlt' : go < m') (h : Rd P w t cs) : Rd P w gt [nth cs (fo + go)] := by
  obtain ⟨hl, hg⟩ := rd_fields hf h
  have h2 := rd_f1 i' hf' hm' hi' h1 hlt' (hg i ft fo hi)
  have e : nth ((cs.drop fo).take (P.cellsOf ft)) go = nth cs (fo + go) := by
    unfold nth
    rw [List.getD_eq_getElem?_getD, List.getD_eq_getElem?_getD, List.getElem?_take_of_lt (by omega), List.getElem?_drop]
  rwa [e] at h2
end
section
variable {P : Program} {ρ : Operand → Value} {w : World} {d : Option Tmp} {ty : TypeId} {pos : String} {af : Array Edge} {g : Option (Nat × Bool)} {x : Operand}
theorem r_lens {T : TypeId} {s : ByteArray} (hT : P.underlying T = some .string) (hx : ρ x = .string s) : (execOp ρ ⟨d, .call ⟨.builtin .len, #[x], #[T]⟩, ty, pos, af, g⟩).run P w = .ok (.value (.int .i64 (s.size : Nat))) w := by
  simp [execOp, resolve, invoke, builtin, Builtin.len_, hx, run_underlying hT, goInt, go_sem]
end
end Go.E1
