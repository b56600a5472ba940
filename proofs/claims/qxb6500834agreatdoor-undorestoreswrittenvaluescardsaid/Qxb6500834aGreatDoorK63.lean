import Derived.Test.Qxb6500834aGreatDoorK58
set_option linter.unusedVariables false
set_option linter.unusedSimpArgs false
set_option maxRecDepth 20000
namespace Go.Proofs.Qxb6500834aGreatDoor
open Go.RowKit Go.E1 Go.Kern
variable {w0 : World} {l X : List HI} {w : World} {s s' s0 : KS} {t r N n : Nat} {qv qv' : Nat → Value}

/-! Law: undo restores written values, plainly. -/
/-- What a value held before the first write of the log. -/
def oldG (ec eo : Nat → Nat) : Nat → Nat → Option Nat
  | 0, _ => none
  | n + 1, c => match oldG ec eo n c with
    | some v => some v
    | none => if ec n = c then some (eo n) else none
def oldP (T : TK) (c : Nat) : Option Nat := oldG T.ec T.eo T.n c
theorem oldG_congr {ec eo ec' eo' : Nat → Nat} : ∀ (n c : Nat), (∀ i, i < n → ec i = ec' i ∧ eo i = eo' i) → oldG ec eo n c = oldG ec' eo' n c
  | 0, _, _ => rfl
  | n + 1, c, h => by
    unfold oldG
    rw [oldG_congr n c fun i hi => h i (by omega), (h n (by omega)).1, (h n (by omega)).2]
theorem oldG_none {ec eo : Nat → Nat} {c : Nat} : ∀ n, oldG ec eo n c = none → ∀ i, i < n → ec i ≠ c
  | 0, _, i, hi => by omega
  | n + 1, h, i, hi => by
    unfold oldG at h
    split at h
    · cases h
    · rename_i hn
      split at h
      · cases h
      · rename_i hne
        by_cases e : i = n
        · rw [e]; exact hne
        · exact oldG_none n hn i (by omega)
theorem rollC_at {ec eo : Nat → Nat} : ∀ (n : Nat) (cells : Nat → Nat) (c : Nat), rollC ec eo n cells c = (oldG ec eo n c).getD (cells c)
  | 0, cells, c => rfl
  | n + 1, cells, c => by
    show rollC ec eo n (updN cells (ec n) (eo n)) c = _
    rw [rollC_at n]
    have e0 : oldG ec eo (n + 1) c = match oldG ec eo n c with | some v => some v | none => if ec n = c then some (eo n) else none := rfl
    rw [e0]
    cases hv : oldG ec eo n c with
    | some v => rfl
    | none =>
      show updN cells (ec n) (eo n) c = (if ec n = c then some (eo n) else none).getD (cells c)
      unfold updN
      by_cases e : c = ec n
      · rw [if_pos e, if_pos e.symm]; rfl
      · rw [if_neg e, if_neg (fun k => e k.symm)]; rfl
theorem old_push {T : TK} {c v d : Nat} : oldP (pushP T c v) d = match oldP T d with | some x => some x | none => if c = d then some v else none := by
  show (match oldG (updN T.ec T.n c) (updN T.eo T.n v) T.n d with | some v => some v | none => if updN T.ec T.n c T.n = d then some (updN T.eo T.n v T.n) else none) = _
  rw [oldG_congr (ec' := T.ec) (eo' := T.eo) T.n d fun i hi => ⟨updN_ne (by omega), updN_ne (by omega)⟩, updN_same, updN_same]
  rfl
theorem old_n0 {T : TK} {c : Nat} (h : T.n = 0) : oldP T c = none := by unfold oldP; rw [h]; rfl
theorem old_eq {T U : TK} {c : Nat} (h1 : U.n = T.n) (h2 : U.ec = T.ec) (h3 : U.eo = T.eo) : oldP U c = oldP T c := by unfold oldP; rw [h1, h2, h3]
def odF (s : KS) (t c : Nat) : Option Nat := oldP (s.tk t) c
/-- What is kept of each task's writes, before the rollbacks of a step. -/
def odM (s : KS) (o : Kern.Op) (c : Int) : Nat → Nat → Option Nat :=
  if c = 0 ∧ o.kind = 7 then (fun a b => if a = o.A.toNat ∧ b = o.B.toNat ∧ odF s a b = none then some (s.cells b) else odF s a b)
  else if c = 0 ∧ (o.kind = 8 ∨ o.kind = 9) then (fun a b => if a = o.A.toNat then none else odF s a b) else odF s
theorem od_upd {T : TK} {f : Nat → Nat → Option Nat} (h1 : s'.tk = updN s.tk t T) (h2 : ∀ c, oldP T c = f t c) (h3 : ∀ a, a ≠ t → ∀ c, f a c = odF s a c) (a c : Nat) : odF s' a c = f a c := by
  unfold odF
  rw [h1]
  by_cases e : a = t
  · rw [e, updN_same, h2]
  · rw [updN_ne e, h3 a e]; rfl
theorem Core.od {FL : List (Nat × Nat × Nat)} (h : Core FL s s') (h0 : s.told = []) (t c : Nat) : odF s' t c = if abB s' t then none else odF s t c := by
  have h1 := (h.nb h0).n t
  have h2 := h.lb t
  unfold odF
  by_cases hb : abB s' t = true
  · rw [if_pos hb] at h1 ⊢
    exact old_n0 h1
  · rw [if_neg hb] at h1 ⊢
    exact old_eq h1 h2.c h2.o
theorem undo_old {o : Kern.Op} (hB : KB N s) (hi : INV s) (hv : VN s) (h0 : s.told = []) : ∀ t c, odF (stepP s o).1 t c = if abB (stepP s o).1 t then none else odM s o (stepP s o).2.1 t c := by
  have key : ∀ {s' : KS} {c k : Int}, StepR s o s' c k → ∀ t b, odF s' t b = if abB s' t then none else odM s o c t b := by
    intro s' c k hR
    have core : ∀ {FL : List (Nat × Nat × Nat)} {s1 s2 : KS} {c : Int}, Core FL s1 s2 → s1.told = [] → (∀ t b, odF s1 t b = odM s o c t b) → ∀ t b, odF s2 t b = if abB s2 t then none else odM s o c t b := fun hc h01 h1 t b => by
      rw [hc.od h01 t b, ← h1 t b]
    have triv : ∀ {s1 : KS} {c : Int}, s1.told = [] → (∀ t b, odF s1 t b = odM s o c t b) → ∀ t b, odF s1 t b = if abB s1 t then none else odM s o c t b := fun h01 h1 => core (FL := []) (.refl _) h01 h1
    have e7 : ∀ {c : Int}, ¬ (c = 0 ∧ o.kind = 7) → ¬ (c = 0 ∧ (o.kind = 8 ∨ o.kind = 9)) → odM s o c = odF s := fun h1 h2 => by unfold odM; rw [if_neg h1, if_neg h2]
    cases hR using StepR.elim with
    | refuse c h0' h1 h3 => exact triv h0 fun t b => by rw [e7 (fun k => h0' k.1) (fun k => h0' k.1)]
    | mode hk m hm ha => exact triv h0 fun t b => by rw [e7 (by omega) (by omega)]; rfl
    | born hk t hs =>
      refine triv h0 fun a b => ?_
      rw [e7 (by omega) (by omega)]
      have hl : (s.tk t).live = false := by simpa using List.find?_some hs
      exact od_upd (s := s) (t := t) (T := bornT s t) (f := odF s) rfl (fun c => (old_n0 rfl).trans (old_n0 (hv t hl)).symm) (fun _ _ _ => rfl) a b
    | declare hk t r u hA hB hC hc hr hu hh => exact triv h0 fun t b => by rw [e7 (by omega) (by omega)]; rfl
    | take hk t r u hA hB hC h' hcl W hW ha hat =>
      have h1 := core (c := 0) (FL := []) (s1 := s) (s2 := woundS s W) (Core.wound (wound_lt hW)) h0 fun t b => by rw [e7 (by omega) (by omega)]
      exact h1
    | pend hk t r u tim hA hB' hC ht0 htim h' hcl W hW hd' ha0 ha hat =>
      have h1 := core (c := 1) (FL := []) (s1 := s) (Core.wound (W := W) (by rw [hW]; exact woundL_lt)) h0 fun t b => by rw [e7 (by omega) (by omega)]
      intro a b
      have h2 := h1 a b
      have e3 : abB (enqP (woundS s W) t r u tim) a = abB (woundS s W) a := by unfold abB; rw [enq_told]
      rw [e3, ← h2]
      exact od_upd (s := woundS s W) (f := odF (woundS s W)) enq_tk (fun c => old_eq (by cases tim <;> rfl) (by cases tim <;> rfl) (by cases tim <;> rfl)) (fun _ _ _ => rfl) a b
    | die hk t r u hA hB hC h' hd' ha0 => exact core (FL := []) ((Core.abort (.refl s) t h'.c.lt).trans .wake) h0 fun t b => by rw [e7 (by omega) (by omega)]
    | release hk t r hA hB hc hr hn => exact core (FL := []) .wake h0 fun t b => by rw [e7 (by omega) (by omega)]; rfl
    | write hk t c hA hB hc hc12 hh hn =>
      refine triv h0 fun a b => ?_
      have e : odM s o 0 = fun a b => if a = t ∧ b = c ∧ odF s a b = none then some (s.cells b) else odF s a b := by unfold odM; rw [if_pos ⟨rfl, hk⟩, hA, hB, Int.toNat_natCast, Int.toNat_natCast]
      rw [e]
      refine od_upd (s := s) (t := t) (T := pushP (s.tk t) c (s.cells c)) (f := fun a b => if a = t ∧ b = c ∧ odF s a b = none then some (s.cells b) else odF s a b) rfl (fun d => ?_) (fun a ha d => if_neg (fun k => ha k.1)) a b
      rw [old_push]
      show _ = if t = t ∧ d = c ∧ oldP (s.tk t) d = none then some (s.cells d) else oldP (s.tk t) d
      cases hx : oldP (s.tk t) d with
      | some x => simp
      | none =>
        by_cases hd : d = c
        · subst hd; simp
        · have : ¬ c = d := fun k => hd k.symm
          simp [hd, this]
    | commit hk t hA hc =>
      refine triv h0 fun a b => ?_
      have e : odM s o 0 = fun a b => if a = t then none else odF s a b := by unfold odM; rw [if_neg (by omega), if_pos ⟨rfl, .inl hk⟩, hA, Int.toNat_natCast]
      rw [e]
      exact od_upd (s := s) (t := t) (T := { s.tk t with n := 0 }) (f := fun a b => if a = t then none else odF s a b) rfl (fun d => (old_n0 rfl).trans (if_pos rfl).symm) (fun a h d => if_neg h) a b
    | exit hk t hA hc =>
      refine core (FL := []) .wake h0 fun a b => ?_
      have e : odM s o 0 = fun a b => if a = t then none else odF s a b := by unfold odM; rw [if_neg (by omega), if_pos ⟨rfl, .inr hk⟩, hA, Int.toNat_natCast]
      rw [e]
      exact od_upd (s := s) (t := t) (T := { tk0 with epoch := inc64 (s.tk t).epoch }) (f := fun a b => if a = t then none else odF s a b) rfl (fun d => (old_n0 rfl).trans (if_pos rfl).symm) (fun a h d => if_neg h) a b
    | tick hk h16 => exact core (Core.tick h16) h0 fun t b => by rw [e7 (by omega) (by omega)]; rfl
    | detect hk v hv hv16 => exact core (FL := []) ((Core.abort (.refl s) v hv16).trans .wake) h0 fun t b => by rw [e7 (by omega) (by omega)]
  exact key (step_R hB hi)
/-! The values. -/
def rolE (D : Nat → Nat → Option Nat) (E : Nat → Nat) (v : Nat) : Nat → Nat := fun c => (D v c).getD (E c)
def cellM (s : KS) (o : Kern.Op) (c : Int) : Nat → Nat := if c = 0 ∧ o.kind = 7 then updN s.cells o.B.toNat o.X else s.cells
theorem aborts_cells : ∀ (W : List Nat) {s : KS}, W.Nodup → (W.foldl abortP s).cells = W.foldl (rolE (odF s)) s.cells
  | [], s, _ => rfl
  | v :: W, s, hn => by
    rw [List.foldl_cons, aborts_cells W (List.nodup_cons.1 hn).2, List.foldl_cons]
    have e1 : (abortP s v).cells = rolE (odF s) s.cells v := by
      funext c
      exact rollC_at _ _ _
    rw [e1]
    have hv := (List.nodup_cons.1 hn).1
    have key : ∀ (L : List Nat) (E : Nat → Nat), (∀ x, x ∈ L → x ≠ v) → L.foldl (rolE (odF (abortP s v))) E = L.foldl (rolE (odF s)) E := by
      intro L
      induction L with
      | nil => intro E _; rfl
      | cons a L ih =>
        intro E h
        rw [List.foldl_cons, List.foldl_cons]
        have e2 : rolE (odF (abortP s v)) E a = rolE (odF s) E a := by
          funext c
          unfold rolE odF
          rw [abort_tk, updN_ne (h a List.mem_cons_self)]
        rw [e2]
        exact ih _ fun x hx => h x (List.mem_cons_of_mem _ hx)
    exact key W _ fun x hx e => hv (e ▸ hx)
theorem tasks_of {m : Nat} {W : List Nat} (hW : ∃ k, W = tasksP k) (h : ∀ t, t < 16 → m.testBit t = decide (t ∈ W)) : tasksP m = W := by
  obtain ⟨k, rfl⟩ := hW
  unfold tasksP
  refine List.filter_congr fun t ht => ?_
  have ht := List.mem_range.1 ht
  rw [h t ht]
  cases hb : k.testBit t with
  | true => exact decide_eq_true (tasksP_mem.2 ⟨ht, hb⟩)
  | false => exact decide_eq_false fun hm => by rw [(tasksP_mem.1 hm).2] at hb; cases hb
theorem tasks_one (ht : t < 16) : tasksP (2 ^ t) = [t] := by
  have h0 : 2 ^ t ≠ 0 := Nat.ne_of_gt (Nat.two_pow_pos t)
  refine (tasks_of (m := 2 ^ t) (W := [t]) ?_ fun a _ => ?_)
  · match t, ht with
    | 0, _ => exact ⟨1, by decide⟩
    | 1, _ => exact ⟨2, by decide⟩
    | 2, _ => exact ⟨4, by decide⟩
    | 3, _ => exact ⟨8, by decide⟩
    | 4, _ => exact ⟨16, by decide⟩
    | 5, _ => exact ⟨32, by decide⟩
    | 6, _ => exact ⟨64, by decide⟩
    | 7, _ => exact ⟨128, by decide⟩
    | 8, _ => exact ⟨256, by decide⟩
    | 9, _ => exact ⟨512, by decide⟩
    | 10, _ => exact ⟨1024, by decide⟩
    | 11, _ => exact ⟨2048, by decide⟩
    | 12, _ => exact ⟨4096, by decide⟩
    | 13, _ => exact ⟨8192, by decide⟩
    | 14, _ => exact ⟨16384, by decide⟩
    | 15, _ => exact ⟨32768, by decide⟩
    | t + 16, h => omega
  · rw [Nat.testBit_two_pow]
    by_cases e : t = a
    · subst e; simp
    · have : ¬ a = t := fun k => e k.symm
      simp [e, this]
theorem undo_cells {o : Kern.Op} (hB : KB N s) (hi : INV s) (h0 : s.told = []) : (stepP s o).1.cells = (tasksP (toldP (stepP s o).1.told 3)).foldl (rolE (odF s)) (cellM s o (stepP s o).2.1) := by
  have key : ∀ {s' : KS} {c k : Int}, StepR s o s' c k → s'.cells = (tasksP (toldP s'.told 3)).foldl (rolE (odF s)) (cellM s o c) := by
    intro s' c k hR
    have e7 : ∀ {c : Int}, ¬ (c = 0 ∧ o.kind = 7) → cellM s o c = s.cells := fun h => if_neg h
    have no : ∀ {x : KS} {c : Int}, (∀ t, abB x t = false) → x.cells = cellM s o c → x.cells = (tasksP (toldP x.told 3)).foldl (rolE (odF s)) (cellM s o c) := fun h hc => by
      have : tasksP (toldP (_ : KS).told 3) = [] := tasks_of (W := []) ⟨0, by decide⟩ fun t _ => h t
      rw [this, hc]; rfl
    have one : ∀ (v : Nat), v < 16 → (wakeP (abortP s v)).cells = (tasksP (toldP (wakeP (abortP s v)).told 3)).foldl (rolE (odF s)) s.cells := fun v hv => by
      have h1 := aborts_cells (s := s) [v] (by simp)
      have h2 : tasksP (toldP (wakeP (abortP s v)).told 3) = [v] := tasks_of (W := [v]) ⟨2 ^ v, (tasks_one hv).symm⟩ fun t _ => by
        show abB (wakeP (abortP s v)) t = _
        rw [GR.wake.a, abB_abort, abB_nil h0, Bool.false_or]
        by_cases e : v = t
        · subst e; simp
        · have : ¬ t = v := fun k => e k.symm
          simp [e, this]
      rw [h2, GR.wake.c]
      exact h1
    have wnd : ∀ {t r : Nat} {W : List Nat}, W = woundL s t r → (woundS s W).cells = (tasksP (toldP (woundS s W).told 3)).foldl (rolE (odF s)) s.cells := fun {t r W} hW => by
      by_cases hn : W = []
      · have e : woundS s W = s := if_pos hn
        rw [e]
        have : tasksP (toldP s.told 3) = [] := tasks_of (W := []) ⟨0, by decide⟩ fun t _ => abB_nil h0
        rw [this]; rfl
      · have e : woundS s W = wakeP (W.foldl abortP s) := if_neg hn
        have hnd : W.Nodup := by rw [hW]; exact tasksP_nodup _
        have h2 : tasksP (toldP (woundS s W).told 3) = W := tasks_of ⟨(judgeS s t r).2, hW⟩ fun a _ => by
          show abB (woundS s W) a = _
          rw [e, GR.wake.a, aborts_abB, abB_nil h0, Bool.false_or]
        rw [h2, e, GR.wake.c, aborts_cells W hnd]
    cases hR using StepR.elim with
    | refuse c h0' h1 h3 => exact no (fun t => abB_nil h0) (e7 (fun k => h0' k.1)).symm
    | mode hk m hm ha => exact no (fun t => abB_nil (s := { s with mode := m }) h0) (e7 (by omega)).symm
    | born hk t hs => exact no (fun t' => abB_nil (s := bornS s t) h0) (e7 (by omega)).symm
    | declare hk t r u hA hB hC hc hr hu hh => exact no (fun t' => abB_nil (s := { s with claim := upd2 s.claim t r u }) h0) (e7 (by omega)).symm
    | take hk t r u hA hB hC h' hcl W hW ha hat =>
      rw [e7 (by omega)]
      rcases hW with hW | hW
      · subst hW
        have e : woundS s [] = s := if_pos rfl
        have : tasksP (toldP (grant1 (woundS s []) t r u).told 3) = [] := tasks_of (W := []) ⟨0, by decide⟩ fun a _ => by rw [e]; exact abB_nil (s := s) h0
        rw [this, e]; rfl
      · exact wnd hW.1
    | pend hk t r u tim hA hB' hC ht0 htim h' hcl W hW hd' ha0 ha hat =>
      rw [e7 (by omega), enq_cells, enq_told]
      exact wnd hW
    | die hk t r u hA hB hC h' hd' ha0 => rw [e7 (by omega)]; exact one t h'.c.lt
    | release hk t r hA hB hc hr hn => exact no (fun t' => by rw [GR.wake.a]; exact abB_nil (s := { s with held := upd2 s.held t r 0 }) h0) (by rw [GR.wake.c, e7 (by omega)])
    | write hk t c hA hB hc hc12 hh hn =>
      refine no (fun t' => abB_nil (s := { s with tk := updN s.tk t (pushP (s.tk t) c (s.cells c)), cells := updN s.cells c o.X }) h0) ?_
      unfold cellM
      rw [if_pos ⟨rfl, hk⟩, hB, Int.toNat_natCast]
    | commit hk t hA hc => exact no (fun t' => abB_nil (s := { s with tk := updN s.tk t { s.tk t with n := 0 } }) h0) (e7 (by omega)).symm
    | exit hk t hA hc => exact no (fun t' => by rw [GR.wake.a]; exact abB_nil (s := exitS s t) h0) (by rw [GR.wake.c, e7 (by omega)]; rfl)
    | tick hk h16 =>
      refine no (fun t' => by unfold tickP; rw [ticks_abB]; exact abB_nil (s := tick0 s) h0) ?_
      rw [e7 (by omega)]
      unfold tickP
      have : ∀ (F : List (Nat × Nat × Nat)) (x : KS), (F.foldl tick1 x).cells = x.cells := by
        intro F
        induction F with
        | nil => intro x; rfl
        | cons f F ih =>
          intro x
          rw [List.foldl_cons, ih]
          unfold tick1
          split
          · rw [GR.wake.c]; rfl
          · rfl
      rw [this]; rfl
    | detect hk v hv hv16 => rw [e7 (by omega)]; exact one v hv16
  exact key (step_R hB hi)
end Go.Proofs.Qxb6500834aGreatDoor

