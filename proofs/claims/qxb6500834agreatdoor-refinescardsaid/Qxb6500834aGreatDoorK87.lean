import Derived.Test.Qxb6500834aGreatDoorK86
set_option linter.unusedVariables false
set_option linter.unusedSimpArgs false
set_option maxRecDepth 20000
namespace Go.Proofs.Qxb6500834aGreatDoor
open Go.RowKit Go.E1 Go.Kern
variable {w0 : World} {l X : List HI} {w : World} {s s' s0 : KS} {t r N n : Nat} {qv qv' : Nat → Value}
variable {P : List PQ} {m : MR} {pv tv v : Value} {mb : Nat → Nat} {bm : Nat} {T : List (Nat × Nat × Nat)} {O : Nat → Nat → Option Nat} {held claim : Nat → Nat → Nat}

/-! What the model's acquire answers. -/
def acqM (s : KS) (t r : Nat) (U : Int) (tim : Option Nat) : KS × Int :=
  if checkP s.held t (r : Int) U ≠ 0 then (s, checkP s.held t (r : Int) U)
  else if s.mode = 3 ∧ (s.claim t r : Int) < (s.held t r : Nat) + U then (s, 21)
  else acq2 s t r U.toNat tim
theorem checkP_r {U : Int} (hr : r < 20) : checkP s.held t (r : Int) U = if 8 ≤ (r : Int) ∧ U ≠ 1 ∧ U ≠ 16 then 14 else if 8 ≤ (r : Int) ∧ 0 < s.held t r then 15 else if U < 1 ∨ (totP r : Int) < s.held t r + U then 14 else 0 := by
  unfold checkP
  rw [if_neg (by omega), Int.toNat_natCast]
theorem acqM_14 {U : Int} {tim : Option Nat} (hr : r < 20) (h : 8 ≤ r ∧ U ≠ 1 ∧ U ≠ 16) : acqM s t r U tim = (s, 14) := by
  have e : checkP s.held t (r : Int) U = 14 := by rw [checkP_r hr, if_pos ⟨by omega, h.2⟩]
  unfold acqM
  rw [e, if_pos (by decide)]
theorem acqM_15 {U : Int} {tim : Option Nat} (hr : r < 20) (h1 : ¬ (8 ≤ r ∧ U ≠ 1 ∧ U ≠ 16)) (h : 8 ≤ r ∧ 0 < s.held t r) : acqM s t r U tim = (s, 15) := by
  have e : checkP s.held t (r : Int) U = 15 := by rw [checkP_r hr, if_neg (fun k => h1 ⟨by omega, k.2⟩), if_pos ⟨by omega, h.2⟩]
  unfold acqM
  rw [e, if_pos (by decide)]
theorem acqM_14b {U : Int} {tim : Option Nat} (hr : r < 20) (h1 : ¬ (8 ≤ r ∧ U ≠ 1 ∧ U ≠ 16)) (h2 : ¬ (8 ≤ r ∧ 0 < s.held t r)) (h : U < 1 ∨ (totP r : Int) < s.held t r + U) : acqM s t r U tim = (s, 14) := by
  have e : checkP s.held t (r : Int) U = 14 := by rw [checkP_r hr, if_neg (fun k => h1 ⟨by omega, k.2⟩), if_neg (fun k => h2 ⟨by omega, k.2⟩), if_pos h]
  unfold acqM
  rw [e, if_pos (by decide)]
theorem acqM_ok {U : Int} {tim : Option Nat} (hr : r < 20) (h1 : ¬ (8 ≤ r ∧ U ≠ 1 ∧ U ≠ 16)) (h2 : ¬ (8 ≤ r ∧ 0 < s.held t r)) (h : ¬ (U < 1 ∨ (totP r : Int) < s.held t r + U)) : acqM s t r U tim = if s.mode = 3 ∧ (s.claim t r : Int) < (s.held t r : Nat) + U then (s, 21) else acq2 s t r U.toNat tim := by
  have e : checkP s.held t (r : Int) U = 0 := by rw [checkP_r hr, if_neg (fun k => h1 ⟨by omega, k.2⟩), if_neg (fun k => h2 ⟨by omega, k.2⟩), if_neg h]
  unfold acqM
  rw [e, if_neg (by decide)]
/-- What an acquisition comes to that can't be answered at once. -/
def acq3 (s : KS) (t r u : Nat) (tim : Option Nat) : KS × Int :=
  if (judgeS s t r).1 then (wakeP (abortP s t), 3)
  else if woundL s t r ≠ [] ∧ atOnceP (woundS s (woundL s t r)) t r u = true then (grant1 (woundS s (woundL s t r)) t r u, 0)
  else (enqP (woundS s (woundL s t r)) t r u tim, 1)
theorem acq2_3 {u : Nat} {tim : Option Nat} (h1 : atOnceP s t r u = false) (h2 : tim ≠ some 0) : acq2 s t r u tim = acq3 s t r u tim := by
  have hjl : (judgeS s t r).2 < 65536 := judgeF_lt (L := tasksP (rivalsP s t r)) fun o ho => tasksP_lt ho
  unfold acq2 acq3
  rw [h1, if_neg (by decide), if_neg h2]
  show (if (judgeS s t r).1 = true then _ else if (judgeS s t r).2 = 0 then (enqP s t r u tim, (1 : Int)) else if atOnceP (wakeP ((woundL s t r).foldl abortP s)) t r u = true then (grant1 (wakeP ((woundL s t r).foldl abortP s)) t r u, 0) else (enqP (wakeP ((woundL s t r).foldl abortP s)) t r u tim, 1)) = _
  by_cases hd : (judgeS s t r).1 = true
  · rw [if_pos hd, if_pos hd]
  · rw [if_neg hd, if_neg hd]
    by_cases hz : (judgeS s t r).2 = 0
    · have e : woundL s t r = [] := by unfold woundL; rw [hz]; decide
      have e2 : woundS s (woundL s t r) = s := by rw [e]; exact if_pos rfl
      rw [if_pos hz, if_neg (fun k => k.1 e), e2]
    · have e : woundL s t r ≠ [] := fun k => hz (tasksP_nil hjl k)
      have e2 : woundS s (woundL s t r) = wakeP ((woundL s t r).foldl abortP s) := if_neg e
      rw [if_neg hz, e2]
      by_cases ha : atOnceP (wakeP ((woundL s t r).foldl abortP s)) t r u = true
      · rw [if_pos ha, if_pos ⟨e, ha⟩]
      · rw [if_neg ha, if_neg (fun k => ha k.2)]
/-! Enqueueing. -/
def enD (s : KS) (tim : Option Nat) : Nat × Nat := match tim with | none => (0, 0) | some k => (deadP s.now k, s.armed + 1)
theorem RelP.enq {u : Nat} {tim : Option Nat} (h : RelP s P) (hi : INV s) (ht : t < 16) (hr : r < 20) (hw : (s.tk t).waiting = false) (hti : TI s []) : RelP (enqP s t r u tim) (P ++ [⟨t, r, u, (enD s tim).1, (enD s tim).2⟩]) where
  q b hb := by
    rw [enq_queue]
    unfold quP
    rw [List.filter_append, List.map_append]
    unfold updN
    by_cases e : b = r
    · rw [if_pos e, e, h.q r hr]
      congr 1
      simp
    · rw [if_neg e, h.q b hb]
      have : (r == b) = false := by simpa using fun k => e k.symm
      simp [this, quP]
  l p hp := by
    rcases List.mem_append.1 hp with hp | hp
    · exact h.l p hp
    · rw [List.mem_singleton.1 hp]; exact ⟨ht, hr⟩
  d p hp := by
    rw [enq_tk]
    rcases List.mem_append.1 hp with hp | hp
    · have hne : p.t ≠ t := h.free hi hw p hp
      rw [updN_ne hne]; exact h.d p hp
    · rw [List.mem_singleton.1 hp, updN_same]
      have h0 := hti.w t hw
      have h1 := hti.z t h0
      cases tim with
      | none => exact ⟨h1.symm, h0.symm⟩
      | some k => exact ⟨rfl, rfl⟩
  u := List.pairwise_append.2 ⟨h.u, List.pairwise_singleton _ _, fun p hp q hq => by rw [List.mem_singleton.1 hq]; exact h.free hi hw p hp⟩
theorem mr_enq {u : Nat} {tim : Option Nat} : mrOf (enqP s t r u tim) = { mrOf s with timed := match tim with | none => s.armed | some _ => s.armed + 1 } := by
  have hk : ∀ a, ((enqP s t r u tim).tk a).live = (s.tk a).live ∧ ((enqP s t r u tim).tk a).birth = (s.tk a).birth ∧ ((enqP s t r u tim).tk a).epoch = (s.tk a).epoch ∧ ((enqP s t r u tim).tk a).n = (s.tk a).n := fun a => by
    rw [enq_tk]
    unfold updN
    split
    · rename_i e; rw [e]; cases tim <;> exact ⟨rfl, rfl, rfl, rfl⟩
    · exact ⟨rfl, rfl, rfl, rfl⟩
  unfold mrOf
  rw [show (fun a => ((enqP s t r u tim).tk a).live) = fun a => (s.tk a).live from funext fun a => (hk a).1, show (fun a => ((enqP s t r u tim).tk a).birth) = fun a => (s.tk a).birth from funext fun a => (hk a).2.1, show (fun a => ((enqP s t r u tim).tk a).epoch) = fun a => (s.tk a).epoch from funext fun a => (hk a).2.2.1, show (fun a => ((enqP s t r u tim).tk a).n) = fun a => (s.tk a).n from funext fun a => (hk a).2.2.2]
  cases tim <;> rfl
theorem od_enq {u : Nat} {tim : Option Nat} : odF (enqP s t r u tim) = odF s := by
  funext a b
  exact od_upd (s := s) (f := odF s) enq_tk (fun c => old_eq (by cases tim <;> rfl) (by cases tim <;> rfl) (by cases tim <;> rfl)) (fun _ _ _ => rfl) a b
theorem RelP.aborts : ∀ (W : List Nat) {s : KS} {P : List PQ}, RelP s P → RelP (W.foldl abortP s) (W.foldl noT P)
  | [], s, P, h => h
  | v :: W, s, P, h => RelP.aborts W (RelP.abort (t := v) h)
/-! Older and younger rivals. -/
def rvB (s : KS) (P : List PQ) (t r u : Nat) : Bool := decide (u ≠ t) && (decide (s.held u r ≠ 0) || P.any fun p => p.t == u && p.r == r)
theorem rvB_iff {u : Nat} (hrel : RelP s P) (hr : r < 20) (hu : u < 16) : rvB s P t r u = true ↔ Rival s t r u := by
  unfold rvB Rival
  simp only [Bool.and_eq_true, Bool.or_eq_true, decide_eq_true_eq, List.any_eq_true, beq_iff_eq]
  constructor
  · rintro ⟨h1, h2⟩
    refine ⟨hu, h1, ?_⟩
    rcases h2 with h2 | ⟨p, hp, e1, e2⟩
    · exact .inl (by omega)
    · exact .inr ⟨(p.t, p.u), by rw [hrel.q r hr]; exact quP_mem.2 ⟨p, hp, e2, rfl⟩, e1⟩
  · rintro ⟨_, h1, h2⟩
    refine ⟨h1, ?_⟩
    rcases h2 with h2 | ⟨q, hq, e⟩
    · exact .inl (by omega)
    · rw [hrel.q r hr] at hq
      obtain ⟨p, hp, e1, e2⟩ := quP_mem.1 hq
      exact .inr ⟨p, hp, by rw [e2] at e; exact e, e1⟩
def olL (s : KS) (P : List PQ) (t r k : Nat) : List Nat := (List.range k).filter fun u => rvB s P t r u && decide ((s.tk u).birth < (s.tk t).birth)
def yoL (s : KS) (P : List PQ) (t r k : Nat) : List Nat := (List.range k).filter fun u => rvB s P t r u && !decide ((s.tk u).birth < (s.tk t).birth)
theorem olL_succ {k : Nat} : olL s P t r (k + 1) = olL s P t r k ++ (if (rvB s P t r k && decide ((s.tk k).birth < (s.tk t).birth)) = true then [k] else []) := by
  unfold olL
  rw [List.range_succ, List.filter_append]
  congr 1
  rw [List.filter_cons, List.filter_nil]
theorem yoL_succ {k : Nat} : yoL s P t r (k + 1) = yoL s P t r k ++ (if (rvB s P t r k && !decide ((s.tk k).birth < (s.tk t).birth)) = true then [k] else []) := by
  unfold yoL
  rw [List.range_succ, List.filter_append]
  congr 1
  rw [List.filter_cons, List.filter_nil]
theorem ol_dies (hrel : RelP s P) (hr : r < 20) (ht : t < 16) : (s.mode = 1 ∧ 0 < (olL s P t r 16).length) ↔ (judgeS s t r).1 = true := by
  rw [dies_iff ht]
  refine and_congr Iff.rfl ⟨fun h => ?_, fun ⟨u, hu, hb⟩ => ?_⟩
  · obtain ⟨u, hu⟩ := List.exists_mem_of_length_pos h
    have h1 := List.mem_filter.1 hu
    have h2 := h1.2
    simp only [Bool.and_eq_true, decide_eq_true_eq] at h2
    exact ⟨u, (rvB_iff hrel hr (List.mem_range.1 h1.1)).1 h2.1, h2.2⟩
  · refine List.length_pos_of_mem (a := u) (List.mem_filter.2 ⟨List.mem_range.2 hu.1, ?_⟩)
    simp only [Bool.and_eq_true, decide_eq_true_eq]
    exact ⟨(rvB_iff hrel hr hu.1).2 hu, hb⟩
theorem yo_wound (hrel : RelP s P) (hI : INV s) (hb : BI s) (hr : r < 20) (hc : CallOK s t) (hm : s.mode = 2) : yoL s P t r 16 = woundL s t r := by
  have h1 : woundL s t r = (List.range 16).filter fun i => (judgeS s t r).2.testBit i := rfl
  rw [h1]
  unfold yoL
  refine List.filter_congr fun u hu => Bool.eq_iff_iff.2 ?_
  have hu := List.mem_range.1 hu
  have h2 : ((judgeS s t r).2.testBit u = true) ↔ u ∈ woundL s t r := by unfold woundL; rw [tasksP_mem]; exact ⟨fun h => ⟨hu, h⟩, fun h => h.2⟩
  rw [h2, woundL_mem hc.lt]
  simp only [Bool.and_eq_true, Bool.not_eq_true', decide_eq_false_iff_not]
  rw [rvB_iff hrel hr hu]
  constructor
  · rintro ⟨g1, g2⟩
    have hne : (s.tk u).birth ≠ (s.tk t).birth := fun e => g1.2.1 (hb.ne u t hu hc.lt (rival_live hI g1) hc.live e)
    exact ⟨hm, g1, by omega⟩
  · rintro ⟨_, g1, g2⟩
    exact ⟨g1, by omega⟩
theorem wound_mode (ht : t < 16) (hm : s.mode ≠ 2) : woundL s t r = [] := by
  cases hx : woundL s t r with
  | nil => rfl
  | cons y L =>
    have := (woundL_mem (s := s) (r := r) (i := y) ht).1 (by rw [hx]; exact List.mem_cons_self)
    exact absurd this.1 hm
end Go.Proofs.Qxb6500834aGreatDoor

