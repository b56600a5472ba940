import Derived.Test.Qxb6500834aGreatDoorK62
import Derived.Test.Qxb6500834aGreatDoorK58
import Derived.Test.Qxb6500834aGreatDoorE35
set_option linter.unusedVariables false
set_option linter.unusedSimpArgs false
set_option maxRecDepth 20000
namespace Go.Proofs.Qxb6500834aGreatDoor
open Go.RowKit Go.E1 Go.Kern
theorem ty_agg36 : aggT Tryz.prog 36 = some 10 := by kernel_rfl
theorem ty_call33 : callT Tryz.prog 33 = true := by kernel_rfl
theorem ty_call50 : callT Tryz.prog 50 = true := by kernel_rfl
theorem ty_one22 : oneT Tryz.prog 22 = true := by kernel_rfl
theorem ty_pl28 : plT Tryz.prog 28 = some [(0, 1), (1, 1), (2, 1), (3, 1), (4, 1)] := by kernel_rfl
theorem ty_zero3 : zeroL Tryz.prog 3 = some [.int .i64 0] := by kernel_rfl
variable {w0 : World} {l X : List HI} {w : World} {s s' s0 : KS} {t r N n : Nat} {qv qv' : Nat → Value}

/-! Law: exit gives everything back, plainly. -/
theorem ticks_ep : ∀ (F : List (Nat × Nat × Nat)) {s : KS}, ((F.foldl tick1 s).tk t).epoch = (s.tk t).epoch
  | [], s => rfl
  | f :: F, s => by
    rw [List.foldl_cons, ticks_ep F]
    unfold tick1
    split
    · rw [(GR.wake.l t).2.2.1]
      show (updN s.tk f.2.2 (anT (s.tk f.2.2)) t).epoch = _
      unfold updN
      split
      · rename_i e; rw [e]; rfl
      · rfl
    · rfl
theorem inc64_le (x : Nat) : inc64 x ≤ x + 1 := Nat.mod_le _ _
theorem epoch_step {o : Kern.Op} (hB : KB N s) (hi : INV s) : ∀ t, ((stepP s o).1.tk t).epoch ≤ (s.tk t).epoch + 1 := by
  have key : ∀ {s' : KS} {c k : Int}, StepR s o s' c k → ∀ t, (s'.tk t).epoch ≤ (s.tk t).epoch + 1 := by
    intro s' c k hR t
    have ab : ∀ {W : List Nat}, W.Nodup → ((wakeP (W.foldl abortP s)).tk t).epoch ≤ (s.tk t).epoch + 1 := fun {W} hn => by
      rw [(GR.wake.l t).2.2.1, aborts_row W hn t]
      split
      · exact inc64_le _
      · omega
    have wn : ∀ {W : List Nat}, W.Nodup → ((woundS s W).tk t).epoch ≤ (s.tk t).epoch + 1 := fun {W} hn => by
      unfold woundS
      split
      · omega
      · exact ab hn
    have up : ∀ {T : TK} {a : Nat}, T.epoch ≤ (s.tk a).epoch + 1 → (updN s.tk a T t).epoch ≤ (s.tk t).epoch + 1 := fun {T a} h => by
      unfold updN
      split
      · rename_i e; rw [e]; exact h
      · omega
    cases hR using StepR.elim with
    | refuse c h0' h1 h3 => omega
    | mode hk m hm ha => show (s.tk t).epoch ≤ _; omega
    | born hk a hs => exact up (by show (s.tk a).epoch ≤ _; omega)
    | declare hk a r u hA hB hC hc hr hu hh => show (s.tk t).epoch ≤ _; omega
    | take hk a r u hA hB hC h' hcl W hW ha hat =>
      refine wn ?_
      rcases hW with hW | hW
      · rw [hW]; exact List.nodup_nil
      · rw [hW.1]; exact tasksP_nodup _
    | pend hk a r u tim hA hB' hC ht0 htim h' hcl W hW hd' ha0 ha hat =>
      have h1 := wn (W := W) (by rw [hW]; exact tasksP_nodup _)
      rw [enq_tk]
      unfold updN
      split
      · rename_i e; rw [e] at h1; rw [e]; cases tim <;> exact h1
      · exact h1
    | die hk a r u hA hB hC h' hd' ha0 => exact ab (W := [a]) (by simp)
    | release hk a r hA hB hc hr hn => rw [(GR.wake.l t).2.2.1]; show (s.tk t).epoch ≤ _; omega
    | write hk a c hA hB hc hc12 hh hn => exact up (by show (s.tk a).epoch ≤ _; omega)
    | commit hk a hA hc => exact up (by show (s.tk a).epoch ≤ _; omega)
    | exit hk a hA hc => rw [(GR.wake.l t).2.2.1]; exact up (inc64_le _)
    | tick hk h16 => unfold tickP; rw [ticks_ep]; show (s.tk t).epoch ≤ _; omega
    | detect hk v hv hv16 => exact ab (W := [v]) (by simp)
  exact key (step_R hB hi)
theorem run_epoch (op : Nat → Kern.Op) : ∀ i t, ((runP op i).tk t).epoch ≤ i
  | 0, t => Nat.le_refl _
  | i + 1, t => by
    have h1 := run_epoch op i t
    have h2 := epoch_step (o := op i) (run_KI op i).b (run_INV op i) t
    show ((stepP (runP op i) (op i)).1.tk t).epoch ≤ i + 1
    omega
structure ExitF (s s' : KS) (t : Nat) : Prop where
  tk : s'.tk t = { tk0 with epoch := inc64 (s.tk t).epoch }
  h : ∀ r, s'.held t r = 0
  c : ∀ r, s'.claim t r = 0
  w : s'.cells = s.cells
  q : ∀ r p, r < 20 → p ∈ s'.queue r → p.1 ≠ t
theorem exit_free {o : Kern.Op} (hi : INV s) (h9 : o.kind = 9) (hf : cfB s o = true) : (stepP s o).2.1 = 0 ∧ ExitF s (stepP s o).1 o.A.toNat := by
  have hc := (cfB_iff (s := s) (by omega) (by omega)).1 hf
  have eA : nameP o.A 16 = o.A := (nameP_in (callerP_ok hc).1).symm
  have e : stepP s o = ((exitP s o.A).1, (exitP s o.A).2, -1) := by unfold stepP; rw [h9, eA]; rfl
  rw [eA] at hc
  have hcO := callerP_call hc
  rw [e]
  unfold exitP
  rw [if_neg (fun k => k hc)]
  obtain ⟨t, ht⟩ : ∃ t, t = o.A.toNat := ⟨_, rfl⟩
  rw [← ht] at hcO ⊢
  have hq : NoQ (exitS s t) t := hi.noQ t hcO.lt hcO.wait
  obtain ⟨h1, h2, h3⟩ := (GR.wake (s := exitS s t)).q t hq
  refine ⟨rfl, h2.trans updN_same, fun r => (h3 r).trans (if_pos rfl), fun r => ?_, GR.wake.c, h1⟩
  show (wakeP (exitS s t)).claim t r = 0
  rw [Sm.wake.claim]
  exact if_pos rfl
theorem exit_busy {o : Kern.Op} (h9 : o.kind = 9) (hf : cfB s o = false) : (stepP s o).2.1 ≠ 0 ∧ (stepP s o).1 = s := by
  have hc : callerP s (nameP o.A 16) ≠ 0 := fun k => by rw [(cfB_iff (s := s) (by omega) (by omega)).2 k] at hf; cases hf
  have e : stepP s o = ((exitP s (nameP o.A 16)).1, (exitP s (nameP o.A 16)).2, -1) := by unfold stepP; rw [h9]; rfl
  rw [e]
  unfold exitP
  rw [if_pos hc]
  exact ⟨hc, rfl⟩
/-! Spawning on. -/
def spO : Kern.Op := ⟨1, 0, 0, 0, 0⟩
def vacN (s : KS) : Nat := (List.range 16).countP fun u => !(s.tk u).live
theorem slot_some (ht : t < 16) (hv : (s.tk t).live = false) : ∃ u, slotP s = some u ∧ u ≤ t := by
  cases h : slotP s with
  | none =>
    unfold slotP at h
    have := List.find?_eq_none.1 h t (List.mem_range.2 ht)
    rw [hv] at this; exact absurd rfl this
  | some u =>
    refine ⟨u, rfl, ?_⟩
    unfold slotP at h
    rw [List.find?_eq_some_iff_append] at h
    obtain ⟨h1, L1, L2, h2, h3⟩ := h
    refine Classical.byContradiction fun k => ?_
    have hu : u < 16 := by
      have : u ∈ List.range 16 := by rw [h2]; simp
      exact List.mem_range.1 this
    have htm : t ∈ L1 := by
      have htr : t ∈ List.range 16 := List.mem_range.2 ht
      rw [h2] at htr
      have hs : (List.range 16).Pairwise (· < ·) := List.pairwise_lt_range
      rw [h2] at hs
      rcases List.mem_append.1 htr with h | h
      · exact h
      · rcases List.mem_cons.1 h with h | h
        · omega
        · have := (List.pairwise_cons.1 (List.pairwise_append.1 hs).2.1).1 t h
          omega
    have := h3 t htm
    rw [hv] at this; exact absurd this (by decide)
theorem vac_born {u : Nat} (hu : u < 16) (hl : (s.tk u).live = false) : vacN (bornS s u) + 1 = vacN s := by
  unfold vacN
  have h1 : ∀ (L : List Nat), L.Nodup → (L.countP fun a => !((bornS s u).tk a).live) + (if u ∈ L then 1 else 0) = L.countP fun a => !(s.tk a).live := by
    intro L
    induction L with
    | nil => intro _; rfl
    | cons a L ih =>
      intro hn
      have h2 := ih (List.nodup_cons.1 hn).2
      have h3 := (List.nodup_cons.1 hn).1
      rw [List.countP_cons, List.countP_cons]
      by_cases e : a = u
      · subst e
        have e1 : ((bornS s a).tk a).live = true := by show (updN s.tk a (bornT s a) a).live = true; rw [updN_same]; rfl
        rw [e1, hl, if_pos List.mem_cons_self]
        rw [if_neg h3] at h2
        simp; omega
      · have e1 : ((bornS s u).tk a).live = (s.tk a).live := by show (updN s.tk u _ a).live = _; rw [updN_ne e]
        have e2 : (u ∈ a :: L) ↔ u ∈ L := ⟨fun k => (List.mem_cons.1 k).resolve_left fun q => e q.symm, fun k => List.mem_cons_of_mem _ k⟩
        rw [e1]
        by_cases hm : u ∈ L
        · rw [if_pos (e2.2 hm)]; rw [if_pos hm] at h2; omega
        · rw [if_neg (fun k => hm (e2.1 k))]; rw [if_neg hm] at h2; omega
  have := h1 (List.range 16) List.nodup_range
  rw [if_pos (List.mem_range.2 hu)] at this
  exact this
theorem vac_le : vacN s ≤ 16 := by
  unfold vacN
  have := List.countP_le_length (p := fun u => !(s.tk u).live) (l := List.range 16)
  rw [List.length_range] at this
  exact this
theorem cap_of {v : Value} {a : Option Addr} {n c : Nat} (h : Rd Tryz.prog w 22 [.slice a n c]) : n ≤ c := by
  obtain ⟨a', n', c', b, o, hv, h1, h2, h3, h4, h5⟩ := rd_slice ty_usl22 (by rw [ty_cells28]; omega) h
  simp only [List.cons.injEq, and_true, Value.slice.injEq] at hv
  omega
theorem fldTasks : fldA Tryz.prog 50 3 = some (3, 96) := by kernel_rfl
theorem reb_fit {T : TK} {e : Nat} (hT : T = { tk0 with epoch := e }) : ∀ i, i < 6 → KFit (pat6[i]?.getD false) (tsF T i) (nth [.bool false, .int .u64 0, .int .u64 (e : Nat), .bool false, .int .u64 0, .int .i64 0] i)
  | 0, _ => KFit.bool
  | 1, _ => KFit.int
  | 2, _ => KFit.int
  | 3, _ => KFit.bool
  | 4, _ => KFit.int
  | 5, _ => KFit.int
  | k + 6, h => by omega
theorem reb_eq {T : TK} {e : Nat} (hT : T = { tk0 with epoch := e }) : ∀ i, i < 6 → tsF T i = nth [.bool false, .int .u64 0, .int .u64 (e : Nat), .bool false, .int .u64 0, .int .i64 0] i := by
  subst hT
  intro i hi
  match i, hi with
  | 0, _ => rfl
  | 1, _ => rfl
  | 2, _ => rfl
  | 3, _ => rfl
  | 4, _ => rfl
  | 5, _ => rfl
  | k + 6, h => omega
set_option maxHeartbeats 8000000 in
theorem exit1_ok {o : Kern.Op} {bB bA : Nat} {code task : Int} {ov : Value} {ans : List (Nat × Nat × Nat)} {b0 bs i sb so n cc : Nat} {op : Nat → Kern.Op} (hD : gD w0) (hS : Scr w0 sb so n op) (hn : n ≤ 65536) (hncc : n ≤ cc) (hin : i < n) (ho : o = op i) (hs : s = runP op i) (hs' : s' = runP op (i + 1)) (hfr : o.kind = 9 → cfB s o = true → code = 0 ∧ ExitF s s' o.A.toNat) (hbu : o.kind = 9 → cfB s o = false → code ≠ 0 ∧ s' = s) (hck : CK s s' ans bB bA qv qv' ov l) (st : S0 w0 ((b0, Row 3 1 (nth [.int .i64 (i : Nat)])) :: (bs, Row 22 1 (nth [.slice (some ⟨sb, so, none⟩) n cc])) :: l) w) :
    Calls Tryz.prog 50 #[.agg (stepL o bB bA code task ov).toArray, .pointer (some ⟨b0, 0, none⟩), .pointer (some ⟨bs, 0, none⟩)] w (Ret fun v w' => v = .bool true ∧ S0 w0 ((b0, Row 3 1 (nth [.int .i64 ((i + 1) : Nat)])) :: (bs, Row 22 1 (nth [.slice (some ⟨sb, so, none⟩) n cc])) :: l) w') := by
  obtain ⟨XO, hoX, hXO⟩ := hck.a
  obtain ⟨a, c, b, rfl, hc1, hc2, ha, hcell⟩ := hoX.form
  obtain ⟨fs, hfs⟩ : ∃ fs : Nat → Value, fs = nth (stepL o bB bA code task (.slice a ans.length c)) := ⟨_, rfl⟩
  have f0 : fs 0 = .int .u8 (o.kind : Nat) := by rw [hfs]; rfl
  have f1 : fs 1 = .int .i64 o.A := by rw [hfs]; rfl
  have f2 : fs 2 = .int .i64 o.B := by rw [hfs]; rfl
  have f3 : fs 3 = .int .i64 o.C := by rw [hfs]; rfl
  have f4 : fs 4 = .int .u64 (o.X : Nat) := by rw [hfs]; rfl
  have f5 : fs 5 = .pointer (some ⟨bB, 0, none⟩) := by rw [hfs]; rfl
  have f6 : fs 6 = .pointer (some ⟨bA, 0, none⟩) := by rw [hfs]; rfl
  have f7 : fs 7 = .int .i64 code := by rw [hfs]; rfl
  have f8 : fs 8 = .int .i64 task := by rw [hfs]; rfl
  have f9 : fs 9 = .slice a ans.length c := by rw [hfs]; rfl
  have hckA := fun (a b c : HI) => ((hck.c (a := a)).c (a := b)).c (a := c)
  have hckB := fun (a b c d : HI) => (hckA a b c).c (a := d)
  by_cases hk9 : o.kind = 9
  rotate_left
  · skip
    refine enter [.agg (stepL o bB bA code task (.slice a ans.length c)).toArray, .pointer (some ⟨b0, 0, none⟩), .pointer (some ⟨bs, 0, none⟩)] Tryz.func50 rfl Tryz.ntmps50 rfl ?_
    show WC _ _ _ 164 [] [(0, .agg (stepL o bB bA code task (.slice a ans.length c)).toArray), (1, .pointer (some ⟨b0, 0, none⟩)), (2, .pointer (some ⟨bs, 0, none⟩))] _
    refine WC.seq fun K2501 hK2501 => ?_
    -- region 0
    refine WC.region ?_
    -- R0.0 3 := law.go:211 box
    refine WL.box (m := 10) (vs := stepL o bB bA code task (.slice a ans.length c)) st rfl rfl rfl rfl rfl rfl ?_
    intro b3 w st
    have st : S0 w0 ((b3, Row 36 10 fs) :: ((b0, Row 3 1 (nth [.int .i64 (i : Nat)])) :: (bs, Row 22 1 (nth [.slice (some ⟨sb, so, none⟩) n cc])) :: l)) w := by rw [hfs]; exact st
    -- R0.1 4 := law.go:211 assign
    refine WL.v (by first | exact r_assign (v := .bool _) rfl | exact r_assign rfl) rfl rfl rfl ?_
    refine WL.fin hK2501 (fun _ _ h => h) ?_
    refine WC.seq fun K2502 hK2502 => ?_
    -- region 1
    refine WC.region ?_
    -- R1.0 17 := law.go:212 load
    refine WL.v (by exact r_load1 (v := .int .i64 (i : Nat)) ty_one3 rfl (st.c1 (by decide))) rfl rfl rfl ?_
    -- R1.1 18 := law.go:212 binOp
    refine WL.v (by exact r_add (r := ((i + 1 : Nat) : Int)) rfl rfl ((wi64 (by omega) (by omega)).trans (by omega))) rfl rfl rfl ?_
    -- R1.2 None := law.go:212 store
    refine WL.store (v := .int .i64 ((i + 1 : Nat) : Int)) st.front1 ty_one3 rfl rfl rfl (by decide) rfl rfl ?_
    intro w st
    have st : S0 w0 ((b3, Row 36 10 fs) :: (b0, Row 3 1 (nth [.int .i64 ((i + 1) : Nat)])) :: (bs, Row 22 1 (nth [.slice (some ⟨sb, so, none⟩) n cc])) :: l) w := (stE one_upd st).front1
    refine WL.fin hK2502 (fun _ _ h => h) ?_
    refine WC.seq fun K2503 hK2503 => ?_
    refine WC.seq fun K2504 hK2504 => ?_
    -- region 2
    refine WC.region ?_
    -- R2.0 19 := law.go:213 fieldAddr
    refine WL.v (by exact r_field ty_fld36_0 rfl) rfl rfl rfl ?_
    -- R2.1 20 := law.go:213 fieldAddr
    refine WL.v (by exact r_field ty_fld28_0 rfl) rfl rfl rfl ?_
    -- R2.2 21 := law.go:213 load
    refine WL.v (by exact r_load1 (v := .int .u8 (o.kind : Nat)) ty_one25 rfl (by rw [← f0]; exact st.c0 (by decide))) rfl rfl rfl ?_
    -- R2.3 22 := law.go:213 binOp
    refine WL.v (by first | exact r_neq rfl rfl (decide_eq_true (by omega)) | exact r_neq rfl rfl (decide_eq_false (by omega)) | exact r_neq rfl rfl rfl) rfl rfl rfl ?_
    refine WL.fin hK2504 (fun _ _ h => h) ?_
    refine WC.condT rfl rfl ?_
    refine WC.seq fun K2505 hK2505 => ?_
    -- region 3
    refine WC.region ?_
    -- R3.0 4 := law.go:214 assign
    refine WL.v (by first | exact r_assign (v := .bool _) rfl | exact r_assign rfl) rfl rfl rfl ?_
    refine WL.fin hK2505 (fun _ _ h => h) ?_
    refine WC.ret1 Tryz.results50 (fun _ _ h => h) rfl ?_
    exact ⟨_, rfl, rfl, st.drop⟩
  rcases hF : cfB s o with _ | _
  · obtain ⟨hc0, hss⟩ := hbu hk9 hF
    have hss := hss.symm
    subst hss
    refine enter [.agg (stepL o bB bA code task (.slice a ans.length c)).toArray, .pointer (some ⟨b0, 0, none⟩), .pointer (some ⟨bs, 0, none⟩)] Tryz.func50 rfl Tryz.ntmps50 rfl ?_
    show WC _ _ _ 164 [] [(0, .agg (stepL o bB bA code task (.slice a ans.length c)).toArray), (1, .pointer (some ⟨b0, 0, none⟩)), (2, .pointer (some ⟨bs, 0, none⟩))] _
    refine WC.seq fun K2506 hK2506 => ?_
    -- region 0
    refine WC.region ?_
    -- R0.0 3 := law.go:211 box
    refine WL.box (m := 10) (vs := stepL o bB bA code task (.slice a ans.length c)) st rfl rfl rfl rfl rfl rfl ?_
    intro b3 w st
    have st : S0 w0 ((b3, Row 36 10 fs) :: ((b0, Row 3 1 (nth [.int .i64 (i : Nat)])) :: (bs, Row 22 1 (nth [.slice (some ⟨sb, so, none⟩) n cc])) :: l)) w := by rw [hfs]; exact st
    -- R0.1 4 := law.go:211 assign
    refine WL.v (by first | exact r_assign (v := .bool _) rfl | exact r_assign rfl) rfl rfl rfl ?_
    refine WL.fin hK2506 (fun _ _ h => h) ?_
    refine WC.seq fun K2507 hK2507 => ?_
    -- region 1
    refine WC.region ?_
    -- R1.0 17 := law.go:212 load
    refine WL.v (by exact r_load1 (v := .int .i64 (i : Nat)) ty_one3 rfl (st.c1 (by decide))) rfl rfl rfl ?_
    -- R1.1 18 := law.go:212 binOp
    refine WL.v (by exact r_add (r := ((i + 1 : Nat) : Int)) rfl rfl ((wi64 (by omega) (by omega)).trans (by omega))) rfl rfl rfl ?_
    -- R1.2 None := law.go:212 store
    refine WL.store (v := .int .i64 ((i + 1 : Nat) : Int)) st.front1 ty_one3 rfl rfl rfl (by decide) rfl rfl ?_
    intro w st
    have st : S0 w0 ((b3, Row 36 10 fs) :: (b0, Row 3 1 (nth [.int .i64 ((i + 1) : Nat)])) :: (bs, Row 22 1 (nth [.slice (some ⟨sb, so, none⟩) n cc])) :: l) w := (stE one_upd st).front1
    refine WL.fin hK2507 (fun _ _ h => h) ?_
    refine WC.seq fun K2508 hK2508 => ?_
    refine WC.seq fun K2509 hK2509 => ?_
    -- region 2
    refine WC.region ?_
    -- R2.0 19 := law.go:213 fieldAddr
    refine WL.v (by exact r_field ty_fld36_0 rfl) rfl rfl rfl ?_
    -- R2.1 20 := law.go:213 fieldAddr
    refine WL.v (by exact r_field ty_fld28_0 rfl) rfl rfl rfl ?_
    -- R2.2 21 := law.go:213 load
    refine WL.v (by exact r_load1 (v := .int .u8 (o.kind : Nat)) ty_one25 rfl (by rw [← f0]; exact st.c0 (by decide))) rfl rfl rfl ?_
    -- R2.3 22 := law.go:213 binOp
    refine WL.v (by first | exact r_neq rfl rfl (decide_eq_true (by omega)) | exact r_neq rfl rfl (decide_eq_false (by omega)) | exact r_neq rfl rfl rfl) rfl rfl rfl ?_
    refine WL.fin hK2509 (fun _ _ h => h) ?_
    refine WC.condF rfl rfl ?_
    refine WC.skipF hK2508 (fun _ _ h => h) ?_
    refine WC.seq fun K2510 hK2510 => ?_
    -- region 4
    refine WC.region ?_
    -- R4.0 24 := law.go:216 load
    refine WL.v (by exact r_loadL (vs := stepL o bB bA code task (.slice a ans.length c)) ty_agg36 rfl ⟨(st.c0 (by decide)).trans (congrArg some f0), (st.c0 (by decide)).trans (congrArg some f1), (st.c0 (by decide)).trans (congrArg some f2), (st.c0 (by decide)).trans (congrArg some f3), (st.c0 (by decide)).trans (congrArg some f4), (st.c0 (by decide)).trans (congrArg some f5), (st.c0 (by decide)).trans (congrArg some f6), (st.c0 (by decide)).trans (congrArg some f7), (st.c0 (by decide)).trans (congrArg some f8), (st.c0 (by decide)).trans (congrArg some f9), trivial⟩) rfl rfl rfl ?_
    -- R4.1 25 := law.go:216 call
    refine WL.call (r_call ty_call33 rfl) rfl rfl rfl (callerL_ok (o := o) (hckA _ _ _).B rfl st) ?_
    rintro _ w ⟨rfl, st⟩
    -- R4.2 23 := law.go:216 move
    refine WL.v (by first | exact r_move (v := .tuple _) rfl | exact r_move rfl) rfl rfl rfl ?_
    -- R4.3 26 := law.go:216 extract
    refine WL.v (by first | exact r_extract (v := .int _ _) rfl rfl | exact r_extract rfl rfl) rfl rfl rfl ?_
    -- R4.4 27 := law.go:216 extract
    refine WL.v (by first | exact r_extract (v := .bool _) rfl rfl | exact r_extract rfl rfl) rfl rfl rfl ?_
    -- R4.5 5 := law.go:216 assign
    refine WL.v (by first | exact r_assign (v := .int _ _) rfl | exact r_assign rfl) rfl rfl rfl ?_
    -- R4.6 6 := law.go:216 assign
    refine WL.v (by first | exact r_assign (v := .bool _) rfl | exact r_assign rfl) rfl rfl rfl ?_
    refine WL.fin hK2510 (fun _ _ h => h) ?_
    refine WC.seq fun K2511 hK2511 => ?_
    refine WC.seq fun K2512 hK2512 => ?_
    -- region 5
    refine WC.region ?_
    -- R5.0 28 := law.go:217 move
    refine WL.v (by exact r_move (v := .bool false) (congrArg Value.bool hF)) rfl rfl rfl ?_
    -- R5.1 29 := law.go:217 unOp
    refine WL.v (by first | exact r_notT rfl | exact r_notF rfl | exact r_not rfl) rfl rfl rfl ?_
    refine WL.fin hK2512 (fun _ _ h => h) ?_
    refine WC.condT rfl rfl ?_
    refine WC.seq fun K2513 hK2513 => ?_
    -- region 6
    refine WC.region ?_
    -- R6.0 30 := law.go:218 fieldAddr
    refine WL.v (by exact r_field ty_fld36_3 rfl) rfl rfl rfl ?_
    -- R6.1 31 := law.go:218 fieldAddr
    refine WL.v (by exact r_field ty_fld34_0 rfl) rfl rfl rfl ?_
    -- R6.2 32 := law.go:218 load
    refine WL.v (by exact r_load1 (v := .int .i64 code) ty_one30 rfl (by rw [← f7]; exact st.c0 (by decide))) rfl rfl rfl ?_
    -- R6.3 33 := law.go:218 binOp
    refine WL.v (by exact r_neq rfl rfl (decide_eq_true hc0)) rfl rfl rfl ?_
    -- R6.4 34 := law.go:218 move
    refine WL.v (by first | exact r_move (v := .bool _) rfl | exact r_move rfl) rfl rfl rfl ?_
    -- R6.5 35 := law.go:218 fieldAddr
    refine WL.v (by exact r_field ty_fld36_2 rfl) rfl rfl rfl ?_
    -- R6.6 36 := law.go:218 load
    refine WL.v (by exact r_load1 (v := .pointer (some ⟨bA, 0, none⟩)) ty_one29 rfl (by rw [← f6]; exact st.c0 (by decide))) rfl rfl rfl ?_
    -- R6.7 37 := law.go:218 fieldAddr
    refine WL.v (by exact r_field ty_fld36_1 rfl) rfl rfl rfl ?_
    -- R6.8 38 := law.go:218 load
    refine WL.v (by exact r_load1 (v := .pointer (some ⟨bB, 0, none⟩)) ty_one29 rfl (by rw [← f5]; exact st.c0 (by decide))) rfl rfl rfl ?_
    -- R6.9 39 := law.go:218 call
    refine WL.call (r_call ty_call45 rfl) rfl rfl rfl (stateEq_ok (hckA _ _ _).A (hckA _ _ _).B (hckA _ _ _).q' (hckA _ _ _).q st) ?_
    rintro _ w ⟨rfl, st⟩
    -- R6.10 40 := law.go:218 pick
    refine WL.v (by first | exact r_pickT (v := .bool _) rfl rfl | exact r_pickF (v := .bool _) rfl rfl) rfl rfl rfl ?_
    -- R6.11 4 := law.go:218 assign
    refine WL.v (by first | exact r_assign (v := .bool _) rfl | exact r_assign rfl) rfl rfl rfl ?_
    refine WL.fin hK2513 (fun _ _ h => h) ?_
    refine WC.ret1 Tryz.results50 (fun _ _ h => h) rfl ?_
    exact ⟨_, rfl, rfl, st.drop⟩
  obtain ⟨hc0, hX⟩ := hfr hk9 hF
  obtain ⟨t, ht16, hAt, hT, hl, hwt⟩ := cf_T hF
  have hA' : o.A.toNat = t := by rw [hAt]; rfl
  rw [hA'] at hX
  have hep : (s.tk t).epoch ≤ i := by rw [hs]; exact run_epoch op i t
  have hinc : inc64 (s.tk t).epoch = (s.tk t).epoch + 1 := Nat.mod_eq_of_lt (by omega)
  refine enter [.agg (stepL o bB bA code task (.slice a ans.length c)).toArray, .pointer (some ⟨b0, 0, none⟩), .pointer (some ⟨bs, 0, none⟩)] Tryz.func50 rfl Tryz.ntmps50 rfl ?_
  show WC _ _ _ 164 [] [(0, .agg (stepL o bB bA code task (.slice a ans.length c)).toArray), (1, .pointer (some ⟨b0, 0, none⟩)), (2, .pointer (some ⟨bs, 0, none⟩))] _
  refine WC.seq fun K2514 hK2514 => ?_
  -- region 0
  refine WC.region ?_
  -- R0.0 3 := law.go:211 box
  refine WL.box (m := 10) (vs := stepL o bB bA code task (.slice a ans.length c)) st rfl rfl rfl rfl rfl rfl ?_
  intro b3 w st
  have st : S0 w0 ((b3, Row 36 10 fs) :: ((b0, Row 3 1 (nth [.int .i64 (i : Nat)])) :: (bs, Row 22 1 (nth [.slice (some ⟨sb, so, none⟩) n cc])) :: l)) w := by rw [hfs]; exact st
  -- R0.1 4 := law.go:211 assign
  refine WL.v (by first | exact r_assign (v := .bool _) rfl | exact r_assign rfl) rfl rfl rfl ?_
  refine WL.fin hK2514 (fun _ _ h => h) ?_
  refine WC.seq fun K2515 hK2515 => ?_
  -- region 1
  refine WC.region ?_
  -- R1.0 17 := law.go:212 load
  refine WL.v (by exact r_load1 (v := .int .i64 (i : Nat)) ty_one3 rfl (st.c1 (by decide))) rfl rfl rfl ?_
  -- R1.1 18 := law.go:212 binOp
  refine WL.v (by exact r_add (r := ((i + 1 : Nat) : Int)) rfl rfl ((wi64 (by omega) (by omega)).trans (by omega))) rfl rfl rfl ?_
  -- R1.2 None := law.go:212 store
  refine WL.store (v := .int .i64 ((i + 1 : Nat) : Int)) st.front1 ty_one3 rfl rfl rfl (by decide) rfl rfl ?_
  intro w st
  have st : S0 w0 ((b3, Row 36 10 fs) :: (b0, Row 3 1 (nth [.int .i64 ((i + 1) : Nat)])) :: (bs, Row 22 1 (nth [.slice (some ⟨sb, so, none⟩) n cc])) :: l) w := (stE one_upd st).front1
  refine WL.fin hK2515 (fun _ _ h => h) ?_
  refine WC.seq fun K2516 hK2516 => ?_
  refine WC.seq fun K2517 hK2517 => ?_
  -- region 2
  refine WC.region ?_
  -- R2.0 19 := law.go:213 fieldAddr
  refine WL.v (by exact r_field ty_fld36_0 rfl) rfl rfl rfl ?_
  -- R2.1 20 := law.go:213 fieldAddr
  refine WL.v (by exact r_field ty_fld28_0 rfl) rfl rfl rfl ?_
  -- R2.2 21 := law.go:213 load
  refine WL.v (by exact r_load1 (v := .int .u8 (o.kind : Nat)) ty_one25 rfl (by rw [← f0]; exact st.c0 (by decide))) rfl rfl rfl ?_
  -- R2.3 22 := law.go:213 binOp
  refine WL.v (by first | exact r_neq rfl rfl (decide_eq_true (by omega)) | exact r_neq rfl rfl (decide_eq_false (by omega)) | exact r_neq rfl rfl rfl) rfl rfl rfl ?_
  refine WL.fin hK2517 (fun _ _ h => h) ?_
  refine WC.condF rfl rfl ?_
  refine WC.skipF hK2516 (fun _ _ h => h) ?_
  refine WC.seq fun K2518 hK2518 => ?_
  -- region 4
  refine WC.region ?_
  -- R4.0 24 := law.go:216 load
  refine WL.v (by exact r_loadL (vs := stepL o bB bA code task (.slice a ans.length c)) ty_agg36 rfl ⟨(st.c0 (by decide)).trans (congrArg some f0), (st.c0 (by decide)).trans (congrArg some f1), (st.c0 (by decide)).trans (congrArg some f2), (st.c0 (by decide)).trans (congrArg some f3), (st.c0 (by decide)).trans (congrArg some f4), (st.c0 (by decide)).trans (congrArg some f5), (st.c0 (by decide)).trans (congrArg some f6), (st.c0 (by decide)).trans (congrArg some f7), (st.c0 (by decide)).trans (congrArg some f8), (st.c0 (by decide)).trans (congrArg some f9), trivial⟩) rfl rfl rfl ?_
  -- R4.1 25 := law.go:216 call
  refine WL.call (r_call ty_call33 rfl) rfl rfl rfl (callerL_ok (o := o) (hckA _ _ _).B rfl st) ?_
  rintro _ w ⟨rfl, st⟩
  -- R4.2 23 := law.go:216 move
  refine WL.v (by first | exact r_move (v := .tuple _) rfl | exact r_move rfl) rfl rfl rfl ?_
  -- R4.3 26 := law.go:216 extract
  refine WL.v (by first | exact r_extract (v := .int _ _) rfl rfl | exact r_extract rfl rfl) rfl rfl rfl ?_
  -- R4.4 27 := law.go:216 extract
  refine WL.v (by first | exact r_extract (v := .bool _) rfl rfl | exact r_extract rfl rfl) rfl rfl rfl ?_
  -- R4.5 5 := law.go:216 assign
  refine WL.v (by first | exact r_assign (v := .int _ _) rfl | exact r_assign rfl) rfl rfl rfl ?_
  -- R4.6 6 := law.go:216 assign
  refine WL.v (by first | exact r_assign (v := .bool _) rfl | exact r_assign rfl) rfl rfl rfl ?_
  refine WL.fin hK2518 (fun _ _ h => h) ?_
  refine WC.seq fun K2519 hK2519 => ?_
  refine WC.seq fun K2520 hK2520 => ?_
  -- region 5
  refine WC.region ?_
  -- R5.0 28 := law.go:217 move
  refine WL.v (by exact r_move (v := .bool true) (congrArg Value.bool hF)) rfl rfl rfl ?_
  -- R5.1 29 := law.go:217 unOp
  refine WL.v (by first | exact r_notT rfl | exact r_notF rfl | exact r_not rfl) rfl rfl rfl ?_
  refine WL.fin hK2520 (fun _ _ h => h) ?_
  refine WC.condF rfl rfl ?_
  refine WC.skipF hK2519 (fun _ _ h => h) ?_
  refine WC.seq fun K2521 hK2521 => ?_
  -- region 7
  refine WC.region ?_
  -- R7.0 41 := law.go:220 fieldAddr
  refine WL.v (by exact r_field ty_fld36_2 rfl) rfl rfl rfl ?_
  -- R7.1 42 := law.go:220 load
  refine WL.v (by exact r_load1 (v := .pointer (some ⟨bA, 0, none⟩)) ty_one29 rfl (by rw [← f6]; exact st.c0 (by decide))) rfl rfl rfl ?_
  -- R7.2 43 := law.go:220 move
  refine WL.v (by exact r_move (v := .int .i64 (t : Nat)) (congrArg (Value.int .i64) hT)) rfl rfl rfl ?_
  -- R7.3 44 := law.go:220 nilCheck
  refine WL.v (by exact r_nilCheck rfl) rfl rfl rfl ?_
  -- R7.4 45 := law.go:220 fieldAddr
  refine WL.v (by exact r_field ty_fld50_3 rfl) rfl rfl rfl ?_
  -- R7.5 46 := law.go:220 indexAddr
  refine WL.v (by exact r_indexA (j := t) ty_ar43 rfl rfl rfl ht16) rfl rfl rfl ?_
  -- R7.6 47 := law.go:220 load
  refine WL.v (by exact r_loadN (f := tsF (s'.tk t)) ty_agg42 rfl (fun k hk => c_sT (hckA _ _ _).A ht16 hk (by omega) st)) rfl rfl rfl ?_
  -- R7.7 7 := law.go:220 alloc
  refine WL.alloc (m := 6) st ty_zero42 rfl rfl rfl ?_
  intro b7 w st
  -- R7.8 None := law.go:220 store
  refine WL.storeN (v := tsF (s'.tk t)) st ty_agg42 rfl rfl (fun k hk => by { have := sF_one (s := s') (qv := nilQ) (fun _ _ => rfl) (3 + t * 6 + k) (by omega); unfold sF at this; rw [if_neg (by omega), if_pos (by omega), show (3 + t * 6 + k - 3) / 6 = t by omega, show (3 + t * 6 + k - 3) % 6 = k by omega] at this; exact this }) (by decide) rfl rfl ?_
  intro w st
  have st : S0 w0 ((b7, Row 42 6 (tsF (s'.tk t))) :: (b3, Row 36 10 fs) :: (b0, Row 3 1 (nth [.int .i64 ((i + 1) : Nat)])) :: (bs, Row 22 1 (nth [.slice (some ⟨sb, so, none⟩) n cc])) :: l) w := stE (fun k hk => by rw [upds_eq, if_pos (by omega), Nat.sub_zero]) st
  refine WL.fin hK2521 (fun _ _ h => h) ?_
  refine WC.seq fun K2522 hK2522 => ?_
  refine WC.seq fun K2523 hK2523 => ?_
  -- region 8 (draws)
  refine WC.quietS st ty_mixed (by kernel_rfl) fun Kq hKq => ?_
  -- R8.0 48 := law.go:221 fieldAddr
  refine QL.v (fun w st => by exact r_field ty_fld36_3 rfl) rfl rfl rfl ?_
  -- R8.1 49 := law.go:221 fieldAddr
  refine QL.v (fun w st => by exact r_field ty_fld34_0 rfl) rfl rfl rfl ?_
  -- R8.2 50 := law.go:221 load
  refine QL.v (fun w st => by exact r_load1 (v := .int .i64 code) ty_one30 rfl (by rw [← f7]; exact st.c1 (by decide))) rfl rfl rfl ?_
  -- R8.3 51 := law.go:221 binOp
  refine QL.v (fun w st => by exact r_neq rfl rfl (decide_eq_false (fun k => k hc0))) rfl rfl rfl ?_
  -- R8.4 52 := law.go:221 move
  refine QL.v (fun w st => by first | exact r_move (v := .bool _) rfl | exact r_move rfl) rfl rfl rfl ?_
  -- R8.5 53 := law.go:221 load
  refine QL.v (fun w st => by exact r_loadN (f := tsF (s'.tk t)) ty_agg42 rfl (fun k hk => by rw [Nat.zero_add]; exact st.c0 hk)) rfl rfl rfl ?_
  -- R8.6 54 := law.go:221 fieldAddr
  refine QL.v (fun w st => by exact r_field ty_fld36_1 rfl) rfl rfl rfl ?_
  -- R8.7 55 := law.go:221 load
  refine QL.v (fun w st => by exact r_load1 (v := .pointer (some ⟨bB, 0, none⟩)) ty_one29 rfl (by rw [← f5]; exact st.c1 (by decide))) rfl rfl rfl ?_
  -- R8.8 56 := law.go:221 move
  refine QL.v (fun w st => by exact r_move (v := .int .i64 (t : Nat)) (congrArg (Value.int .i64) hT)) rfl rfl rfl ?_
  -- R8.9 57 := law.go:221 nilCheck
  refine QL.v (fun w st => by exact r_nilCheck rfl) rfl rfl rfl ?_
  -- R8.10 58 := law.go:221 fieldAddr
  refine QL.v (fun w st => by exact r_field ty_fld50_3 rfl) rfl rfl rfl ?_
  -- R8.11 59 := law.go:221 indexAddr
  refine QL.v (fun w st => by exact r_indexA (j := t) ty_ar43 rfl rfl rfl ht16) rfl rfl rfl ?_
  -- R8.12 60 := law.go:221 fieldAddr
  refine QL.v (fun w st => by exact r_field ty_fld42_2 rfl) rfl rfl rfl ?_
  -- R8.13 61 := law.go:221 load
  refine QL.v (fun w st => by exact r_load1 (v := .int .u64 ((s.tk t).epoch : Nat)) ty_one26 rfl (c_sT (hckB _ _ _ _).B ht16 (j := 2) (by decide) (by omega) st)) rfl rfl rfl ?_
  -- R8.14 62 := law.go:221 binOp
  refine QL.v (fun w st => by exact r_add (r := ((inc64 (s.tk t).epoch : Nat) : Int)) rfl rfl (by show (((s.tk t).epoch : Nat) + 1 : Int) % 18446744073709551616 = (((s.tk t).epoch + 1) % 18446744073709551616 : Nat); omega)) rfl rfl rfl ?_
  -- R8.15 63 := law.go:221 build
  refine QL.v (fun w st => by exact r_build (ps := [(2, .int .u64 (inc64 (s.tk t).epoch : Nat))]) (vs := [.bool false, .int .u64 0, .int .u64 (inc64 (s.tk t).epoch : Nat), .bool false, .int .u64 0, .int .i64 0]) ty_pl42 ty_zero42 rfl rfl) rfl rfl rfl ?_
  -- R8.16 64 := law.go:221 binOp
  refine QL.v (fun w st => by exact r_aneq (n := 6) (F := tsF (s'.tk t)) (G := nth [.bool false, .int .u64 0, .int .u64 (inc64 (s.tk t).epoch : Nat), .bool false, .int .u64 0, .int .i64 0]) (t := false) eqTs rfl rfl rfl (reb_fit hX.tk) ⟨fun _ => reb_eq hX.tk, fun _ => rfl⟩) rfl rfl rfl ?_
  -- R8.17 65 := law.go:221 pick
  refine QL.v (fun w st => by first | exact r_pickT (v := .bool _) rfl rfl | exact r_pickF (v := .bool _) rfl rfl) rfl rfl rfl ?_
  refine QL.wl hKq fun w st => ?_
  refine WL.fin hK2523 (fun _ _ h => h) ?_
  refine WC.condF rfl rfl ?_
  refine WC.skipF hK2522 (fun _ _ h => h) ?_
  refine WC.seq fun K2524 hK2524 => ?_
  refine WC.seq fun K2525 hK2525 => ?_
  -- region 10
  refine WC.region ?_
  -- R10.0 66 := law.go:224 move
  refine WL.v (by first | exact r_move (v := .int _ _) rfl | exact r_move rfl) rfl rfl rfl ?_
  refine WL.fin hK2525 (fun _ _ h => h) ?_
  refine WC.block ?_
  have st := st.drop
  refine WC.loop (ι := Nat) (fun r => [(1, .pointer (some ⟨b0, 0, none⟩)), (2, .pointer (some ⟨bs, 0, none⟩)), (3, .pointer (some ⟨b3, 0, none⟩)), (5, .int .i64 (cfT o)), (66, .int .i64 (r : Nat))])
    (fun r w' => r ≤ 20 ∧ S0 w0 ((b3, Row 36 10 fs) :: (b0, Row 3 1 (nth [.int .i64 ((i + 1) : Nat)])) :: (bs, Row 22 1 (nth [.slice (some ⟨sb, so, none⟩) n cc])) :: l) w') (fun r => 20 - r) 0 ⟨Nat.zero_le _, st⟩ ?_ ?_
  · skip
    repeat (first | exact sub_nil _ | refine sub_cons rfl rfl ?_)
  clear st
  rintro r w ⟨hr, st⟩ K1 hK1
  by_cases h20 : r = 20
  rotate_left
  · have hr' : r < 20 := by omega
    obtain ⟨X1, hX1, hXs⟩ := (hckA (b3, Row 36 10 fs) (b0, Row 3 1 (nth [.int .i64 ((i + 1) : Nat)])) (bs, Row 22 1 (nth [.slice (some ⟨sb, so, none⟩) n cc]))).q' r hr' |> fun h => (hck.q' r hr')
    obtain ⟨aq, cq, bq, hvq, hq1, hq2, hqa, hqcell⟩ := hX1.form
    have hqt := fun p hp => hX.q r p hr' hp
    obtain ⟨Q, hQ⟩ : ∃ Q, Q = s'.queue r := ⟨_, rfl⟩
    rw [← hQ] at hvq hq1 hqa hqcell hqt
    refine WC.seq fun K2526 hK2526 => ?_
    -- region 11
    refine WC.region ?_
    -- R11.0 67 := law.go:224 binOp
    refine WL.v (by first | exact r_lss rfl rfl (decide_eq_true (by omega)) | exact r_lss rfl rfl (decide_eq_false (by omega)) | exact r_lss rfl rfl rfl) rfl rfl rfl ?_
    refine WL.fin hK2526 (fun _ _ h => h) ?_
    refine WC.seq fun K2527 hK2527 => ?_
    refine WC.condT rfl rfl ?_
    refine WC.skipF hK2527 (fun _ _ h => h) ?_
    refine WC.seq fun K2528 hK2528 => ?_
    refine WC.block ?_
    refine WC.seq fun K2529 hK2529 => ?_
    -- region 12
    refine WC.region ?_
    -- R12.0 68 := law.go:224 move
    refine WL.v (by first | exact r_move (v := .int _ _) rfl | exact r_move rfl) rfl rfl rfl ?_
    -- R12.1 8 := law.go:224 assign
    refine WL.v (by first | exact r_assign (v := .int _ _) rfl | exact r_assign rfl) rfl rfl rfl ?_
    refine WL.fin hK2529 (fun _ _ h => h) ?_
    refine WC.seq fun K2530 hK2530 => ?_
    -- region 13
    refine WC.region ?_
    -- R13.0 69 := law.go:225 fieldAddr
    refine WL.v (by exact r_field ty_fld36_2 rfl) rfl rfl rfl ?_
    -- R13.1 70 := law.go:225 load
    refine WL.v (by exact r_load1 (v := .pointer (some ⟨bA, 0, none⟩)) ty_one29 rfl (by rw [← f6]; exact st.c0 (by decide))) rfl rfl rfl ?_
    -- R13.2 71 := law.go:225 move
    refine WL.v (by first | exact r_move (v := .int _ _) rfl | exact r_move rfl) rfl rfl rfl ?_
    -- R13.3 72 := law.go:225 nilCheck
    refine WL.v (by exact r_nilCheck rfl) rfl rfl rfl ?_
    -- R13.4 73 := law.go:225 fieldAddr
    refine WL.v (by exact r_field ty_fld50_6 rfl) rfl rfl rfl ?_
    -- R13.5 74 := law.go:225 indexAddr
    refine WL.v (by exact r_indexA (j := r) ty_ar47 rfl rfl rfl hr') rfl rfl rfl ?_
    -- R13.6 75 := law.go:225 load
    refine WL.v (by exact r_load1 (v := .slice aq Q.length cq) ty_one46 rfl (by rw [← hvq]; exact c_sQ (hckA _ _ _).A hr' (by omega) st)) rfl rfl rfl ?_
    -- R13.7 76 := law.go:225 call
    refine WL.v (by exact r_len ty_usl46 rfl) rfl rfl rfl ?_
    -- R13.8 77 := law.go:225 move
    refine WL.v (by first | exact r_move (v := .int _ _) rfl | exact r_move rfl) rfl rfl rfl ?_
    refine WL.fin hK2530 (fun _ _ h => h) ?_
    refine WC.block ?_
    refine WC.loop (ι := Nat) (fun k => [(1, .pointer (some ⟨b0, 0, none⟩)), (2, .pointer (some ⟨bs, 0, none⟩)), (3, .pointer (some ⟨b3, 0, none⟩)), (5, .int .i64 (cfT o)), (66, .int .i64 (r : Nat)), (75, .slice aq Q.length cq), (76, .int .i64 (Q.length : Nat)), (77, .int .i64 (k : Nat))])
      (fun k w' => k ≤ Q.length ∧ S0 w0 ((b3, Row 36 10 fs) :: (b0, Row 3 1 (nth [.int .i64 ((i + 1) : Nat)])) :: (bs, Row 22 1 (nth [.slice (some ⟨sb, so, none⟩) n cc])) :: l) w') (fun k => Q.length - k) 0 ⟨Nat.zero_le _, st⟩ ?_ ?_
    · skip
      repeat (first | exact sub_nil _ | refine sub_cons rfl rfl ?_)
    clear st
    rintro k w ⟨hk, st⟩ K3 hK3
    by_cases hkl : k = Q.length
    · skip
      refine WC.seq fun K2531 hK2531 => ?_
      -- region 14
      refine WC.region ?_
      -- R14.0 78 := law.go:225 binOp
      refine WL.v (by first | exact r_lss rfl rfl (decide_eq_true (by omega)) | exact r_lss rfl rfl (decide_eq_false (by omega)) | exact r_lss rfl rfl rfl) rfl rfl rfl ?_
      refine WL.fin hK2531 (fun _ _ h => h) ?_
      refine WC.seq fun K2532 hK2532 => ?_
      refine WC.condF rfl rfl ?_
      refine WC.exitF hK2528 (fun _ _ h => h) ?_
      -- region 19
      refine WC.region ?_
      -- R19.0 86 := law.go:224 binOp
      refine WL.v (by first | exact r_add rfl rfl (wi64 (by omega) (by omega)) | exact r_add rfl rfl rfl) rfl rfl rfl ?_
      -- R19.1 66 := law.go:224 move
      refine WL.v (by first | exact r_move (v := .int _ _) rfl | exact r_move rfl) rfl rfl rfl ?_
      refine WL.next hK1 (fun _ _ h => h) (r + 1) ⟨hr', st⟩ (by omega) (by repeat (first | exact sub_nil _ | refine sub_cons rfl rfl ?_))
    have hkl' : k < Q.length := by omega
    obtain ⟨e, he⟩ : ∃ e, Q[k]? = some e := ⟨Q[k], List.getElem?_eq_getElem hkl'⟩
    have hne := hqt e (List.mem_of_getElem? he)
    have hae := hqa (by omega)
    have hce := fun j hj => hqcell st (fun x hx => List.mem_cons_of_mem _ (List.mem_cons_of_mem _ (List.mem_cons_of_mem _ (hXs hx)))) k e he j hj
    refine WC.seq fun K2533 hK2533 => ?_
    -- region 14
    refine WC.region ?_
    -- R14.0 78 := law.go:225 binOp
    refine WL.v (by first | exact r_lss rfl rfl (decide_eq_true (by omega)) | exact r_lss rfl rfl (decide_eq_false (by omega)) | exact r_lss rfl rfl rfl) rfl rfl rfl ?_
    refine WL.fin hK2533 (fun _ _ h => h) ?_
    refine WC.seq fun K2534 hK2534 => ?_
    refine WC.condT rfl rfl ?_
    refine WC.skipF hK2534 (fun _ _ h => h) ?_
    refine WC.seq fun K2535 hK2535 => ?_
    refine WC.block ?_
    refine WC.seq fun K2536 hK2536 => ?_
    -- region 15
    refine WC.region ?_
    -- R15.0 79 := law.go:225 indexAddr
    refine WL.v (by exact r_indexS (j := k) ty_sl46 (congrArg (fun q => Value.slice q Q.length cq) hae) rfl rfl (by omega)) rfl rfl rfl ?_
    -- R15.1 80 := law.go:225 load
    refine WL.v (by exact r_loadL (vs := [.int .i64 (e.1 : Nat), .int .i64 (e.2 : Nat)]) ty_agg61 rfl ⟨by rw [Nat.zero_add]; exact hce 0 (by decide), by rw [Nat.zero_add]; exact hce 1 (by decide), trivial⟩) rfl rfl rfl ?_
    -- R15.2 10 := law.go:225 alloc
    refine WL.alloc (m := 2) st ty_zero61 rfl rfl rfl ?_
    intro b10 w st
    -- R15.3 None := law.go:225 store
    first | refine WL.storeW (vs := [_, _]) st ty_agg61 rfl rfl rfl rfl rfl rfl ?_ | refine WL.storeL (vs := [_, _]) st ty_agg61 rfl rfl rfl rfl (by first | decide | omega) rfl rfl ?_ | refine WL.storeW (vs := [_, _]) st.front1 ty_agg61 rfl rfl rfl rfl rfl rfl ?_ | refine WL.storeL (vs := [_, _]) st.front1 ty_agg61 rfl rfl rfl rfl (by first | decide | omega) rfl rfl ?_ | refine WL.storeW (vs := [_, _]) st.front2 ty_agg61 rfl rfl rfl rfl rfl rfl ?_ | refine WL.storeL (vs := [_, _]) st.front2 ty_agg61 rfl rfl rfl rfl (by first | decide | omega) rfl rfl ?_ | refine WL.storeW (vs := [_, _]) st.front3 ty_agg61 rfl rfl rfl rfl rfl rfl ?_ | refine WL.storeL (vs := [_, _]) st.front3 ty_agg61 rfl rfl rfl rfl (by first | decide | omega) rfl rfl ?_ | refine WL.storeW (vs := [_, _]) st.front4 ty_agg61 rfl rfl rfl rfl rfl rfl ?_ | refine WL.storeL (vs := [_, _]) st.front4 ty_agg61 rfl rfl rfl rfl (by first | decide | omega) rfl rfl ?_ | refine WL.storeW (vs := [_, _]) st.front5 ty_agg61 rfl rfl rfl rfl rfl rfl ?_ | refine WL.storeL (vs := [_, _]) st.front5 ty_agg61 rfl rfl rfl rfl (by first | decide | omega) rfl rfl ?_ | refine WL.storeW (vs := [_, _]) st.front6 ty_agg61 rfl rfl rfl rfl rfl rfl ?_ | refine WL.storeL (vs := [_, _]) st.front6 ty_agg61 rfl rfl rfl rfl (by first | decide | omega) rfl rfl ?_ | refine WL.storeW (vs := [_, _]) st.front7 ty_agg61 rfl rfl rfl rfl rfl rfl ?_ | refine WL.storeL (vs := [_, _]) st.front7 ty_agg61 rfl rfl rfl rfl (by first | decide | omega) rfl rfl ?_ | refine WL.storeW (vs := [_, _]) st.front8 ty_agg61 rfl rfl rfl rfl rfl rfl ?_ | refine WL.storeL (vs := [_, _]) st.front8 ty_agg61 rfl rfl rfl rfl (by first | decide | omega) rfl rfl ?_
    intro w st
    refine WL.fin hK2536 (fun _ _ h => h) ?_
    refine WC.seq fun K2537 hK2537 => ?_
    -- region 16
    refine WC.region ?_
    -- R16.0 81 := law.go:226 fieldAddr
    refine WL.v (by exact r_field ty_fld61_0 rfl) rfl rfl rfl ?_
    -- R16.1 82 := law.go:226 load
    refine WL.v (by exact r_load1 ty_one31 rfl (by first | assumption | exact st.c0 (by first | decide | omega) | exact st.c1 (by first | decide | omega) | exact st.c2 (by first | decide | omega) | exact st.c3 (by first | decide | omega) | exact st.c4 (by first | decide | omega) | exact st.c5 (by first | decide | omega) | exact st.c6 (by first | decide | omega) | exact st.c7 (by first | decide | omega) | exact st.c8 (by first | decide | omega))) rfl rfl rfl ?_
    -- R16.2 83 := law.go:226 move
    refine WL.v (by exact r_move (v := .int .i64 (t : Nat)) (congrArg (Value.int .i64) hT)) rfl rfl rfl ?_
    -- R16.3 84 := law.go:226 binOp
    refine WL.v (by exact r_eql rfl rfl (decide_eq_false (by omega))) rfl rfl rfl ?_
    refine WL.fin hK2537 (fun _ _ h => h) ?_
    refine WC.condF rfl rfl ?_
    refine WC.skipF hK2535 (fun _ _ h => h) ?_
    -- region 18
    refine WC.region ?_
    -- R18.0 85 := law.go:225 binOp
    refine WL.v (by first | exact r_add rfl rfl (wi64 (by omega) (by omega)) | exact r_add rfl rfl rfl) rfl rfl rfl ?_
    -- R18.1 77 := law.go:225 move
    refine WL.v (by first | exact r_move (v := .int _ _) rfl | exact r_move rfl) rfl rfl rfl ?_
    refine WL.next hK3 (fun _ _ h => h) (k + 1) ⟨hkl', st.drop⟩ (by omega) (by repeat (first | exact sub_nil _ | refine sub_cons rfl rfl ?_))
  refine WC.seq fun K2538 hK2538 => ?_
  -- region 11
  refine WC.region ?_
  -- R11.0 67 := law.go:224 binOp
  refine WL.v (by first | exact r_lss rfl rfl (decide_eq_true (by omega)) | exact r_lss rfl rfl (decide_eq_false (by omega)) | exact r_lss rfl rfl rfl) rfl rfl rfl ?_
  refine WL.fin hK2538 (fun _ _ h => h) ?_
  refine WC.seq fun K2539 hK2539 => ?_
  refine WC.condF rfl rfl ?_
  refine WC.exitF hK2524 (fun _ _ h => h) ?_
  refine WC.seq fun K2540 hK2540 => ?_
  -- region 20
  refine WC.region ?_
  -- R20.0 87 := law.go:231 build
  refine WL.v (by exact r_buildN (n := 20) (z := fun _ => .int .i64 0) (v := fun _ => .int .i64 0) (ps := []) ty_pl44 ty_zeroN44 rfl fill_nil) rfl rfl rfl ?_
  -- R20.1 11 := law.go:231 alloc
  refine WL.allocN (m := 20) st ty_zeroN44 rfl rfl ?_
  intro b11 w st
  -- R20.2 None := law.go:231 store
  refine WL.storeN (v := fun _ => .int .i64 0) st ty_agg44 rfl rfl (fun _ _ => rfl) (by decide) rfl rfl ?_
  intro w st
  have st : S0 w0 ((b11, Row 44 20 (fun _ => .int .i64 0)) :: (b3, Row 36 10 fs) :: (b0, Row 3 1 (nth [.int .i64 ((i + 1) : Nat)])) :: (bs, Row 22 1 (nth [.slice (some ⟨sb, so, none⟩) n cc])) :: l) w := stE (fun k hk => by rw [upds_eq]; split <;> rfl) st
  refine WL.fin hK2540 (fun _ _ h => h) ?_
  refine WC.seq fun K2541 hK2541 => ?_
  refine WC.seq fun K2542 hK2542 => ?_
  -- region 21 (draws)
  refine WC.quietS st ty_mixed (by kernel_rfl) fun Kq hKq => ?_
  -- R21.0 88 := law.go:232 fieldAddr
  refine QL.v (fun w st => by exact r_field ty_fld36_2 rfl) rfl rfl rfl ?_
  -- R21.1 89 := law.go:232 load
  refine QL.v (fun w st => by exact r_load1 (v := .pointer (some ⟨bA, 0, none⟩)) ty_one29 rfl (by rw [← f6]; exact st.c1 (by decide))) rfl rfl rfl ?_
  -- R21.2 90 := law.go:232 move
  refine QL.v (fun w st => by exact r_move (v := .int .i64 (t : Nat)) (congrArg (Value.int .i64) hT)) rfl rfl rfl ?_
  -- R21.3 91 := law.go:232 nilCheck
  refine QL.v (fun w st => by exact r_nilCheck rfl) rfl rfl rfl ?_
  -- R21.4 92 := law.go:232 fieldAddr
  refine QL.v (fun w st => by exact r_field ty_fld50_4 rfl) rfl rfl rfl ?_
  -- R21.5 93 := law.go:232 indexAddr
  refine QL.v (fun w st => by exact r_indexA (j := t) ty_ar45 rfl rfl rfl ht16) rfl rfl rfl ?_
  -- R21.6 94 := law.go:232 load
  refine QL.v (fun w st => by exact r_loadN (f := (fun r => .int .i64 (s'.held t r : Nat))) ty_agg44 rfl (fun k hk => c_sH (hckB _ _ _ _).A ht16 hk (by omega) st)) rfl rfl rfl ?_
  -- R21.7 95 := law.go:232 load
  refine QL.v (fun w st => by exact r_loadN (f := (fun _ => .int .i64 0)) ty_agg44 rfl (fun k hk => by rw [Nat.zero_add]; exact st.c0 hk)) rfl rfl rfl ?_
  -- R21.8 96 := law.go:232 binOp
  refine QL.v (fun w st => by exact r_aneq (n := 20) (F := fun r => .int .i64 (s'.held t r : Nat)) (G := fun _ => .int .i64 0) (t := false) eqH List.length_replicate rfl rfl (fun i hi => by rw [rep_get hi]; exact KFit.int) ⟨fun _ j hj => by rw [hX.h]; rfl, fun _ => rfl⟩) rfl rfl rfl ?_
  -- R21.9 97 := law.go:232 move
  refine QL.v (fun w st => by first | exact r_move (v := .bool _) rfl | exact r_move rfl) rfl rfl rfl ?_
  -- R21.10 98 := law.go:232 fieldAddr
  refine QL.v (fun w st => by exact r_field ty_fld36_2 rfl) rfl rfl rfl ?_
  -- R21.11 99 := law.go:232 load
  refine QL.v (fun w st => by exact r_load1 (v := .pointer (some ⟨bA, 0, none⟩)) ty_one29 rfl (by rw [← f6]; exact st.c1 (by decide))) rfl rfl rfl ?_
  -- R21.12 100 := law.go:232 move
  refine QL.v (fun w st => by exact r_move (v := .int .i64 (t : Nat)) (congrArg (Value.int .i64) hT)) rfl rfl rfl ?_
  -- R21.13 101 := law.go:232 nilCheck
  refine QL.v (fun w st => by exact r_nilCheck rfl) rfl rfl rfl ?_
  -- R21.14 102 := law.go:232 fieldAddr
  refine QL.v (fun w st => by exact r_field ty_fld50_5 rfl) rfl rfl rfl ?_
  -- R21.15 103 := law.go:232 indexAddr
  refine QL.v (fun w st => by exact r_indexA (j := t) ty_ar45 rfl rfl rfl ht16) rfl rfl rfl ?_
  -- R21.16 104 := law.go:232 load
  refine QL.v (fun w st => by exact r_loadN (f := (fun r => .int .i64 (s'.claim t r : Nat))) ty_agg44 rfl (fun k hk => c_sC (hckB _ _ _ _).A ht16 hk (by omega) st)) rfl rfl rfl ?_
  -- R21.17 105 := law.go:232 load
  refine QL.v (fun w st => by exact r_loadN (f := (fun _ => .int .i64 0)) ty_agg44 rfl (fun k hk => by rw [Nat.zero_add]; exact st.c0 hk)) rfl rfl rfl ?_
  -- R21.18 106 := law.go:232 binOp
  refine QL.v (fun w st => by exact r_aneq (n := 20) (F := fun r => .int .i64 (s'.claim t r : Nat)) (G := fun _ => .int .i64 0) (t := false) eqH List.length_replicate rfl rfl (fun i hi => by rw [rep_get hi]; exact KFit.int) ⟨fun _ j hj => by rw [hX.c]; rfl, fun _ => rfl⟩) rfl rfl rfl ?_
  -- R21.19 107 := law.go:232 pick
  refine QL.v (fun w st => by first | exact r_pickT (v := .bool _) rfl rfl | exact r_pickF (v := .bool _) rfl rfl) rfl rfl rfl ?_
  -- R21.20 108 := law.go:232 move
  refine QL.v (fun w st => by first | exact r_move (v := .bool _) rfl | exact r_move rfl) rfl rfl rfl ?_
  -- R21.21 109 := law.go:232 fieldAddr
  refine QL.v (fun w st => by exact r_field ty_fld36_2 rfl) rfl rfl rfl ?_
  -- R21.22 110 := law.go:232 load
  refine QL.v (fun w st => by exact r_load1 (v := .pointer (some ⟨bA, 0, none⟩)) ty_one29 rfl (by rw [← f6]; exact st.c1 (by decide))) rfl rfl rfl ?_
  -- R21.23 111 := law.go:232 nilCheck
  refine QL.v (fun w st => by exact r_nilCheck rfl) rfl rfl rfl ?_
  -- R21.24 112 := law.go:232 fieldAddr
  refine QL.v (fun w st => by exact r_field ty_fld50_7 rfl) rfl rfl rfl ?_
  -- R21.25 113 := law.go:232 load
  refine QL.v (fun w st => by exact r_loadN (f := uF s'.cells) ty_agg48 rfl (fun k hk => c_s (hckB _ _ _ _).A (by omega) (by rw [show 0 + 759 + k = 759 + k by omega]; exact sF_w hk) st)) rfl rfl rfl ?_
  -- R21.26 114 := law.go:232 fieldAddr
  refine QL.v (fun w st => by exact r_field ty_fld36_1 rfl) rfl rfl rfl ?_
  -- R21.27 115 := law.go:232 load
  refine QL.v (fun w st => by exact r_load1 (v := .pointer (some ⟨bB, 0, none⟩)) ty_one29 rfl (by rw [← f5]; exact st.c1 (by decide))) rfl rfl rfl ?_
  -- R21.28 116 := law.go:232 nilCheck
  refine QL.v (fun w st => by exact r_nilCheck rfl) rfl rfl rfl ?_
  -- R21.29 117 := law.go:232 fieldAddr
  refine QL.v (fun w st => by exact r_field ty_fld50_7 rfl) rfl rfl rfl ?_
  -- R21.30 118 := law.go:232 load
  refine QL.v (fun w st => by exact r_loadN (f := uF s.cells) ty_agg48 rfl (fun k hk => c_s (hckB _ _ _ _).B (by omega) (by rw [show 0 + 759 + k = 759 + k by omega]; exact sF_w hk) st)) rfl rfl rfl ?_
  -- R21.31 119 := law.go:232 binOp
  refine QL.v (fun w st => by exact r_aneq (n := 12) (F := uF s'.cells) (G := uF s.cells) (t := false) eqC List.length_replicate rfl rfl uF_fit ⟨fun _ j hj => by rw [hX.w], fun _ => rfl⟩) rfl rfl rfl ?_
  -- R21.32 120 := law.go:232 pick
  refine QL.v (fun w st => by first | exact r_pickT (v := .bool _) rfl rfl | exact r_pickF (v := .bool _) rfl rfl) rfl rfl rfl ?_
  refine QL.wl hKq fun w st => ?_
  refine WL.fin hK2542 (fun _ _ h => h) ?_
  refine WC.condF rfl rfl ?_
  refine WC.skipF hK2541 (fun _ _ h => h) ?_
  refine WC.seq fun K2543 hK2543 => ?_
  -- region 23
  refine WC.region ?_
  -- R23.0 121 := law.go:235 call
  have st := st.drop
  refine WL.call (r_call ty_call51 rfl) rfl rfl rfl (newK_ok st) ?_
  rintro _ w ⟨B, rfl, st⟩
  obtain ⟨Z0, st, back0⟩ := st.items
  -- R23.1 12 := law.go:235 assign
  refine WL.v (by first | exact r_assign (v := .pointer _) rfl | exact r_assign rfl) rfl rfl rfl ?_
  refine WL.fin hK2543 (fun _ _ h => h) ?_
  refine WC.seq fun K2544 hK2544 => ?_
  refine WC.seq fun K2545 hK2545 => ?_
  -- region 24
  refine WC.region ?_
  -- R24.0 122 := law.go:236 load
  refine WL.v (by exact r_load1 (v := .slice (some ⟨sb, so, none⟩) n cc) ty_one22 rfl (st.c2 (by decide))) rfl rfl rfl ?_
  -- R24.1 123 := law.go:236 load
  refine WL.v (by exact r_load1 (v := .int .i64 ((i + 1 : Nat) : Int)) ty_one3 rfl (st.c1 (by decide))) rfl rfl rfl ?_
  -- R24.2 124 := law.go:236 slice
  refine WL.v (by exact r_slS (l := 0) (h := i + 1) (m := cc) ty_sl22 rfl rfl ⟨_, rfl⟩ rfl (fun h => by cases h) (by omega) (by omega) (by omega) (by omega)) rfl rfl rfl ?_
  -- R24.3 125 := law.go:236 call
  refine WL.v (by exact r_len ty_usl22 rfl) rfl rfl rfl ?_
  -- R24.4 126 := law.go:236 move
  refine WL.v (by first | exact r_move (v := .int _ _) rfl | exact r_move rfl) rfl rfl rfl ?_
  refine WL.fin hK2545 (fun _ _ h => h) ?_
  refine WC.block ?_
  refine WC.loop (ι := Nat) (fun k => [(1, .pointer (some ⟨b0, 0, none⟩)), (2, .pointer (some ⟨bs, 0, none⟩)), (3, .pointer (some ⟨b3, 0, none⟩)), (5, .int .i64 (cfT o)), (12, .pointer (some ⟨B.bk, 0, none⟩)), (124, .slice (some ⟨sb, so + 0 * 5, none⟩) (i + 1 - 0) (cc - 0)), (125, .int .i64 ((i + 1 - 0 : Nat) : Int)), (126, .int .i64 (k : Nat))])
    (fun k w' => k ≤ i + 1 ∧ KH w0 B (runP op k) ((b3, Row 36 10 fs) :: (b0, Row 3 1 (nth [.int .i64 ((i + 1) : Nat)])) :: (bs, Row 22 1 (nth [.slice (some ⟨sb, so, none⟩) n cc])) :: l) w') (fun k => i + 1 - k) 0 ⟨Nat.zero_le _, back0 st⟩ ?_ ?_
  · skip
    repeat (first | exact sub_nil _ | refine sub_cons rfl rfl ?_)
  clear st back0
  rintro k w ⟨hk, st⟩ K2 hK2
  by_cases hki : k = i + 1
  rotate_left
  · have hk' : k < i + 1 := by omega
    have hkn : k < n := by omega
    have hK := run_KI op k
    have h1 := hK.now
    have h2 := hK.armed
    have h3 := hK.births
    obtain ⟨Z1, st, back1⟩ := st.items
    refine WC.seq fun K2546 hK2546 => ?_
    -- region 25
    refine WC.region ?_
    -- R25.0 127 := law.go:236 binOp
    refine WL.v (by first | exact r_lss rfl rfl (decide_eq_true (by omega)) | exact r_lss rfl rfl (decide_eq_false (by omega)) | exact r_lss rfl rfl rfl) rfl rfl rfl ?_
    refine WL.fin hK2546 (fun _ _ h => h) ?_
    refine WC.seq fun K2547 hK2547 => ?_
    refine WC.condT rfl rfl ?_
    refine WC.skipF hK2547 (fun _ _ h => h) ?_
    refine WC.seq fun K2548 hK2548 => ?_
    refine WC.block ?_
    refine WC.seq fun K2549 hK2549 => ?_
    -- region 26
    refine WC.region ?_
    -- R26.0 128 := law.go:236 indexAddr
    refine WL.v (by exact r_indexS (j := k) ty_sl22 rfl rfl rfl (by omega)) rfl rfl rfl ?_
    -- R26.1 129 := law.go:236 load
    refine WL.v (by exact r_loadL (vs := opL (op k)) ty_agg28 rfl ⟨by rw [show so + 0 * 5 + k * 5 = so + k * 5 + 0 by omega]; exact hS.ld hkn st 0 (by decide), by rw [show so + 0 * 5 + k * 5 + 1 = so + k * 5 + 1 by omega]; exact hS.ld hkn st 1 (by decide), by rw [show so + 0 * 5 + k * 5 + 1 + 1 = so + k * 5 + 2 by omega]; exact hS.ld hkn st 2 (by decide), by rw [show so + 0 * 5 + k * 5 + 1 + 1 + 1 = so + k * 5 + 3 by omega]; exact hS.ld hkn st 3 (by decide), by rw [show so + 0 * 5 + k * 5 + 1 + 1 + 1 + 1 = so + k * 5 + 4 by omega]; exact hS.ld hkn st 4 (by decide), trivial⟩) rfl rfl rfl ?_
    -- R26.2 14 := law.go:236 alloc
    refine WL.alloc (m := 5) st ty_zero28 rfl rfl rfl ?_
    intro b14 w st
    -- R26.3 None := law.go:236 store
    refine WL.storeW (vs := opL (op k)) st ty_agg28 rfl rfl rfl rfl rfl rfl ?_
    intro w st
    refine WL.fin hK2549 (fun _ _ h => h) ?_
    -- region 27
    refine WC.region ?_
    -- R27.0 130 := law.go:237 move
    refine WL.v (by first | exact r_move (v := .pointer _) rfl | exact r_move rfl) rfl rfl rfl ?_
    -- R27.1 131 := law.go:237 load
    refine WL.v (by exact r_loadL (vs := opL (op k)) ty_agg28 rfl ⟨st.c0 (by decide), st.c0 (by decide), st.c0 (by decide), st.c0 (by decide), st.c0 (by decide), trivial⟩) rfl rfl rfl ?_
    -- R27.2 132 := law.go:237 call
    have st := back1 (L' := oI b14 (op k) :: ((b3, Row 36 10 fs) :: (b0, Row 3 1 (nth [.int .i64 ((i + 1) : Nat)])) :: (bs, Row 22 1 (nth [.slice (some ⟨sb, so, none⟩) n cc])) :: l)) st
    refine WL.call (r_call ty_call52 rfl) rfl rfl rfl (step_ok (o := op k) hD hK.b (by omega) (by omega) (by omega) (by omega) (hS.kind k hkn) (hS.x k hkn) st) ?_
    rintro _ w ⟨ov, XO2, hor, rfl, st⟩
    refine WL.fin hK2548 (fun _ _ h => h) ?_
    -- region 28
    refine WC.region ?_
    -- R28.0 133 := law.go:236 binOp
    refine WL.v (by first | exact r_add rfl rfl (wi64 (by omega) (by omega)) | exact r_add rfl rfl rfl) rfl rfl rfl ?_
    -- R28.1 126 := law.go:236 move
    refine WL.v (by first | exact r_move (v := .int _ _) rfl | exact r_move rfl) rfl rfl rfl ?_
    refine WL.next hK2 (fun _ _ h => h) (k + 1) ⟨hk', KH.drop (KH.dropL st)⟩ (by omega) (by repeat (first | exact sub_nil _ | refine sub_cons rfl rfl ?_))
  subst hki
  have st : KH w0 B s' ((b3, Row 36 10 fs) :: (b0, Row 3 1 (nth [.int .i64 ((i + 1) : Nat)])) :: (bs, Row 22 1 (nth [.slice (some ⟨sb, so, none⟩) n cc])) :: l) w := by rw [hs']; exact st
  have hKI : KI (i + 1) s' := by rw [hs']; exact run_KI op (i + 1)
  have hlv : (s'.tk t).live = false := by rw [hX.tk]; rfl
  have hep' : (s'.tk t).epoch = (s.tk t).epoch + 1 := by rw [hX.tk]; exact hinc
  refine WC.seq fun K2550 hK2550 => ?_
  -- region 25
  refine WC.region ?_
  -- R25.0 127 := law.go:236 binOp
  refine WL.v (by first | exact r_lss rfl rfl (decide_eq_true (by omega)) | exact r_lss rfl rfl (decide_eq_false (by omega)) | exact r_lss rfl rfl rfl) rfl rfl rfl ?_
  refine WL.fin hK2550 (fun _ _ h => h) ?_
  refine WC.seq fun K2551 hK2551 => ?_
  refine WC.condF rfl rfl ?_
  refine WC.exitF hK2544 (fun _ _ h => h) ?_
  refine WC.block ?_
  refine WC.loop (ι := KS × Nat) (fun y => [(1, .pointer (some ⟨b0, 0, none⟩)), (2, .pointer (some ⟨bs, 0, none⟩)), (3, .pointer (some ⟨b3, 0, none⟩)), (5, .int .i64 (cfT o)), (12, .pointer (some ⟨B.bk, 0, none⟩))])
    (fun y w' => KI y.2 y.1 ∧ y.2 + vacN y.1 ≤ i + 1 + 16 ∧ (y.1.tk t).live = false ∧ (y.1.tk t).epoch = (s.tk t).epoch + 1 ∧ KH w0 B y.1 ((b3, Row 36 10 fs) :: (b0, Row 3 1 (nth [.int .i64 ((i + 1) : Nat)])) :: (bs, Row 22 1 (nth [.slice (some ⟨sb, so, none⟩) n cc])) :: l) w') (fun y => vacN y.1) (s', i + 1) ⟨hKI, by have := vac_le (s := s'); show i + 1 + vacN s' ≤ _; omega, hlv, hep', st⟩ ?_ ?_
  · skip
    repeat (first | exact sub_nil _ | refine sub_cons rfl rfl ?_)
  clear st hKI hlv hep'
  rintro ⟨σ, m⟩ w ⟨hKI, hvn, hlv, hep', st⟩ K4 hK4
  dsimp only at hKI hvn hlv hep' st ⊢
  have hvl := vac_le (s := σ)
  obtain ⟨u, hu, hut⟩ := slot_some ht16 hlv
  have hu16 : u < 16 := by omega
  have hul : (σ.tk u).live = false := by simpa using List.find?_some hu
  have hvb := vac_born hu16 hul
  have e : stepP σ spO = (bornS σ u, 0, (u : Int)) := by unfold stepP spO; show spawnP σ = _; unfold spawnP; rw [hu]
  have hK2 := hKI.next (step_oks (o := spO) hKI.b)
  rw [e] at hK2
  have h1 := hKI.now
  have h2 := hKI.armed
  have h3 := hKI.births
  by_cases hue : u = t
  rotate_left
  · skip
    refine WC.block ?_
    refine WC.seq fun K2552 hK2552 => ?_
    -- region 29
    refine WC.region ?_
    -- R29.0 134 := law.go:240 move
    refine WL.v (by first | exact r_move (v := .pointer _) rfl | exact r_move rfl) rfl rfl rfl ?_
    -- R29.1 135 := law.go:240 build
    refine WL.v (by exact r_build (ps := [(0, .int .u8 1)]) (vs := opL spO) ty_pl28 ty_zero28 rfl rfl) rfl rfl rfl ?_
    -- R29.2 136 := law.go:240 call
    refine WL.call (r_call ty_call52 rfl) rfl rfl rfl (step_ok (o := spO) hD hKI.b (by omega) (by omega) (by omega) (by omega) (by decide) (by decide) st) ?_
    rintro _ w ⟨ov, XO2, hor, rfl, st⟩
    rw [e] at st hor
    rw [e]
    dsimp only at st hor ⊢
    have st := st.dropL
    obtain ⟨ar, cr, br, rfl, -, -, -, -⟩ := hor.form
    obtain ⟨Z2, st, back2⟩ := st.items
    -- R29.3 15 := law.go:240 alloc
    refine WL.alloc (m := 3) st ty_zero34 rfl rfl rfl ?_
    intro b15 w st
    -- R29.4 None := law.go:240 store
    refine WL.storeW (vs := [.int .i64 0, .int .i64 (u : Nat), .slice ar (bornS σ u).told.length cr]) st ty_agg34 rfl rfl rfl rfl rfl rfl ?_
    intro w st
    refine WL.fin hK2552 (fun _ _ h => h) ?_
    refine WC.seq fun K2553 hK2553 => ?_
    refine WC.seq fun K2554 hK2554 => ?_
    -- region 30
    refine WC.region ?_
    -- R30.0 137 := law.go:241 fieldAddr
    refine WL.v (by exact r_field ty_fld34_0 rfl) rfl rfl rfl ?_
    -- R30.1 138 := law.go:241 load
    refine WL.v (by exact r_load1 (v := .int .i64 0) ty_one30 rfl (st.c0 (by decide))) rfl rfl rfl ?_
    -- R30.2 139 := law.go:241 binOp
    refine WL.v (by first | exact r_neq rfl rfl (decide_eq_true (by omega)) | exact r_neq rfl rfl (decide_eq_false (by omega)) | exact r_neq rfl rfl rfl) rfl rfl rfl ?_
    refine WL.fin hK2554 (fun _ _ h => h) ?_
    refine WC.condF rfl rfl ?_
    refine WC.skipF hK2553 (fun _ _ h => h) ?_
    refine WC.seq fun K2555 hK2555 => ?_
    -- region 32
    refine WC.region ?_
    -- R32.0 140 := law.go:244 fieldAddr
    refine WL.v (by exact r_field ty_fld34_1 rfl) rfl rfl rfl ?_
    -- R32.1 141 := law.go:244 load
    refine WL.v (by exact r_load1 (v := .int .i64 (u : Nat)) ty_one31 rfl (st.c0 (by decide))) rfl rfl rfl ?_
    -- R32.2 142 := law.go:244 move
    refine WL.v (by exact r_move (v := .int .i64 (t : Nat)) (congrArg (Value.int .i64) hT)) rfl rfl rfl ?_
    -- R32.3 143 := law.go:244 binOp
    refine WL.v (by exact r_eql rfl rfl (decide_eq_false (by omega))) rfl rfl rfl ?_
    refine WL.fin hK2555 (fun _ _ h => h) ?_
    refine WC.condF rfl rfl ?_
    refine WC.skipN hK4 (fun _ _ h => h) ({ bornS σ u with told := [] }, m + 1) ⟨hK2, (by have : vacN { bornS σ u with told := [] } = vacN (bornS σ u) := rfl; show m + 1 + vacN { bornS σ u with told := [] } ≤ _; omega), (by show (updN σ.tk u (bornT σ u) t).live = false; rw [updN_ne (fun k => hue k.symm)]; exact hlv), (by show (updN σ.tk u (bornT σ u) t).epoch = _; rw [updN_ne (fun k => hue k.symm)]; exact hep'), back2 (L' := (b3, Row 36 10 fs) :: (b0, Row 3 1 (nth [.int .i64 ((i + 1) : Nat)])) :: (bs, Row 22 1 (nth [.slice (some ⟨sb, so, none⟩) n cc])) :: l) st.drop⟩ (by show vacN (bornS σ u) < vacN σ; omega) (by repeat (first | exact sub_nil _ | refine sub_cons rfl rfl ?_))
  have stK := st
  subst hue
  have st := stK
  have hbT : (bornS σ u).tk u = bornT σ u := updN_same
  refine WC.block ?_
  refine WC.seq fun K2556 hK2556 => ?_
  -- region 29
  refine WC.region ?_
  -- R29.0 134 := law.go:240 move
  refine WL.v (by first | exact r_move (v := .pointer _) rfl | exact r_move rfl) rfl rfl rfl ?_
  -- R29.1 135 := law.go:240 build
  refine WL.v (by exact r_build (ps := [(0, .int .u8 1)]) (vs := opL spO) ty_pl28 ty_zero28 rfl rfl) rfl rfl rfl ?_
  -- R29.2 136 := law.go:240 call
  refine WL.call (r_call ty_call52 rfl) rfl rfl rfl (step_ok (o := spO) hD hKI.b (by omega) (by omega) (by omega) (by omega) (by decide) (by decide) st) ?_
  rintro _ w ⟨ov, XO2, hor, rfl, st⟩
  rw [e] at st hor
  rw [e]
  dsimp only at st hor ⊢
  have st := st.dropL
  obtain ⟨ar, cr, br, rfl, -, -, -, -⟩ := hor.form
  obtain ⟨Z2, st, back2⟩ := st.items
  -- R29.3 15 := law.go:240 alloc
  refine WL.alloc (m := 3) st ty_zero34 rfl rfl rfl ?_
  intro b15 w st
  -- R29.4 None := law.go:240 store
  refine WL.storeW (vs := [.int .i64 0, .int .i64 (u : Nat), .slice ar (bornS σ u).told.length cr]) st ty_agg34 rfl rfl rfl rfl rfl rfl ?_
  intro w st
  refine WL.fin hK2556 (fun _ _ h => h) ?_
  refine WC.seq fun K2557 hK2557 => ?_
  refine WC.seq fun K2558 hK2558 => ?_
  -- region 30
  refine WC.region ?_
  -- R30.0 137 := law.go:241 fieldAddr
  refine WL.v (by exact r_field ty_fld34_0 rfl) rfl rfl rfl ?_
  -- R30.1 138 := law.go:241 load
  refine WL.v (by exact r_load1 (v := .int .i64 0) ty_one30 rfl (st.c0 (by decide))) rfl rfl rfl ?_
  -- R30.2 139 := law.go:241 binOp
  refine WL.v (by first | exact r_neq rfl rfl (decide_eq_true (by omega)) | exact r_neq rfl rfl (decide_eq_false (by omega)) | exact r_neq rfl rfl rfl) rfl rfl rfl ?_
  refine WL.fin hK2558 (fun _ _ h => h) ?_
  refine WC.condF rfl rfl ?_
  refine WC.skipF hK2557 (fun _ _ h => h) ?_
  refine WC.seq fun K2559 hK2559 => ?_
  -- region 32
  refine WC.region ?_
  -- R32.0 140 := law.go:244 fieldAddr
  refine WL.v (by exact r_field ty_fld34_1 rfl) rfl rfl rfl ?_
  -- R32.1 141 := law.go:244 load
  refine WL.v (by exact r_load1 (v := .int .i64 (u : Nat)) ty_one31 rfl (st.c0 (by decide))) rfl rfl rfl ?_
  -- R32.2 142 := law.go:244 move
  refine WL.v (by exact r_move (v := .int .i64 (u : Nat)) (congrArg (Value.int .i64) hT)) rfl rfl rfl ?_
  -- R32.3 143 := law.go:244 binOp
  refine WL.v (by exact r_eql rfl rfl (decide_eq_true rfl)) rfl rfl rfl ?_
  refine WL.fin hK2559 (fun _ _ h => h) ?_
  refine WC.condT rfl rfl ?_
  refine WC.seq fun K2560 hK2560 => ?_
  -- region 33
  refine WC.region ?_
  -- R33.0 144 := law.go:245 move
  refine WL.v (by first | exact r_move (v := .pointer _) rfl | exact r_move rfl) rfl rfl rfl ?_
  -- R33.1 145 := law.go:245 call
  have st := back2 (L' := (b3, Row 36 10 fs) :: (b0, Row 3 1 (nth [.int .i64 ((i + 1) : Nat)])) :: (bs, Row 22 1 (nth [.slice (some ⟨sb, so, none⟩) n cc])) :: l) st.drop
  refine WL.call (r_call ty_call53 rfl) rfl rfl rfl (snapshot_ok hK2.b (by omega) st) ?_
  rintro _ w ⟨qv2, XS2, hq2, rfl, st⟩
  obtain ⟨Z3, st, back3⟩ := st.items
  -- R33.2 146 := law.go:245 field
  refine WL.v (by exact r_fieldW (N := 771) (F := sF { bornS σ u with told := [] } qv2) (G := taF (bornS σ u).tk) fldTasks rfl (by decide) (fun j hj => sF_t hj)) rfl rfl rfl ?_
  -- R33.3 147 := law.go:245 move
  refine WL.v (by exact r_move (v := .int .i64 (u : Nat)) (congrArg (Value.int .i64) hT)) rfl rfl rfl ?_
  -- R33.4 148 := law.go:245 index
  refine WL.v (by exact r_indexW (a := u) (m := 96) (s := 6) (F := taF (bornS σ u).tk) (G := tsF (bornT σ u)) ty_ar43 ty_agg42 rfl rfl ht16 (by omega) (fun j hj => by unfold taF; rw [show (u * 6 + j) / 6 = u by omega, show (u * 6 + j) % 6 = j by omega, hbT])) rfl rfl rfl ?_
  -- R33.5 16 := law.go:245 alloc
  refine WL.alloc (m := 6) st ty_zero42 rfl rfl rfl ?_
  intro b16 w st
  -- R33.6 None := law.go:245 store
  have hmm : ∀ x, x ∈ (b3, Row 36 10 fs) :: (b0, Row 3 1 (nth [.int .i64 ((i + 1) : Nat)])) :: (bs, Row 22 1 (nth [.slice (some ⟨sb, so, none⟩) n cc])) :: l → x ∈ (gather 20 XS2 ++ ((b3, Row 36 10 fs) :: (b0, Row 3 1 (nth [.int .i64 ((i + 1) : Nat)])) :: (bs, Row 22 1 (nth [.slice (some ⟨sb, so, none⟩) n cc])) :: l)) ++ Z3 := fun x hx => List.mem_append_left _ (List.mem_append_right _ hx)
  refine WL.storeN (v := tsF (bornT σ u)) st ty_agg42 rfl rfl (fun k hk => by { match k, hk with | 0, _ => rfl | 1, _ => rfl | 2, _ => rfl | 3, _ => rfl | 4, _ => rfl | 5, _ => rfl | k + 6, h => omega }) (by decide) rfl rfl ?_
  intro w st
  have st : S0 w0 ((b16, Row 42 6 (tsF (bornT σ u))) :: ((gather 20 XS2 ++ ((b3, Row 36 10 fs) :: (b0, Row 3 1 (nth [.int .i64 ((i + 1) : Nat)])) :: (bs, Row 22 1 (nth [.slice (some ⟨sb, so, none⟩) n cc])) :: l)) ++ Z3)) w := stE (fun k hk => by rw [upds_eq, if_pos (by omega), Nat.sub_zero]) st
  refine WL.fin hK2560 (fun _ _ h => h) ?_
  refine WC.seq fun K2561 hK2561 => ?_
  -- region 34 (draws)
  refine WC.quietS st ty_mixed (by kernel_rfl) fun Kq hKq => ?_
  -- R34.0 149 := law.go:246 fieldAddr
  refine QL.v (fun w st => by exact r_field ty_fld42_0 rfl) rfl rfl rfl ?_
  -- R34.1 150 := law.go:246 load
  refine QL.v (fun w st => by exact r_load1 (v := .bool true) ty_one4 rfl (st.c0 (by decide))) rfl rfl rfl ?_
  -- R34.2 151 := law.go:246 move
  refine QL.v (fun w st => by first | exact r_move (v := .bool _) rfl | exact r_move rfl) rfl rfl rfl ?_
  -- R34.3 152 := law.go:246 fieldAddr
  refine QL.v (fun w st => by exact r_field ty_fld42_2 rfl) rfl rfl rfl ?_
  -- R34.4 153 := law.go:246 load
  refine QL.v (fun w st => by exact r_load1 (v := .int .u64 ((σ.tk u).epoch : Nat)) ty_one26 rfl (st.c0 (by decide))) rfl rfl rfl ?_
  -- R34.5 154 := law.go:246 fieldAddr
  refine QL.v (fun w st => by exact r_field ty_fld36_1 rfl) rfl rfl rfl ?_
  -- R34.6 155 := law.go:246 load
  refine QL.v (fun w st => by exact r_load1 (v := .pointer (some ⟨bB, 0, none⟩)) ty_one29 rfl (by rw [← f5]; exact st.cell (List.mem_cons_of_mem _ (hmm _ List.mem_cons_self)) (by decide))) rfl rfl rfl ?_
  -- R34.7 156 := law.go:246 move
  refine QL.v (fun w st => by exact r_move (v := .int .i64 (u : Nat)) (congrArg (Value.int .i64) hT)) rfl rfl rfl ?_
  -- R34.8 157 := law.go:246 nilCheck
  refine QL.v (fun w st => by exact r_nilCheck rfl) rfl rfl rfl ?_
  -- R34.9 158 := law.go:246 fieldAddr
  refine QL.v (fun w st => by exact r_field ty_fld50_3 rfl) rfl rfl rfl ?_
  -- R34.10 159 := law.go:246 indexAddr
  refine QL.v (fun w st => by exact r_indexA (j := u) ty_ar43 rfl rfl rfl ht16) rfl rfl rfl ?_
  -- R34.11 160 := law.go:246 fieldAddr
  refine QL.v (fun w st => by exact r_field ty_fld42_2 rfl) rfl rfl rfl ?_
  -- R34.12 161 := law.go:246 load
  refine QL.v (fun w st => by exact r_load1 (v := .int .u64 ((s.tk u).epoch : Nat)) ty_one26 rfl (c_sT (List.mem_cons_of_mem _ (hmm _ (List.mem_cons_of_mem _ (List.mem_cons_of_mem _ (List.mem_cons_of_mem _ hck.B))))) ht16 (j := 2) (by decide) (by omega) st)) rfl rfl rfl ?_
  -- R34.13 162 := law.go:246 binOp
  refine QL.v (fun w st => by exact r_gtr rfl rfl (decide_eq_true (by omega))) rfl rfl rfl ?_
  -- R34.14 163 := law.go:246 pick
  refine QL.v (fun w st => by first | exact r_pickT (v := .bool _) rfl rfl | exact r_pickF (v := .bool _) rfl rfl) rfl rfl rfl ?_
  -- R34.15 4 := law.go:246 assign
  refine QL.v (fun w st => by first | exact r_assign (v := .bool _) rfl | exact r_assign rfl) rfl rfl rfl ?_
  refine QL.wl hKq fun w st => ?_
  refine WL.fin hK2561 (fun _ _ h => h) ?_
  refine WC.ret1 Tryz.results50 (fun _ _ h => h) rfl ?_
  refine ⟨_, rfl, rfl, ?_⟩
  have st := st.drop.sublist (List.sublist_append_left _ _)
  exact (st_dropL st).drop
theorem exitL_ok (a : Option Addr) (sb so n c : Nat) (op : Nat → Kern.Op) (hD : gD w) (hS : Scr w sb so n op) (hn63 : n ≤ 140737488355328) (ha : 0 < n → a = some ⟨sb, so, none⟩) (hnc : n ≤ c) :
    Calls Tryz.prog 11 #[.slice a n c] w (Ret fun v w' => v = .bool true ∧ S0 w [] w') := by
  obtain ⟨W0, hW0⟩ : ∃ W0, W0 = w := ⟨_, rfl⟩
  have st : S0 W0 [] w := by rw [hW0]; exact St.init w _
  rw [← hW0] at hD hS
  rw [show (fun v w' => v = Value.bool true ∧ S0 w [] w') = (fun v w' => v = Value.bool true ∧ S0 W0 [] w') by rw [hW0]]
  clear hW0
  by_cases hn : n ≤ 65536
  · have hC : ∀ b0 bs, CheckOK W0 50 #[.pointer (some ⟨b0, 0, none⟩), .pointer (some ⟨bs, 0, none⟩)] op n fun i LI => LI = [(b0, Row 3 1 (nth [.int .i64 (i : Nat)])), (bs, Row 22 1 (nth [.slice a n c]))] := fun b0 bs => by
      rintro i bB bA qv qv' XS XS' ov XO LI Z w' hi rfl hQ st'
      have hK := run_KI op i
      have hI := run_INV op i
      obtain rfl := ha (by omega)
      refine (exit1_ok (s := runP op i) (s' := runP op (i + 1)) (l := QIs (runP op i) (runP op (i + 1)) bB bA qv qv' XS XS' XO Z) hD hS hn hnc hi rfl rfl rfl (fun h9 hf => ?_) (fun h9 hf => ?_) (CK.of hQ) (st'.perm (by classical exact List.perm_iff_count.2 fun x => by simp only [List.count_append, List.count_cons, List.count_nil, List.append_eq, List.cons_append, List.nil_append, List.append_assoc, Nat.add_zero, Nat.zero_add] <;> ac_rfl))).mono ?_
      · have := exit_free (o := op i) hI h9 hf
        exact ⟨this.1, this.2.tk, this.2.h, this.2.c, this.2.w, this.2.q⟩
      · have := exit_busy (o := op i) h9 hf
        exact ⟨this.1, after_id this.2 hK.told⟩
      rintro e w'' ⟨v, rfl, rfl, st''⟩
      exact ⟨_, rfl, rfl, _, rfl, st''.perm (by classical exact List.perm_iff_count.2 fun x => by simp only [List.count_append, List.count_cons, List.count_nil, List.append_eq, List.cons_append, List.nil_append, List.append_assoc, Nat.add_zero, Nat.zero_add] <;> ac_rfl)⟩
    refine enter [.slice a n c] Tryz.func11 rfl Tryz.ntmps11 rfl ?_
    show WC _ _ _ 10 [] [(0, .slice a n c)] _
    refine WC.seq fun K2562 hK2562 => ?_
    -- region 0
    refine WC.region ?_
    -- R0.0 1 := law.go:205 box
    first | refine WL.box (m := 1) (vs := [.slice _ _ _]) st rfl rfl rfl rfl rfl rfl ?_ | refine WL.box (m := 1) (vs := [_]) st rfl rfl rfl rfl rfl rfl ?_ | refine WL.box st rfl rfl rfl rfl rfl rfl ?_
    intro b1 w st
    -- R0.1 2 := law.go:205 assign
    refine WL.v (by first | exact r_assign (v := .bool _) rfl | exact r_assign rfl) rfl rfl rfl ?_
    refine WL.fin hK2562 (fun _ _ h => h) ?_
    refine WC.seq fun K2563 hK2563 => ?_
    refine WC.seq fun K2564 hK2564 => ?_
    -- region 1
    refine WC.region ?_
    -- R1.0 4 := law.go:206 load
    refine WL.v (by exact r_load1 ty_one22 rfl (by first | assumption | exact st.c0 (by first | decide | omega) | exact st.c1 (by first | decide | omega) | exact st.c2 (by first | decide | omega) | exact st.c3 (by first | decide | omega) | exact st.c4 (by first | decide | omega) | exact st.c5 (by first | decide | omega) | exact st.c6 (by first | decide | omega) | exact st.c7 (by first | decide | omega) | exact st.c8 (by first | decide | omega))) rfl rfl rfl ?_
    -- R1.1 5 := law.go:206 call
    refine WL.call (r_call ty_call23 rfl) rfl rfl rfl (zzSmall1_ok a n c st) ?_
    rintro _ w' ⟨he, st⟩
    rw [decide_eq_true hn] at he
    subst he
    -- R1.2 6 := law.go:206 unOp
    refine WL.v (by first | exact r_notT rfl | exact r_notF rfl | exact r_not rfl) rfl rfl rfl ?_
    refine WL.fin hK2564 (fun _ _ h => h) ?_
    refine WC.condF rfl rfl ?_
    refine WC.skipF hK2563 (fun _ _ h => h) ?_
    refine WC.seq fun K2565 hK2565 => ?_
    -- region 3
    refine WC.region ?_
    -- R3.0 3 := law.go:210 alloc
    refine WL.alloc (m := 1) st ty_zero3 rfl rfl rfl ?_
    intro b3 w st
    -- R3.1 None := law.go:210 store
    first | refine WL.store (v := .int _ _) st ty_one3 rfl rfl rfl (by first | decide | omega) rfl rfl ?_ | refine WL.store (v := _) st ty_one3 rfl rfl rfl (by first | decide | omega) rfl rfl ?_ | refine WL.store (v := .int _ _) st.front1 ty_one3 rfl rfl rfl (by first | decide | omega) rfl rfl ?_ | refine WL.store (v := _) st.front1 ty_one3 rfl rfl rfl (by first | decide | omega) rfl rfl ?_ | refine WL.store (v := .int _ _) st.front2 ty_one3 rfl rfl rfl (by first | decide | omega) rfl rfl ?_ | refine WL.store (v := _) st.front2 ty_one3 rfl rfl rfl (by first | decide | omega) rfl rfl ?_ | refine WL.store (v := .int _ _) st.front3 ty_one3 rfl rfl rfl (by first | decide | omega) rfl rfl ?_ | refine WL.store (v := _) st.front3 ty_one3 rfl rfl rfl (by first | decide | omega) rfl rfl ?_ | refine WL.store (v := .int _ _) st.front4 ty_one3 rfl rfl rfl (by first | decide | omega) rfl rfl ?_ | refine WL.store (v := _) st.front4 ty_one3 rfl rfl rfl (by first | decide | omega) rfl rfl ?_ | refine WL.store (v := .int _ _) st.front5 ty_one3 rfl rfl rfl (by first | decide | omega) rfl rfl ?_ | refine WL.store (v := _) st.front5 ty_one3 rfl rfl rfl (by first | decide | omega) rfl rfl ?_ | refine WL.store (v := .int _ _) st.front6 ty_one3 rfl rfl rfl (by first | decide | omega) rfl rfl ?_ | refine WL.store (v := _) st.front6 ty_one3 rfl rfl rfl (by first | decide | omega) rfl rfl ?_ | refine WL.store (v := .int _ _) st.front7 ty_one3 rfl rfl rfl (by first | decide | omega) rfl rfl ?_ | refine WL.store (v := _) st.front7 ty_one3 rfl rfl rfl (by first | decide | omega) rfl rfl ?_ | refine WL.store (v := .int _ _) st.front8 ty_one3 rfl rfl rfl (by first | decide | omega) rfl rfl ?_ | refine WL.store (v := _) st.front8 ty_one3 rfl rfl rfl (by first | decide | omega) rfl rfl ?_
    intro w st
    refine WL.fin hK2565 (fun _ _ h => h) ?_
    refine WC.seq fun K2566 hK2566 => ?_
    -- region 4
    refine WC.region ?_
    -- R4.0 7 := law.go:211 load
    refine WL.v (by exact r_load1 ty_one22 rfl (by first | assumption | exact st.c0 (by first | decide | omega) | exact st.c1 (by first | decide | omega) | exact st.c2 (by first | decide | omega) | exact st.c3 (by first | decide | omega) | exact st.c4 (by first | decide | omega) | exact st.c5 (by first | decide | omega) | exact st.c6 (by first | decide | omega) | exact st.c7 (by first | decide | omega) | exact st.c8 (by first | decide | omega))) rfl rfl rfl ?_
    -- R4.1 8 := law.go:211 makeFunc
    refine WL.v (by exact r_mkfn rfl rfl) rfl rfl rfl ?_
    -- R4.2 9 := law.go:211 call
    have st := (stE one_upd st : S0 _ ([(b3, Row 3 1 (nth [.int .i64 (0 : Nat)])), (b1, Row 22 1 (nth [.slice a n c]))] ++ []) _)
    refine WL.call (r_call ty_call24 rfl) rfl rfl rfl (play_ok (l := []) ty_call50 hD hS hn ha (hC b3 b1) rfl st) ?_
    rintro _ w'' ⟨rfl, LI', rfl, st⟩
    -- R4.3 2 := law.go:211 assign
    refine WL.v (by first | exact r_assign (v := .bool _) rfl | exact r_assign rfl) rfl rfl rfl ?_
    refine WL.fin hK2566 (fun _ _ h => h) ?_
    refine WC.ret1 Tryz.results11 (fun _ _ h => h) rfl ?_
    exact ⟨_, rfl, rfl, st.sublist (List.nil_sublist _)⟩
  · skip
    refine enter [.slice a n c] Tryz.func11 rfl Tryz.ntmps11 rfl ?_
    show WC _ _ _ 10 [] [(0, .slice a n c)] _
    refine WC.seq fun K2567 hK2567 => ?_
    -- region 0
    refine WC.region ?_
    -- R0.0 1 := law.go:205 box
    first | refine WL.box (m := 1) (vs := [.slice _ _ _]) st rfl rfl rfl rfl rfl rfl ?_ | refine WL.box (m := 1) (vs := [_]) st rfl rfl rfl rfl rfl rfl ?_ | refine WL.box st rfl rfl rfl rfl rfl rfl ?_
    intro b1 w st
    -- R0.1 2 := law.go:205 assign
    refine WL.v (by first | exact r_assign (v := .bool _) rfl | exact r_assign rfl) rfl rfl rfl ?_
    refine WL.fin hK2567 (fun _ _ h => h) ?_
    refine WC.seq fun K2568 hK2568 => ?_
    refine WC.seq fun K2569 hK2569 => ?_
    -- region 1
    refine WC.region ?_
    -- R1.0 4 := law.go:206 load
    refine WL.v (by exact r_load1 ty_one22 rfl (by first | assumption | exact st.c0 (by first | decide | omega) | exact st.c1 (by first | decide | omega) | exact st.c2 (by first | decide | omega) | exact st.c3 (by first | decide | omega) | exact st.c4 (by first | decide | omega) | exact st.c5 (by first | decide | omega) | exact st.c6 (by first | decide | omega) | exact st.c7 (by first | decide | omega) | exact st.c8 (by first | decide | omega))) rfl rfl rfl ?_
    -- R1.1 5 := law.go:206 call
    refine WL.call (r_call ty_call23 rfl) rfl rfl rfl (zzSmall1_ok a n c st) ?_
    rintro _ w' ⟨he, st⟩
    rw [decide_eq_false hn] at he
    subst he
    -- R1.2 6 := law.go:206 unOp
    refine WL.v (by first | exact r_notT rfl | exact r_notF rfl | exact r_not rfl) rfl rfl rfl ?_
    refine WL.fin hK2569 (fun _ _ h => h) ?_
    refine WC.condT rfl rfl ?_
    refine WC.seq fun K2570 hK2570 => ?_
    -- region 2
    refine WC.region ?_
    -- R2.0 2 := law.go:207 assign
    refine WL.v (by first | exact r_assign (v := .bool _) rfl | exact r_assign rfl) rfl rfl rfl ?_
    refine WL.fin hK2570 (fun _ _ h => h) ?_
    refine WC.ret1 Tryz.results11 (fun _ _ h => h) rfl ?_
    exact ⟨_, rfl, rfl, st.drop⟩
end Go.Proofs.Qxb6500834aGreatDoor

