import Derived.Test.Qxb6500834aGreatDoorK81
set_option linter.unusedVariables false
set_option linter.unusedSimpArgs false
set_option maxRecDepth 20000
namespace Go.Proofs.Qxb6500834aGreatDoor
open Go.RowKit Go.E1 Go.Kern
theorem ty_call98 : callT Tryz.prog 98 = true := by kernel_rfl
theorem ty_fld98_10 : fldOff Tryz.prog 98 10 = some 693 := by kernel_rfl
theorem ty_fld98_11 : fldOff Tryz.prog 98 11 = some 705 := by kernel_rfl
theorem ty_fld98_12 : fldOff Tryz.prog 98 12 = some 721 := by kernel_rfl
variable {w0 : World} {l X : List HI} {w : World} {s s' s0 : KS} {t r N n : Nat} {qv qv' : Nat → Value}
variable {P : List PQ} {m : MR} {pv tv v : Value} {mb : Nat → Nat} {bm : Nat} {T : List (Nat × Nat × Nat)} {O : Nat → Nat → Option Nat} {held claim : Nat → Nat → Nat}

theorem mr_abort : mrOf (abortP s t) = { mrOf s with cells := rolE (odF s) s.cells t, wr := updN (mrOf s).wr t 0, held := zapRow s.held t, epoch := updN (mrOf s).epoch t (inc64 (s.tk t).epoch) } := by
  have e1 : (abortP s t).cells = rolE (odF s) s.cells t := by funext c; exact rollC_at _ _ _
  unfold mrOf
  rw [abort_tk, e1, abort_held]
  have h1 : (fun a => (updN s.tk t (abT (s.tk t)) a).live) = fun a => (s.tk a).live := by
    funext a; unfold updN; split
    · rename_i e; rw [e]; rfl
    · rfl
  have h2 : (fun a => (updN s.tk t (abT (s.tk t)) a).birth) = fun a => (s.tk a).birth := by
    funext a; unfold updN; split
    · rename_i e; rw [e]; rfl
    · rfl
  have h3 : (fun a => (updN s.tk t (abT (s.tk t)) a).epoch) = updN (fun a => (s.tk a).epoch) t (inc64 (s.tk t).epoch) := by
    funext a; unfold updN; split
    · rfl
    · rfl
  have h4 : (fun a => (updN s.tk t (abT (s.tk t)) a).n) = updN (fun a => (s.tk a).n) t 0 := by
    funext a; unfold updN; split
    · rfl
    · rfl
  rw [h1, h2, h3, h4]; rfl
theorem od_abort : odF (abortP s t) = zapO (odF s) t := by
  funext a c
  unfold odF
  rw [abort_tk]
  unfold zapO updN
  split
  · exact old_n0 rfl
  · rfl
theorem RelP.abort (h : RelP s P) : RelP (abortP s t) (noT P t) :=
  h.del (t := t) (fun b hb => rfl) (fun a ha => by rw [abort_tk, updN_ne ha]; exact ⟨rfl, rfl⟩)
set_option maxHeartbeats 8000000 in
theorem rollBackM_ok (ht : t < 16) (hB : KB N s) (hN : N ≤ 1000000) (hI : INV s) (hrel : RelP s P) (st : MK w0 bm mb s P l w) :
    Calls Tryz.prog 126 #[.pointer (some ⟨bm, 0, none⟩), .int .i64 (t : Nat)] w (Ret fun v w' => v = .tuple #[] ∧ MK w0 bm mb (abortP s t) (noT P t) l w') := by
  obtain ⟨pv, XP, tv, XO, hp, ho, st⟩ := st
  have hnn := hB.nn
  have hplen := hrel.len
  have h12 : ∀ c, odF s t c ≠ none → c < 12 := fun c hc => old_ec (hB.ec t) hc
  obtain ⟨R, hR1, hR2⟩ := mp_at (mb := mb) (D := odF s) ht
  have st : S0 w0 (mpE (mb t) (odF s t) :: (moI bm (mrOf s) pv tv mb :: (XP ++ (XO ++ (R ++ l))))) w := (st.perm ((((hR1.append_right l).append_left XO).append_left XP).cons _) : S0 w0 (moI bm (mrOf s) pv tv mb :: (XP ++ (XO ++ ((mpE (mb t) (odF s t) :: R) ++ l)))) w).perm (by classical exact List.perm_iff_count.2 fun x => by simp only [List.count_append, List.count_cons, List.count_nil, List.append_eq, List.cons_append, List.nil_append, List.append_assoc, Nat.add_zero, Nat.zero_add] <;> ac_rfl)
  refine enter [.pointer (some ⟨bm, 0, none⟩), .int .i64 (t : Nat)] Tryz.func126 rfl Tryz.ntmps126 rfl ?_
  show WC _ _ _ 71 [] [(0, .pointer (some ⟨bm, 0, none⟩)), (1, .int .i64 (t : Nat))] _
  refine WC.seq fun K3192 hK3192 => ?_
  refine WC.seq fun K3193 hK3193 => ?_
  -- region 0
  refine WC.region ?_
  -- R0.0 7 := model.go:315 move
  refine WL.v (by first | exact r_move (v := .pointer _) rfl | exact r_move rfl) rfl rfl rfl ?_
  -- R0.1 8 := model.go:315 move
  refine WL.v (by first | exact r_move (v := .int _ _) rfl | exact r_move rfl) rfl rfl rfl ?_
  -- R0.2 9 := model.go:315 nilCheck
  refine WL.v (by exact r_nilCheck rfl) rfl rfl rfl ?_
  -- R0.3 10 := model.go:315 fieldAddr
  refine WL.v (by exact r_field ty_fld98_11 rfl) rfl rfl rfl ?_
  -- R0.4 11 := model.go:315 indexAddr
  refine WL.v (by exact r_indexA (j := t) ty_ar73 rfl rfl rfl ht) rfl rfl rfl ?_
  -- R0.5 12 := model.go:315 load
  refine WL.v (by exact r_load1 (v := .map (some (mb t))) ty_one72 rfl (c_mbefore (List.mem_cons_of_mem _ List.mem_cons_self) ht (by omega) st)) rfl rfl rfl ?_
  -- R0.6 13 := model.go:315 range
  refine WL.range st ty_mp72 rfl rfl rfl rfl ?_
  intro es clock rb w hE st
  refine WL.fin hK3193 (fun _ _ h => h) ?_
  refine WC.block ?_
  refine WC.loop (ι := (Nat → Nat) × Array Nat) (fun y => [(0, .pointer (some ⟨bm, 0, none⟩)), (1, .int .i64 (t : Nat)), (13, .pointer (some ⟨rb, 0, none⟩))])
    (fun y w' => (∀ c, (seenC es y.2 c → y.1 c = (odF s t c).getD (s.cells c)) ∧ (¬ seenC es y.2 c → y.1 c = s.cells c)) ∧ S0 w0 ((rb, Is (.mapIter (some (mb t)) clock y.2 clock)) :: (mb t, Is (.map es clock)) :: moI bm { mrOf s with cells := y.1 } pv tv mb :: (XP ++ (XO ++ (R ++ l)))) w') (fun y => unseen es y.2) (s.cells, #[]) ⟨fun c => ⟨fun hk => by obtain ⟨x, _, _, hc⟩ := hk; simp at hc, fun _ => rfl⟩, st⟩ ?_ ?_
  · skip
    repeat (first | exact sub_nil _ | refine sub_cons rfl rfl ?_)
  clear st
  rintro ⟨E, seen⟩ w ⟨hsee, st⟩ K1 hK1
  dsimp only at hsee st ⊢
  rcases run_mnext (P := Tryz.prog) (ty := 0) hE st with ⟨hall, hr⟩ | ⟨x, hx, hseen, w1, hr, st1⟩
  rotate_left
  · obtain ⟨c', y, hxk, hxv, hDy⟩ : ∃ c' y : Nat, x.key = .int .i64 (c' : Nat) ∧ x.val = .int .u64 (y : Nat) ∧ odF s t c' = some y := by
      have hv := (hE.holds x hx).2
      unfold gOf at hv
      split at hv
      · rename_i z hk
        unfold odV at hv
        split at hv
        · rename_i hz
          cases hd : odF s t z.toNat with
          | none => rw [hd] at hv; cases hv
          | some y =>
            rw [hd] at hv
            exact ⟨z.toNat, y, by rw [hk]; congr 1; omega, (Option.some.inj hv).symm, hd⟩
        · cases hv
      · cases hv
    have hc12 : c' < 12 := h12 c' (by rw [hDy]; exact fun k => by cases k)
    refine WC.seq fun K3194 hK3194 => ?_
    -- region 1
    refine WC.region ?_
    -- R1.0 14 := model.go:315 next
    refine WL.v (v := .tuple #[.bool true, x.key, x.val]) (w' := w1) (r_next rfl hr) rfl rfl rfl ?_
    have st := st1
    -- R1.1 15 := model.go:315 extract
    refine WL.v (by first | exact r_extract (v := .bool _) rfl rfl | exact r_extract rfl rfl) rfl rfl rfl ?_
    refine WL.fin hK3194 (fun _ _ h => h) ?_
    refine WC.seq fun K3195 hK3195 => ?_
    refine WC.condT rfl rfl ?_
    refine WC.skipF hK3195 (fun _ _ h => h) ?_
    refine WC.block ?_
    refine WC.seq fun K3196 hK3196 => ?_
    -- region 2
    refine WC.region ?_
    -- R2.0 16 := model.go:315 entry
    refine WL.v (by exact r_mentry hE hx st rfl) rfl rfl rfl ?_
    -- R2.1 17 := model.go:315 extract
    refine WL.v (v := .int .i64 (c' : Nat)) (r_extract rfl (congrArg some hxk)) rfl rfl rfl ?_
    -- R2.2 18 := model.go:315 extract
    refine WL.v (v := .int .u64 (y : Nat)) (r_extract rfl (congrArg some hxv)) rfl rfl rfl ?_
    -- R2.3 4 := model.go:315 assign
    refine WL.v (by first | exact r_assign (v := .int _ _) rfl | exact r_assign rfl) rfl rfl rfl ?_
    -- R2.4 5 := model.go:315 assign
    refine WL.v (by first | exact r_assign (v := .int _ _) rfl | exact r_assign rfl) rfl rfl rfl ?_
    refine WL.fin hK3196 (fun _ _ h => h) ?_
    -- region 3
    refine WC.region ?_
    -- R3.0 19 := model.go:316 move
    refine WL.v (by first | exact r_move (v := .pointer _) rfl | exact r_move rfl) rfl rfl rfl ?_
    -- R3.1 20 := model.go:316 move
    refine WL.v (by first | exact r_move (v := .int _ _) rfl | exact r_move rfl) rfl rfl rfl ?_
    -- R3.2 21 := model.go:316 move
    refine WL.v (by first | exact r_move (v := .int _ _) rfl | exact r_move rfl) rfl rfl rfl ?_
    -- R3.3 22 := model.go:316 nilCheck
    refine WL.v (by exact r_nilCheck rfl) rfl rfl rfl ?_
    -- R3.4 23 := model.go:316 fieldAddr
    refine WL.v (by exact r_field ty_fld98_10 rfl) rfl rfl rfl ?_
    -- R3.5 24 := model.go:316 indexAddr
    refine WL.v (by exact r_indexA (j := c') ty_ar48 rfl rfl rfl hc12) rfl rfl rfl ?_
    -- R3.6 None := model.go:316 store
    refine WL.store (v := .int .u64 (y : Nat)) st.front2 ty_one26 rfl rfl rfl (by omega) rfl rfl ?_
    intro w st
    have st := (stE (mw_cells (m := { mrOf s with cells := E }) hc12) st).back2
    refine WL.next hK1 (fun _ _ h => h) (updN E c' y, seen.push x.born) ⟨fun c => ?_, st⟩ (unseen_push hx hseen) (by repeat (first | exact sub_nil _ | refine sub_cons rfl rfl ?_))
    have hps := seenC_push (seen := seen) (d := c) hE.stamped hx hxk
    refine ⟨fun hs => ?_, fun hs => ?_⟩
    · show updN E c' y c = _
      by_cases e : c = c'
      · subst e; rw [updN_same, hDy]; rfl
      · rw [updN_ne e]
        exact (hsee c).1 ((hps.1 hs).resolve_right e)
    · show updN E c' y c = _
      have e : c ≠ c' := fun e => hs (hps.2 (.inr e))
      rw [updN_ne e]
      exact (hsee c).2 fun k => hs (hps.2 (.inl k))
  have hEe : E = rolE (odF s) s.cells t := by
    funext c
    unfold rolE
    cases hd : odF s t c with
    | none =>
      refine (hsee c).2 ?_
      rintro ⟨x, hx, hk, _⟩
      have := (hE.holds x hx).2
      rw [hk] at this
      have : odV (odF s t) (c : Nat) = some x.val := this
      unfold odV at this
      rw [if_pos (by omega), Int.toNat_natCast, hd] at this
      cases this
    | some y =>
      have := (hsee c).1 (by
        obtain ⟨x, hx, hk⟩ := hE.all (.int .i64 (c : Nat)) (.int .u64 (y : Nat)) (by show odV (odF s t) (c : Nat) = _; unfold odV; rw [if_pos (by omega), Int.toNat_natCast, hd]; rfl)
        exact ⟨x, hx, hk, hall x hx⟩)
      rw [hd] at this; exact this
  subst hEe
  refine WC.seq fun K3197 hK3197 => ?_
  -- region 1
  refine WC.region ?_
  -- R1.0 14 := model.go:315 next
  refine WL.v (v := .tuple #[.bool false]) (w' := w) (r_next rfl hr) rfl rfl rfl ?_
  -- R1.1 15 := model.go:315 extract
  refine WL.v (by first | exact r_extract (v := .bool _) rfl rfl | exact r_extract rfl rfl) rfl rfl rfl ?_
  refine WL.fin hK3197 (fun _ _ h => h) ?_
  refine WC.seq fun K3198 hK3198 => ?_
  refine WC.condF rfl rfl ?_
  refine WC.exitF hK3192 (fun _ _ h => h) ?_
  refine WC.seq fun K3199 hK3199 => ?_
  -- region 4
  refine WC.region ?_
  -- R4.0 25 := model.go:318 move
  refine WL.v (by first | exact r_move (v := .pointer _) rfl | exact r_move rfl) rfl rfl rfl ?_
  -- R4.1 26 := model.go:318 move
  refine WL.v (by first | exact r_move (v := .int _ _) rfl | exact r_move rfl) rfl rfl rfl ?_
  -- R4.2 27 := model.go:318 nilCheck
  refine WL.v (by exact r_nilCheck rfl) rfl rfl rfl ?_
  -- R4.3 28 := model.go:318 fieldAddr
  refine WL.v (by exact r_field ty_fld98_11 rfl) rfl rfl rfl ?_
  -- R4.4 29 := model.go:318 indexAddr
  refine WL.v (by exact r_indexA (j := t) ty_ar73 rfl rfl rfl ht) rfl rfl rfl ?_
  -- R4.5 30 := model.go:318 load
  refine WL.v (by exact r_load1 (v := .map (some (mb t))) ty_one72 rfl (c_mbefore (m := { mrOf s with cells := rolE (odF s) s.cells t }) (List.mem_cons_of_mem _ (List.mem_cons_of_mem _ List.mem_cons_self)) ht (by omega) st)) rfl rfl rfl ?_
  -- R4.6 None := model.go:318 call
  have st : S0 w0 (mpE (mb t) (odF s t) :: (moI bm { mrOf s with cells := rolE (odF s) s.cells t } pv tv mb :: (XP ++ (XO ++ (R ++ l))))) _ := st.drop.impc fun o ho => hE.mapV ho
  refine WL.clearI st ty_mp72 rfl rfl rfl ?_
  intro w st
  rw [← odV_none] at st
  have st : S0 w0 (moI bm { mrOf s with cells := rolE (odF s) s.cells t } pv tv mb :: (mpE (mb t) (fun _ => none) :: (XP ++ (XO ++ (R ++ l))))) w := st.front1
  refine WL.fin hK3199 (fun _ _ h => h) ?_
  refine WC.seq fun K3200 hK3200 => ?_
  -- region 5
  refine WC.region ?_
  -- R5.0 31 := model.go:319 move
  refine WL.v (by first | exact r_move (v := .pointer _) rfl | exact r_move rfl) rfl rfl rfl ?_
  -- R5.1 32 := model.go:319 move
  refine WL.v (by first | exact r_move (v := .int _ _) rfl | exact r_move rfl) rfl rfl rfl ?_
  -- R5.2 33 := model.go:319 nilCheck
  refine WL.v (by exact r_nilCheck rfl) rfl rfl rfl ?_
  -- R5.3 34 := model.go:319 fieldAddr
  refine WL.v (by exact r_field ty_fld98_12 rfl) rfl rfl rfl ?_
  -- R5.4 35 := model.go:319 indexAddr
  refine WL.v (by exact r_indexA (j := t) ty_ar76 rfl rfl rfl ht) rfl rfl rfl ?_
  -- R5.5 None := model.go:319 store
  refine WL.store (v := .int .i64 ((0 : Nat) : Int)) st ty_one3 rfl rfl rfl (by omega) rfl rfl ?_
  intro w st
  have st : S0 w0 (moI bm { mrOf s with cells := rolE (odF s) s.cells t, wr := updN (mrOf s).wr t 0 } pv tv mb :: (mpE (mb t) (fun _ => none) :: (XP ++ (XO ++ (R ++ l))))) w := stE (mw_wr (m := { mrOf s with cells := rolE (odF s) s.cells t }) ht) st
  refine WL.fin hK3200 (fun _ _ h => h) ?_
  refine WC.cut (ι := Value × List HI) (fun _ => [(0, .pointer (some ⟨bm, 0, none⟩)), (1, .int .i64 (t : Nat))]) (fun y w' => PL0 y.1 (noT P t) y.2 ∧ S0 w0 (moI bm { mrOf s with cells := rolE (odF s) s.cells t, wr := updN (mrOf s).wr t 0 } y.1 tv mb :: (mpE (mb t) (fun _ => none) :: (y.2 ++ (XO ++ (R ++ l))))) w') ?_ ?_
  rotate_left
  · intro KC hKC
    have hXs : XP ⊆ moI bm { mrOf s with cells := rolE (odF s) s.cells t, wr := updN (mrOf s).wr t 0 } pv tv mb :: (mpE (mb t) (fun _ => none) :: (XP ++ (XO ++ (R ++ l)))) := fun x hx => List.mem_cons_of_mem _ (List.mem_cons_of_mem _ (List.mem_append_left _ hx))
    rcases hw : (s.tk t).waiting with _ | _
    · have hfree := hrel.free hI hw
      have e : noT P t = P := noT_id hfree
      refine WC.seq fun K3201 hK3201 => ?_
      -- region 6
      refine WC.region ?_
      -- R6.0 36 := model.go:320 move
      refine WL.v (by first | exact r_move (v := .pointer _) rfl | exact r_move rfl) rfl rfl rfl ?_
      -- R6.1 37 := model.go:320 move
      refine WL.v (by first | exact r_move (v := .int _ _) rfl | exact r_move rfl) rfl rfl rfl ?_
      -- R6.2 38 := model.go:320 call
      refine WL.call (r_call ty_call98 rfl) rfl rfl rfl (pl_none (t := t) hfree List.mem_cons_self hp hXs st) ?_
      rintro _ w ⟨rfl, st⟩
      -- R6.3 6 := model.go:320 assign
      refine WL.v (by first | exact r_assign (v := .int _ _) rfl | exact r_assign rfl) rfl rfl rfl ?_
      refine WL.fin hK3201 (fun _ _ h => h) ?_
      refine WC.seq fun K3202 hK3202 => ?_
      -- region 7
      refine WC.region ?_
      -- R7.0 39 := model.go:320 move
      refine WL.v (by first | exact r_move (v := .int _ _) rfl | exact r_move rfl) rfl rfl rfl ?_
      -- R7.1 40 := model.go:320 binOp
      refine WL.v (by first | exact r_geq rfl rfl (decide_eq_true (by omega)) | exact r_geq rfl rfl (decide_eq_false (by omega)) | exact r_geq rfl rfl rfl) rfl rfl rfl ?_
      refine WL.fin hK3202 (fun _ _ h => h) ?_
      refine WC.condF rfl rfl ?_
      refine WC.skipJ hKC (fun _ _ h => h) (pv, XP) ⟨by rw [e]; exact hp, st⟩ (by repeat (first | exact sub_nil _ | refine sub_cons rfl rfl ?_))
    · obtain ⟨i, p, hip, hpt⟩ := hrel.busy hI ht hw
      have hil : i < P.length := (List.getElem?_eq_some_iff.1 hip).1
      have heq := erase_noT hrel.u hip
      rw [hpt] at heq
      obtain ⟨a, c, b, hpv, hc1, hc2, ha, hcell⟩ := hp.form
      refine WC.seq fun K3203 hK3203 => ?_
      -- region 6
      refine WC.region ?_
      -- R6.0 36 := model.go:320 move
      refine WL.v (by first | exact r_move (v := .pointer _) rfl | exact r_move rfl) rfl rfl rfl ?_
      -- R6.1 37 := model.go:320 move
      refine WL.v (by first | exact r_move (v := .int _ _) rfl | exact r_move rfl) rfl rfl rfl ?_
      -- R6.2 38 := model.go:320 call
      refine WL.call (r_call ty_call98 rfl) rfl rfl rfl (pl_some hrel.u hip hpt List.mem_cons_self hp hXs st) ?_
      rintro _ w ⟨rfl, st⟩
      -- R6.3 6 := model.go:320 assign
      refine WL.v (by first | exact r_assign (v := .int _ _) rfl | exact r_assign rfl) rfl rfl rfl ?_
      refine WL.fin hK3203 (fun _ _ h => h) ?_
      refine WC.seq fun K3204 hK3204 => ?_
      -- region 7
      refine WC.region ?_
      -- R7.0 39 := model.go:320 move
      refine WL.v (by first | exact r_move (v := .int _ _) rfl | exact r_move rfl) rfl rfl rfl ?_
      -- R7.1 40 := model.go:320 binOp
      refine WL.v (by exact r_geq rfl rfl (decide_eq_true (by omega))) rfl rfl rfl ?_
      refine WL.fin hK3204 (fun _ _ h => h) ?_
      refine WC.condT rfl rfl ?_
      -- region 8
      refine WC.region ?_
      -- R8.0 41 := model.go:321 move
      refine WL.v (by first | exact r_move (v := .pointer _) rfl | exact r_move rfl) rfl rfl rfl ?_
      -- R8.1 42 := model.go:321 move
      refine WL.v (by first | exact r_move (v := .pointer _) rfl | exact r_move rfl) rfl rfl rfl ?_
      -- R8.2 43 := model.go:321 nilCheck
      refine WL.v (by exact r_nilCheck rfl) rfl rfl rfl ?_
      -- R8.3 44 := model.go:321 fieldAddr
      refine WL.v (by exact r_field ty_fld98_9 rfl) rfl rfl rfl ?_
      -- R8.4 45 := model.go:321 load
      refine WL.v (by exact r_load1 (v := .slice a P.length c) ty_one96 rfl (by rw [← hpv]; exact st.c0 (by decide))) rfl rfl rfl ?_
      -- R8.5 46 := model.go:321 move
      refine WL.v (by first | exact r_move (v := .int _ _) rfl | exact r_move rfl) rfl rfl rfl ?_
      -- R8.6 47 := model.go:321 move
      refine WL.v (by first | exact r_move (v := .int _ _) rfl | exact r_move rfl) rfl rfl rfl ?_
      -- R8.7 48 := model.go:321 binOp
      refine WL.v (by exact r_add (r := ((i + 1 : Nat) : Int)) rfl rfl ((wi64 (by omega) (by omega)).trans (by omega))) rfl rfl rfl ?_
      -- R8.8 49 := model.go:321 call
      have st : S0 w0 (XP ++ (moI bm { mrOf s with cells := rolE (odF s) s.cells t, wr := updN (mrOf s).wr t 0 } pv tv mb :: (mpE (mb t) (fun _ => none) :: (XO ++ (R ++ l))))) w := st.perm (by classical exact List.perm_iff_count.2 fun x => by simp only [List.count_append, List.count_cons, List.count_nil, List.append_eq, List.cons_append, List.nil_append, List.append_assoc, Nat.add_zero, Nat.zero_add] <;> ac_rfl)
      refine WL.call (r_call ty_call121 rfl) rfl rfl rfl (delP_ok (v := .slice a P.length c) (P := P) (i := i) (by rw [← hpv]; exact hp) hil (by omega) st) ?_
      rintro _ w ⟨X', hp', st⟩
      rw [heq] at hp'
      obtain ⟨a', c', b', rfl, -, -, -, -⟩ := hp'.form
      have st : S0 w0 (moI bm { mrOf s with cells := rolE (odF s) s.cells t, wr := updN (mrOf s).wr t 0 } pv tv mb :: (mpE (mb t) (fun _ => none) :: (X' ++ (XO ++ (R ++ l))))) w := st.perm (by classical exact List.perm_iff_count.2 fun x => by simp only [List.count_append, List.count_cons, List.count_nil, List.append_eq, List.cons_append, List.nil_append, List.append_assoc, Nat.add_zero, Nat.zero_add] <;> ac_rfl)
      -- R8.9 50 := model.go:321 nilCheck
      refine WL.v (by exact r_nilCheck rfl) rfl rfl rfl ?_
      -- R8.10 51 := model.go:321 fieldAddr
      refine WL.v (by exact r_field ty_fld98_9 rfl) rfl rfl rfl ?_
      -- R8.11 None := model.go:321 store
      refine WL.store (v := .slice a' (noT P t).length c') st ty_one96 rfl rfl rfl (by decide) rfl rfl ?_
      intro w st
      have st := stE mw_pend st
      refine WL.join hKC (fun _ _ h => h) (_, X') ⟨hp', st⟩ (by repeat (first | exact sub_nil _ | refine sub_cons rfl rfl ?_))
  clear st
  rintro ⟨pv', X'⟩ w ⟨hp', st⟩
  dsimp only at hp' st ⊢
  refine WC.seq fun K3205 hK3205 => ?_
  -- region 9
  refine WC.region ?_
  -- R9.0 52 := model.go:323 move
  refine WL.v (by first | exact r_move (v := .pointer _) rfl | exact r_move rfl) rfl rfl rfl ?_
  -- R9.1 53 := model.go:323 move
  refine WL.v (by first | exact r_move (v := .int _ _) rfl | exact r_move rfl) rfl rfl rfl ?_
  -- R9.2 54 := model.go:323 build
  refine WL.v (by exact r_buildN (n := 20) (z := fun _ => .int .i64 0) (v := fun _ => .int .i64 0) (ps := []) ty_pl44 ty_zeroN44 rfl fill_nil) rfl rfl rfl ?_
  -- R9.3 55 := model.go:323 nilCheck
  refine WL.v (by exact r_nilCheck rfl) rfl rfl rfl ?_
  -- R9.4 56 := model.go:323 fieldAddr
  refine WL.v (by exact r_field ty_fld98_7 rfl) rfl rfl rfl ?_
  -- R9.5 57 := model.go:323 indexAddr
  refine WL.v (by exact r_indexA (j := t) ty_ar45 rfl rfl rfl ht) rfl rfl rfl ?_
  -- R9.6 None := model.go:323 store
  refine WL.storeN (v := fun _ => .int .i64 0) st ty_agg44 rfl rfl (fun _ _ => rfl) (by omega) rfl rfl ?_
  intro w st
  have st := stE (mz_held (m := { mrOf s with cells := rolE (odF s) s.cells t, wr := updN (mrOf s).wr t 0 }) ht) st
  refine WL.fin hK3205 (fun _ _ h => h) ?_
  refine WC.seq fun K3206 hK3206 => ?_
  -- region 10
  refine WC.region ?_
  -- R10.0 58 := model.go:324 move
  refine WL.v (by first | exact r_move (v := .pointer _) rfl | exact r_move rfl) rfl rfl rfl ?_
  -- R10.1 59 := model.go:324 move
  refine WL.v (by first | exact r_move (v := .int _ _) rfl | exact r_move rfl) rfl rfl rfl ?_
  -- R10.2 60 := model.go:324 call
  have mh : MW w0 bm mb { mrOf s with cells := rolE (odF s) s.cells t, wr := updN (mrOf s).wr t 0, held := zapRow s.held t } (zapO (odF s) t) (noT P t) s.told l w := ⟨pv', X', tv, XO, hp', ho, ((st.perm (by classical exact List.perm_iff_count.2 fun x => by simp only [List.count_append, List.count_cons, List.count_nil, List.append_eq, List.cons_append, List.nil_append, List.append_assoc, Nat.add_zero, Nat.zero_add] <;> ac_rfl) : S0 w0 (moI bm _ pv' tv mb :: (X' ++ (XO ++ ((mpE (mb t) (fun _ => none) :: R) ++ l)))) w).perm (((((hR2 fun _ => none).symm.append_right l).append_left XO).append_left X').cons _))⟩
  refine WL.call (r_call ty_call122 rfl) rfl rfl rfl (tell_ok (code := 3) ht (by omega) mh) ?_
  rintro _ w ⟨rfl, mh⟩
  obtain ⟨pv4, XP4, tv4, XO4, hp4, ho4, st⟩ := mh
  refine WL.fin hK3206 (fun _ _ h => h) ?_
  -- region 11 (draws)
  refine WC.tailS 10 st ty_mixed (by kernel_rfl) fun w st Kq hKq => ?_
  -- R11.0 61 := model.go:325 move
  refine SL.v (by first | exact r_move (v := .pointer _) rfl | exact r_move rfl) rfl rfl rfl ?_
  -- R11.1 62 := model.go:325 move
  refine SL.v (by first | exact r_move (v := .int _ _) rfl | exact r_move rfl) rfl rfl rfl ?_
  -- R11.2 63 := model.go:325 nilCheck
  refine SL.v (by exact r_nilCheck rfl) rfl rfl rfl ?_
  -- R11.3 64 := model.go:325 fieldAddr
  refine SL.v (by exact r_field ty_fld98_6 rfl) rfl rfl rfl ?_
  -- R11.4 65 := model.go:325 indexAddr
  refine SL.v (by exact r_indexA (j := t) ty_ar81 rfl rfl rfl ht) rfl rfl rfl ?_
  -- R11.5 66 := model.go:325 load
  refine SL.v (by exact r_load1 (v := .int .u64 ((s.tk t).epoch : Nat)) ty_one26 rfl (c_mepoch (m := { mrOf s with cells := rolE (odF s) s.cells t, wr := updN (mrOf s).wr t 0, held := zapRow s.held t }) List.mem_cons_self ht (by omega) st)) rfl rfl rfl ?_
  -- R11.6 67 := model.go:325 binOp
  refine SL.v (by exact r_add (r := ((inc64 (s.tk t).epoch : Nat) : Int)) rfl rfl (by show (((s.tk t).epoch : Nat) + 1 : Int) % 18446744073709551616 = (((s.tk t).epoch + 1) % 18446744073709551616 : Nat); omega)) rfl rfl rfl ?_
  -- R11.7 68 := model.go:325 nilCheck
  refine SL.v (by exact r_nilCheck rfl) rfl rfl rfl ?_
  -- R11.8 69 := model.go:325 fieldAddr
  refine SL.v (by exact r_field ty_fld98_6 rfl) rfl rfl rfl ?_
  -- R11.9 70 := model.go:325 indexAddr
  refine SL.v (by exact r_indexA (j := t) ty_ar81 rfl rfl rfl ht) rfl rfl rfl ?_
  refine SL.fin hKq ?_
  -- R11.10 None := model.go:325 store
  refine WL.store (v := .int .u64 ((inc64 (s.tk t).epoch : Nat) : Int)) st ty_one26 rfl rfl rfl (by omega) rfl rfl ?_
  intro w st
  have st := stE (mw_epoch (m := { mrOf s with cells := rolE (odF s) s.cells t, wr := updN (mrOf s).wr t 0, held := zapRow s.held t }) ht) st
  refine WL.end0 Tryz.results126 (fun _ _ h => h) ?_
  refine ⟨_, rfl, rfl, ?_⟩
  unfold MK
  rw [mr_abort, od_abort, abort_told]
  exact ⟨pv4, XP4, tv4, XO4, hp4, ho4, st⟩
end Go.Proofs.Qxb6500834aGreatDoor

