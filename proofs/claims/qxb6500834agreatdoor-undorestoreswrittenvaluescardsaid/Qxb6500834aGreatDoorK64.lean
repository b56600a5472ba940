import Derived.Test.Qxb6500834aGreatDoorK63
import Derived.Test.Qxb6500834aGreatDoorK56
set_option linter.unusedVariables false
set_option linter.unusedSimpArgs false
set_option maxRecDepth 20000
namespace Go.Proofs.Qxb6500834aGreatDoor
open Go.RowKit Go.E1 Go.Kern
theorem ty_ar73 : arT Tryz.prog 73 = some (16, 72, 1) := by kernel_rfl
theorem ty_call46 : callT Tryz.prog 46 = true := by kernel_rfl
theorem ty_kb74 : Go.E1.KB Tryz.prog 74 (keyGood Tryz.prog 74) := Go.E1.KB.of_keyed (Maps.int_keyed Tryz.underlying74)
theorem ty_mp72 : mpT Tryz.prog 72 = some (74, 26) := by kernel_rfl
theorem ty_one72 : oneT Tryz.prog 72 = true := by kernel_rfl
theorem ty_z126 : zero1 Tryz.prog 26 = some (.int .u64 0) := by kernel_rfl
theorem ty_zeroN48 : zeroL Tryz.prog 48 = some ((List.range 12).map fun _ => .int .u64 0) := by kernel_rfl
theorem ty_zeroN73 : zeroL Tryz.prog 73 = some ((List.range 16).map fun _ => .map none) := by kernel_rfl
variable {w0 : World} {l X : List HI} {w : World} {s s' s0 : KS} {t r N n : Nat} {qv qv' : Nat → Value}

/-! Law: undo restores written values. -/
theorem no_abort {o : Kern.Op} (hB : KB N s) (hi : INV s) (h0 : s.told = []) (hk : 7 ≤ o.kind ∧ o.kind ≤ 9) : ∀ t, abB (stepP s o).1 t = false := by
  have key : ∀ {s' : KS} {c k : Int}, StepR s o s' c k → ∀ t, abB s' t = false := by
    intro s' c k hR
    cases hR using StepR.elim with
    | refuse c h0' h1 h3 => exact fun t => abB_nil h0
    | mode hk m hm ha => omega
    | born hk t hs => omega
    | declare hk t r u hA hB hC hc hr hu hh => omega
    | take hk t r u hA hB hC h' hcl W hW ha hat => omega
    | pend hk t r u tim hA hB' hC ht0 htim h' hcl W hW hd' ha0 ha hat => omega
    | die hk t r u hA hB hC h' hd' ha0 => omega
    | release hk t r hA hB hc hr hn => omega
    | write hk t c hA hB hc hc12 hh hn => exact fun t' => abB_nil (s := { s with tk := updN s.tk t (pushP (s.tk t) c (s.cells c)), cells := updN s.cells c o.X }) h0
    | commit hk t hA hc => exact fun t' => abB_nil (s := { s with tk := updN s.tk t { s.tk t with n := 0 } }) h0
    | exit hk t hA hc => exact fun t' => by rw [GR.wake.a]; exact abB_nil (s := exitS s t) h0
    | tick hk h16 => omega
    | detect hk v hv hv16 => omega
  exact key (step_R hB hi)
theorem undo_cells' {o : Kern.Op} (hB : KB N s) (hi : INV s) (h0 : s.told = []) : (stepP s o).1.cells = (tasksP (toldP (stepP s o).1.told 3)).foldl (rolE (odM s o (stepP s o).2.1)) (cellM s o (stepP s o).2.1) := by
  by_cases hk : 7 ≤ o.kind ∧ o.kind ≤ 9
  · have h1 := no_abort (o := o) hB hi h0 hk
    have h2 : tasksP (toldP (stepP s o).1.told 3) = [] := tasks_of (W := []) ⟨0, by decide⟩ fun t _ => h1 t
    have := undo_cells (o := o) hB hi h0
    rw [h2] at this ⊢
    exact this
  · have e : odM s o (stepP s o).2.1 = odF s := by unfold odM; rw [if_neg (fun k => hk (by omega)), if_neg (fun k => hk (by omega))]
    rw [e]
    exact undo_cells hB hi h0
theorem old_ec {T : TK} {c : Nat} (h : ∀ i, T.ec i < 12) (hn : oldP T c ≠ none) : c < 12 := by
  have key : ∀ n, oldG T.ec T.eo n c ≠ none → c < 12 := by
    intro n
    induction n with
    | zero => intro k; exact absurd rfl k
    | succ n ih =>
      intro k
      have e0 : oldG T.ec T.eo (n + 1) c = match oldG T.ec T.eo n c with | some v => some v | none => if T.ec n = c then some (T.eo n) else none := rfl
      rw [e0] at k
      cases hx : oldG T.ec T.eo n c with
      | some v => exact ih (by rw [hx]; exact fun k => by cases k)
      | none =>
        rw [hx] at k
        by_cases e : T.ec n = c
        · rw [← e]; exact h n
        · have k : (if T.ec n = c then some (T.eo n) else none) ≠ none := k
          rw [if_neg e] at k; exact absurd rfl k
  exact key _ hn
def odV (f : Nat → Option Nat) : Int → Option Value := fun x => if 0 ≤ x then (f x.toNat).map fun v => .int .u64 (v : Nat) else none
abbrev mpE (b : Nat) (f : Nat → Option Nat) : HI := (b, MapV (keyGood Go.Proofs.Tryz.prog 74) (gOf (odV f)))
abbrev mpI (mb : Nat → Nat) (D : Nat → Nat → Option Nat) : List HI := gather 16 fun t => [mpE (mb t) (D t)]
theorem odV_none : odV (fun _ => none) = fun _ => none := by funext x; unfold odV; split <;> rfl
theorem odV_set {f : Nat → Option Nat} {c v : Nat} : setN (odV f) (c : Nat) (.int .u64 (v : Nat)) = odV (updN f c (some v)) := by
  funext x
  unfold setN odV updN
  by_cases h : 0 ≤ x
  · by_cases e : x = (c : Int)
    · rw [if_pos e, if_pos h, if_pos (by omega)]; rfl
    · rw [if_neg e, if_pos h, if_pos h, if_neg (by omega)]
  · rw [if_neg (by omega), if_neg h, if_neg h]
theorem mp_at {mb : Nat → Nat} {D : Nat → Nat → Option Nat} (ht : t < 16) : ∃ R, (mpI mb D).Perm (mpE (mb t) (D t) :: R) ∧ ∀ f, (mpI mb (updN D t f)).Perm (mpE (mb t) f :: R) := by
  obtain ⟨R, hR⟩ := gather_at ht (fun t => [mpE (mb t) (D t)])
  refine ⟨R, hR _ fun _ _ => rfl, fun f => ?_⟩
  have := hR (fun a => [mpE (mb a) (updN D t f a)]) fun j hj => by rw [updN_ne hj]
  have e : updN D t f t = f := updN_same
  rw [e] at this
  exact this
theorem goodCell {c : Nat} (h : c < 1000) : keyGood Go.Proofs.Tryz.prog 74 (.int .i64 (c : Nat)) :=
  ⟨.int .i64 (c : Nat), Go.Maps.keyOf_int_mk Go.Proofs.Tryz.underlying74 (by simp only [Lit.wf, Bool.and_eq_true, decide_eq_true_eq]; exact ⟨by show (-9223372036854775808 : Int) ≤ _; omega, by show _ ≤ (9223372036854775807 : Int); omega⟩)⟩
def zapO (D : Nat → Nat → Option Nat) (v : Nat) : Nat → Nat → Option Nat := updN D v fun _ => none
theorem born_inj {es : Array MapEntry} {x y : MapEntry} {clock : Nat} (hs : Go.MapKept.Stamped es clock) (hx : x ∈ es.toList) (hy : y ∈ es.toList) (h : x.born = y.born) : x = y := by
  have a := find_born x es.toList hs.2.1 hx
  have b := find_born y es.toList hs.2.1 hy
  rw [h, b] at a
  exact (Option.some.inj a).symm
def seenC (es : Array MapEntry) (seen : Array Nat) (s : Nat) : Prop := ∃ x, x ∈ es.toList ∧ x.key = .int .i64 (s : Nat) ∧ seen.contains x.born = true
theorem seenC_push {es : Array MapEntry} {clock : Nat} {seen : Array Nat} {x : MapEntry} {c d : Nat} (hs : Go.MapKept.Stamped es clock) (hx : x ∈ es.toList) (hk : x.key = .int .i64 (c : Nat)) : seenC es (seen.push x.born) d ↔ seenC es seen d ∨ d = c := by
  have hcont : ∀ y : MapEntry, (seen.push x.born).contains y.born = true ↔ (seen.contains y.born = true ∨ y.born = x.born) := fun y => by
    simp only [Array.contains_iff_mem, Array.mem_push]
  constructor
  · rintro ⟨y, hy, hyk, hc⟩
    rcases (hcont y).1 hc with hc | hc
    · exact .inl ⟨y, hy, hyk, hc⟩
    · have := born_inj hs hy hx hc
      subst this
      rw [hk] at hyk
      have : (c : Int) = (d : Int) := by injection hyk
      exact .inr (by omega)
  · rintro (⟨y, hy, hyk, hc⟩ | rfl)
    · exact ⟨y, hy, hyk, (hcont y).2 (.inl hc)⟩
    · exact ⟨x, hx, hk, (hcont x).2 (.inr rfl)⟩
set_option maxHeartbeats 4000000 in
theorem undo1_ok {o : Kern.Op} {bB bA : Nat} {code task : Int} {ov : Value} {ans : List (Nat × Nat × Nat)} {b0 : Nat} {mb : Nat → Nat} (hD : gD w0) (h16 : ∀ a, a ∈ ans → a.1 < 16) (hw0 : code = 0 → o.kind = 7 → cfB s o = true ∧ (0 ≤ o.B ∧ o.B < 12)) (h89 : code = 0 → o.kind = 8 ∨ o.kind = 9 → cfB s o = true) (hn : ∀ t c, odF s' t c = if (toldP ans 3).testBit t then none else odM s o code t c) (hcel : s'.cells = (tasksP (toldP ans 3)).foldl (rolE (odM s o code)) (cellM s o code)) (h12 : ∀ t c, odM s o code t c ≠ none → c < 12) (hck : CK s s' ans bB bA qv qv' ov l) (st : S0 w0 ((b0, Row 73 16 (fun t => .map (some (mb t)))) :: (mpI mb (odF s) ++ l)) w) :
    Calls Tryz.prog 46 #[.agg (stepL o bB bA code task ov).toArray, .pointer (some ⟨b0, 0, none⟩)] w (Ret fun v w' => v = .bool true ∧ S0 w0 ((b0, Row 73 16 (fun t => .map (some (mb t)))) :: (mpI mb (odF s') ++ l)) w') := by
  obtain ⟨XO, ho, hXO⟩ := hck.a
  obtain ⟨a, c, b, rfl, hc1, hc2, ha, hcell⟩ := ho.form
  obtain ⟨fs, hfs⟩ : ∃ fs : Nat → Value, fs = nth (stepL o bB bA code task (.slice a ans.length c)) := ⟨_, rfl⟩
  have f0 : fs 0 = .int .u8 (o.kind : Nat) := by rw [hfs]; rfl
  have f1 : fs 1 = .int .i64 o.A := by rw [hfs]; rfl
  have f2 : fs 2 = .int .i64 o.B := by rw [hfs]; rfl
  have f3 : fs 3 = .int .i64 o.C := by rw [hfs]; rfl
  have f4 : fs 4 = .int .u64 (o.X : Nat) := by rw [hfs]; rfl
  have f5 : fs 5 = .pointer (some ⟨bB, 0, none⟩) := by rw [hfs]; rfl
  have f6 : fs 6 = .pointer (some ⟨bA, 0, none⟩) := by rw [hfs]; rfl
  have f7 : fs 7 = .int .i64 code := by rw [hfs]; rfl
  have f8 : fs 8 = .int .i64 task := by rw [hfs]; rfl
  have f9 : fs 9 = .slice a ans.length c := by rw [hfs]; rfl
  have hckA := fun (a b c : HI) (L : List HI) => hck.mono (l' := a :: b :: c :: (L ++ l)) fun x hx => List.mem_cons_of_mem _ (List.mem_cons_of_mem _ (List.mem_cons_of_mem _ (List.mem_append_right _ hx)))
  have hckB := fun (a b : HI) (L : List HI) => hck.mono (l' := a :: b :: (L ++ l)) fun x hx => List.mem_cons_of_mem _ (List.mem_cons_of_mem _ (List.mem_append_right _ hx))
  refine enter [.agg (stepL o bB bA code task (.slice a ans.length c)).toArray, .pointer (some ⟨b0, 0, none⟩)] Tryz.func46 rfl Tryz.ntmps46 rfl ?_
  show WC _ _ _ 99 [] [(0, .agg (stepL o bB bA code task (.slice a ans.length c)).toArray), (1, .pointer (some ⟨b0, 0, none⟩))] _
  refine WC.seq fun K2435 hK2435 => ?_
  -- region 0
  refine WC.region ?_
  -- R0.0 2 := law.go:114 box
  refine WL.box (m := 10) (vs := stepL o bB bA code task (.slice a ans.length c)) st rfl rfl rfl rfl rfl rfl ?_
  intro b2 w st
  have st : S0 w0 ((b2, Row 36 10 fs) :: ((b0, Row 73 16 (fun t => .map (some (mb t)))) :: (mpI mb (odF s) ++ l))) w := by rw [hfs]; exact st
  -- R0.1 3 := law.go:114 assign
  refine WL.v (by first | exact r_assign (v := .bool _) rfl | exact r_assign rfl) rfl rfl rfl ?_
  refine WL.fin hK2435 (fun _ _ h => h) ?_
  refine WC.seq fun K2436 hK2436 => ?_
  -- region 1
  refine WC.region ?_
  -- R1.0 14 := law.go:115 fieldAddr
  refine WL.v (by exact r_field ty_fld36_1 rfl) rfl rfl rfl ?_
  -- R1.1 15 := law.go:115 load
  refine WL.v (by exact r_load1 (v := .pointer (some ⟨bB, 0, none⟩)) ty_one29 rfl (by rw [← f5]; exact st.c0 (by decide))) rfl rfl rfl ?_
  -- R1.2 16 := law.go:115 nilCheck
  refine WL.v (by exact r_nilCheck rfl) rfl rfl rfl ?_
  -- R1.3 17 := law.go:115 fieldAddr
  refine WL.v (by exact r_field ty_fld50_7 rfl) rfl rfl rfl ?_
  -- R1.4 18 := law.go:115 load
  refine WL.v (by exact r_loadN (f := uF s.cells) ty_agg48 rfl (fun k hk => c_s (hckB _ _ _).B (by omega) (by rw [show 0 + 759 + k = 759 + k by omega]; exact sF_w hk) st)) rfl rfl rfl ?_
  -- R1.5 4 := law.go:115 alloc
  refine WL.allocN (m := 12) st ty_zeroN48 rfl rfl ?_
  intro b4 w st
  -- R1.6 None := law.go:115 store
  refine WL.storeN (v := uF s.cells) st ty_agg48 rfl rfl (fun _ _ => rfl) (by decide) rfl rfl ?_
  intro w st
  have st : S0 w0 ((b4, Row 48 12 (uF (s.cells))) :: (b2, Row 36 10 fs) :: (b0, Row 73 16 (fun t => .map (some (mb t)))) :: (mpI mb (odF s) ++ l)) w := stE (fun k hk => by rw [upds_eq, if_pos (by omega), Nat.sub_zero]) st
  refine WL.fin hK2436 (fun _ _ h => h) ?_
  refine WC.seq fun K2437 hK2437 => ?_
  -- region 2
  refine WC.region ?_
  -- R2.0 20 := law.go:116 load
  refine WL.v (by exact r_loadL (vs := stepL o bB bA code task (.slice a ans.length c)) ty_agg36 rfl ⟨(st.c1 (by decide)).trans (congrArg some f0), (st.c1 (by decide)).trans (congrArg some f1), (st.c1 (by decide)).trans (congrArg some f2), (st.c1 (by decide)).trans (congrArg some f3), (st.c1 (by decide)).trans (congrArg some f4), (st.c1 (by decide)).trans (congrArg some f5), (st.c1 (by decide)).trans (congrArg some f6), (st.c1 (by decide)).trans (congrArg some f7), (st.c1 (by decide)).trans (congrArg some f8), (st.c1 (by decide)).trans (congrArg some f9), trivial⟩) rfl rfl rfl ?_
  -- R2.1 21 := law.go:116 call
  refine WL.call (r_call ty_call33 rfl) rfl rfl rfl (callerL_ok (o := o) (hckA _ _ _ _).B rfl st) ?_
  rintro _ w ⟨rfl, st⟩
  -- R2.2 19 := law.go:116 move
  refine WL.v (by first | exact r_move (v := .tuple _) rfl | exact r_move rfl) rfl rfl rfl ?_
  -- R2.3 22 := law.go:116 extract
  refine WL.v (by first | exact r_extract (v := .int _ _) rfl rfl | exact r_extract rfl rfl) rfl rfl rfl ?_
  -- R2.4 23 := law.go:116 extract
  refine WL.v (by first | exact r_extract (v := .bool _) rfl rfl | exact r_extract rfl rfl) rfl rfl rfl ?_
  -- R2.5 5 := law.go:116 assign
  refine WL.v (by first | exact r_assign (v := .int _ _) rfl | exact r_assign rfl) rfl rfl rfl ?_
  -- R2.6 6 := law.go:116 assign
  refine WL.v (by first | exact r_assign (v := .bool _) rfl | exact r_assign rfl) rfl rfl rfl ?_
  refine WL.fin hK2437 (fun _ _ h => h) ?_
  obtain ⟨D1, hD1⟩ : ∃ D1, D1 = odM s o code := ⟨_, rfl⟩
  obtain ⟨E0, hE0⟩ : ∃ E0, E0 = cellM s o code := ⟨_, rfl⟩
  rw [← hD1] at hn hcel h12
  rw [← hE0] at hcel
  refine WC.cut (ι := Unit) (fun _ => [(1, .pointer (some ⟨b0, 0, none⟩)), (2, .pointer (some ⟨b2, 0, none⟩)), (4, .pointer (some ⟨b4, 0, none⟩))]) (fun _ w' => S0 w0 ((b4, Row 48 12 (uF (E0))) :: (b2, Row 36 10 fs) :: (b0, Row 73 16 (fun t => .map (some (mb t)))) :: (mpI mb D1 ++ l)) w') ?_ ?_
  rotate_left
  · intro KC hKC
    by_cases hc0 : code = 0
    rotate_left
    · have e1 : D1 = odF s := by rw [hD1]; unfold odM; rw [if_neg (fun k => hc0 k.1), if_neg (fun k => hc0 k.1)]
      have e2 : E0 = s.cells := by rw [hE0]; exact if_neg (fun k => hc0 k.1)
      refine WC.seq fun K2438 hK2438 => ?_
      -- region 3
      refine WC.region ?_
      -- R3.0 24 := law.go:117 fieldAddr
      refine WL.v (by exact r_field ty_fld36_3 rfl) rfl rfl rfl ?_
      -- R3.1 25 := law.go:117 fieldAddr
      refine WL.v (by exact r_field ty_fld34_0 rfl) rfl rfl rfl ?_
      -- R3.2 26 := law.go:117 load
      refine WL.v (by exact r_load1 (v := .int .i64 code) ty_one30 rfl (by rw [← f7]; exact st.c1 (by decide))) rfl rfl rfl ?_
      -- R3.3 27 := law.go:117 binOp
      refine WL.v (by first | exact r_eql rfl rfl (decide_eq_true (by omega)) | exact r_eql rfl rfl (decide_eq_false (by omega)) | exact r_eql rfl rfl rfl) rfl rfl rfl ?_
      refine WL.fin hK2438 (fun _ _ h => h) ?_
      refine WC.condF rfl rfl ?_
      refine WC.skipJ hKC (fun _ _ h => h) () (by rw [e1, e2]; exact st) (by repeat (first | exact sub_nil _ | refine sub_cons rfl rfl ?_))
    by_cases hk7 : o.kind = 7
    · obtain ⟨hF, hb⟩ := hw0 hc0 hk7
      obtain ⟨t, ht16, hAt, hT, hl, hwt⟩ := cf_T hF
      obtain ⟨c', hc'⟩ : ∃ c : Nat, o.B = (c : Nat) := ⟨o.B.toNat, by omega⟩
      have hc12 : c' < 12 := by omega
      have e2 : E0 = updN s.cells c' o.X := by rw [hE0]; unfold cellM; rw [if_pos ⟨hc0, hk7⟩, hc']; rfl
      obtain ⟨R, hR1, hR2⟩ := mp_at (mb := mb) (D := odF s) ht16
      have hmem : mpE (mb t) (odF s t) ∈ mpI mb (odF s) := hR1.mem_iff.2 List.mem_cons_self
      have hmem2 := fun (a b c : HI) => List.mem_cons_of_mem a (List.mem_cons_of_mem b (List.mem_cons_of_mem c (List.mem_append_left l hmem)))
      rcases hod : odF s t c' with _ | x
      · have e1 : D1 = updN (odF s) t (updN (odF s t) c' (some (s.cells c'))) := by
          rw [hD1]
          unfold odM
          rw [if_pos ⟨hc0, hk7⟩, hAt, hc', Int.toNat_natCast, Int.toNat_natCast]
          funext a b
          unfold updN
          by_cases ha : a = t
          · subst ha
            rw [if_pos rfl]
            by_cases hb : b = c'
            · subst hb; rw [if_pos ⟨rfl, rfl, hod⟩, if_pos rfl]
            · rw [if_neg (fun k => hb k.2.1), if_neg hb]
          · rw [if_neg (fun k => ha k.1), if_neg ha]
        refine WC.seq fun K2439 hK2439 => ?_
        -- region 3
        refine WC.region ?_
        -- R3.0 24 := law.go:117 fieldAddr
        refine WL.v (by exact r_field ty_fld36_3 rfl) rfl rfl rfl ?_
        -- R3.1 25 := law.go:117 fieldAddr
        refine WL.v (by exact r_field ty_fld34_0 rfl) rfl rfl rfl ?_
        -- R3.2 26 := law.go:117 load
        refine WL.v (by exact r_load1 (v := .int .i64 code) ty_one30 rfl (by rw [← f7]; exact st.c1 (by decide))) rfl rfl rfl ?_
        -- R3.3 27 := law.go:117 binOp
        refine WL.v (by first | exact r_eql rfl rfl (decide_eq_true (by omega)) | exact r_eql rfl rfl (decide_eq_false (by omega)) | exact r_eql rfl rfl rfl) rfl rfl rfl ?_
        refine WL.fin hK2439 (fun _ _ h => h) ?_
        refine WC.condT rfl rfl ?_
        refine WC.seq fun K2440 hK2440 => ?_
        -- region 4
        refine WC.region ?_
        -- R4.0 28 := law.go:118 fieldAddr
        refine WL.v (by exact r_field ty_fld36_0 rfl) rfl rfl rfl ?_
        -- R4.1 29 := law.go:118 fieldAddr
        refine WL.v (by exact r_field ty_fld28_0 rfl) rfl rfl rfl ?_
        -- R4.2 30 := law.go:118 load
        refine WL.v (by exact r_load1 (v := .int .u8 (o.kind : Nat)) ty_one25 rfl (by rw [← f0]; exact st.c1 (by decide))) rfl rfl rfl ?_
        refine WL.fin hK2440 (fun _ _ h => h) ?_
        refine WC.block ?_
        refine WC.seq fun K2441 hK2441 => ?_
        -- region 5
        refine WC.region ?_
        -- R5.0 32 := law.go:119 binOp
        refine WL.v (by first | exact r_eql rfl rfl (decide_eq_true (by omega)) | exact r_eql rfl rfl (decide_eq_false (by omega)) | exact r_eql rfl rfl rfl) rfl rfl rfl ?_
        -- R5.1 31 := law.go:119 assign
        refine WL.v (by first | exact r_assign (v := .bool _) rfl | exact r_assign rfl) rfl rfl rfl ?_
        refine WL.fin hK2441 (fun _ _ h => h) ?_
        refine WC.condT rfl rfl ?_
        refine WC.seq fun K2442 hK2442 => ?_
        -- region 6
        refine WC.region ?_
        -- R6.0 33 := law.go:120 fieldAddr
        refine WL.v (by exact r_field ty_fld36_0 rfl) rfl rfl rfl ?_
        -- R6.1 34 := law.go:120 fieldAddr
        refine WL.v (by exact r_field ty_fld28_2 rfl) rfl rfl rfl ?_
        -- R6.2 35 := law.go:120 load
        refine WL.v (by exact r_load1 (v := .int .i64 (c' : Nat)) ty_one2 rfl (by rw [← hc', ← f2]; exact st.c1 (by decide))) rfl rfl rfl ?_
        -- R6.3 7 := law.go:120 assign
        refine WL.v (by first | exact r_assign (v := .int _ _) rfl | exact r_assign rfl) rfl rfl rfl ?_
        refine WL.fin hK2442 (fun _ _ h => h) ?_
        refine WC.seq fun K2443 hK2443 => ?_
        refine WC.seq fun K2444 hK2444 => ?_
        -- region 7
        refine WC.region ?_
        -- R7.0 37 := law.go:121 move
        refine WL.v (by exact r_move (v := .int .i64 (t : Nat)) (congrArg (Value.int .i64) hT)) rfl rfl rfl ?_
        -- R7.1 38 := law.go:121 indexAddr
        refine WL.v (by exact r_indexA (j := t) ty_ar73 rfl rfl rfl ht16) rfl rfl rfl ?_
        -- R7.2 39 := law.go:121 load
        refine WL.v (by exact r_load1 (v := .map (some (mb t))) ty_one72 rfl ((st.c2 (by omega)).trans (by rw [show 0 + t * 1 = t by omega]))) rfl rfl rfl ?_
        -- R7.3 40 := law.go:121 move
        refine WL.v (by first | exact r_move (v := .int _ _) rfl | exact r_move rfl) rfl rfl rfl ?_
        -- R7.4 41 := law.go:121 lookup
        refine WL.v (by exact r_lookok (key := .int .i64 (c' : Nat)) (v := .int .u64 0) (t := false) ty_kb74 ty_mp72 ty_z126 rfl rfl st (hmem2 _ _ _) (goodCell (by omega)) (by show (odV (odF s t) (c' : Nat)).getD _ = _; unfold odV; rw [if_pos (by omega), Int.toNat_natCast, hod]; rfl) (by show (odV (odF s t) (c' : Nat)).isSome = _; unfold odV; rw [if_pos (by omega), Int.toNat_natCast, hod]; rfl)) rfl rfl rfl ?_
        -- R7.5 36 := law.go:121 move
        refine WL.v (by first | exact r_move (v := .tuple _) rfl | exact r_move rfl) rfl rfl rfl ?_
        -- R7.6 42 := law.go:121 extract
        refine WL.v (by first | exact r_extract (v := .int _ _) rfl rfl | exact r_extract rfl rfl) rfl rfl rfl ?_
        -- R7.7 43 := law.go:121 extract
        refine WL.v (by first | exact r_extract (v := .bool _) rfl rfl | exact r_extract rfl rfl) rfl rfl rfl ?_
        -- R7.8 8 := law.go:121 assign
        refine WL.v (by first | exact r_assign (v := .int _ _) rfl | exact r_assign rfl) rfl rfl rfl ?_
        -- R7.9 9 := law.go:121 assign
        refine WL.v (by first | exact r_assign (v := .bool _) rfl | exact r_assign rfl) rfl rfl rfl ?_
        refine WL.fin hK2444 (fun _ _ h => h) ?_
        refine WC.seq fun K2445 hK2445 => ?_
        -- region 8
        refine WC.region ?_
        -- R8.0 44 := law.go:121 move
        refine WL.v (by first | exact r_move (v := .bool _) rfl | exact r_move rfl) rfl rfl rfl ?_
        -- R8.1 45 := law.go:121 unOp
        refine WL.v (by first | exact r_notT rfl | exact r_notF rfl | exact r_not rfl) rfl rfl rfl ?_
        refine WL.fin hK2445 (fun _ _ h => h) ?_
        refine WC.condT rfl rfl ?_
        -- region 9 (draws)
        refine WC.tailS 11 st ty_mixed (by kernel_rfl) fun w st Kq hKq => ?_
        -- R9.0 46 := law.go:122 move
        refine SL.v (by exact r_move (v := .int .i64 (t : Nat)) (congrArg (Value.int .i64) hT)) rfl rfl rfl ?_
        -- R9.1 47 := law.go:122 indexAddr
        refine SL.v (by exact r_indexA (j := t) ty_ar73 rfl rfl rfl ht16) rfl rfl rfl ?_
        -- R9.2 48 := law.go:122 load
        refine SL.v (by exact r_load1 (v := .map (some (mb t))) ty_one72 rfl ((st.c2 (by omega)).trans (by rw [show 0 + t * 1 = t by omega]))) rfl rfl rfl ?_
        -- R9.3 49 := law.go:122 move
        refine SL.v (by first | exact r_move (v := .int _ _) rfl | exact r_move rfl) rfl rfl rfl ?_
        -- R9.4 50 := law.go:122 fieldAddr
        refine SL.v (by exact r_field ty_fld36_1 rfl) rfl rfl rfl ?_
        -- R9.5 51 := law.go:122 load
        refine SL.v (by exact r_load1 (v := .pointer (some ⟨bB, 0, none⟩)) ty_one29 rfl (by rw [← f5]; exact st.c1 (by decide))) rfl rfl rfl ?_
        -- R9.6 52 := law.go:122 move
        refine SL.v (by first | exact r_move (v := .int _ _) rfl | exact r_move rfl) rfl rfl rfl ?_
        -- R9.7 53 := law.go:122 nilCheck
        refine SL.v (by exact r_nilCheck rfl) rfl rfl rfl ?_
        -- R9.8 54 := law.go:122 fieldAddr
        refine SL.v (by exact r_field ty_fld50_7 rfl) rfl rfl rfl ?_
        -- R9.9 55 := law.go:122 indexAddr
        refine SL.v (by exact r_indexA (j := c') ty_ar48 rfl rfl rfl hc12) rfl rfl rfl ?_
        -- R9.10 56 := law.go:122 load
        refine SL.v (by exact r_load1 (v := .int .u64 (s.cells c' : Nat)) ty_one26 rfl (c_s (hckA _ _ _ _).B (by omega) (by rw [show 0 + 759 + c' * 1 = 759 + c' by omega]; exact sF_w hc12) st)) rfl rfl rfl ?_
        refine SL.fin hKq ?_
        -- R9.11 None := law.go:122 mapUpdate
        have st : S0 w0 (mpE (mb t) (odF s t) :: (((b4, Row 48 12 (uF (s.cells))) :: (b2, Row 36 10 fs) :: (b0, Row 73 16 (fun t => .map (some (mb t)))) :: R) ++ l)) _ := st.perm ((((hR1.append_right l).cons _).cons _).cons _ |>.trans (by classical exact List.perm_iff_count.2 fun x => by simp only [List.count_append, List.count_cons, List.count_nil, List.append_eq, List.cons_append, List.nil_append, List.append_assoc, Nat.add_zero, Nat.zero_add] <;> ac_rfl))
        refine WL.mapSetI (s := (c' : Nat)) (val := .int .u64 (s.cells c' : Nat)) ty_kb74 st ty_mp72 rfl rfl rfl (goodCell (by omega)) rfl rfl ?_
        intro w st
        rw [odV_set] at st
        have st : S0 w0 (mpE (mb t) (updN (odF s t) c' (some (s.cells c'))) :: (((b4, Row 48 12 (uF (s.cells))) :: (b2, Row 36 10 fs) :: (b0, Row 73 16 (fun t => .map (some (mb t)))) :: R) ++ l)) w := st
        have st : S0 w0 ((b4, Row 48 12 (uF (s.cells))) :: (b2, Row 36 10 fs) :: (b0, Row 73 16 (fun t => .map (some (mb t)))) :: (mpI mb D1 ++ l)) w := by rw [e1]; exact (st.perm (by classical exact List.perm_iff_count.2 fun x => by simp only [List.count_append, List.count_cons, List.count_nil, List.append_eq, List.cons_append, List.nil_append, List.append_assoc, Nat.add_zero, Nat.zero_add] <;> ac_rfl) : S0 w0 ((b4, Row 48 12 (uF (s.cells))) :: (b2, Row 36 10 fs) :: (b0, Row 73 16 (fun t => .map (some (mb t)))) :: ((mpE (mb t) (updN (odF s t) c' (some (s.cells c'))) :: R) ++ l)) w).perm (((((hR2 _).append_right l).cons _).cons _).cons _).symm
        refine WL.fin hK2443 (fun _ _ h => h) ?_
        -- region 10
        refine WC.region ?_
        -- R10.0 57 := law.go:124 move
        refine WL.v (by first | exact r_move (v := .int _ _) rfl | exact r_move rfl) rfl rfl rfl ?_
        -- R10.1 58 := law.go:124 fieldAddr
        refine WL.v (by exact r_field ty_fld36_0 rfl) rfl rfl rfl ?_
        -- R10.2 59 := law.go:124 fieldAddr
        refine WL.v (by exact r_field ty_fld28_4 rfl) rfl rfl rfl ?_
        -- R10.3 60 := law.go:124 load
        refine WL.v (by exact r_load1 (v := .int .u64 (o.X : Nat)) ty_one26 rfl (by rw [← f4]; exact st.c1 (by decide))) rfl rfl rfl ?_
        -- R10.4 61 := law.go:124 indexAddr
        refine WL.v (by exact r_indexA (j := c') ty_ar48 rfl rfl rfl hc12) rfl rfl rfl ?_
        -- R10.5 None := law.go:124 store
        first | refine WL.store (v := .int _ _) st ty_one26 rfl rfl rfl (by first | decide | omega) rfl rfl ?_ | refine WL.store (v := _) st ty_one26 rfl rfl rfl (by first | decide | omega) rfl rfl ?_ | refine WL.store (v := .int _ _) st.front1 ty_one26 rfl rfl rfl (by first | decide | omega) rfl rfl ?_ | refine WL.store (v := _) st.front1 ty_one26 rfl rfl rfl (by first | decide | omega) rfl rfl ?_ | refine WL.store (v := .int _ _) st.front2 ty_one26 rfl rfl rfl (by first | decide | omega) rfl rfl ?_ | refine WL.store (v := _) st.front2 ty_one26 rfl rfl rfl (by first | decide | omega) rfl rfl ?_ | refine WL.store (v := .int _ _) st.front3 ty_one26 rfl rfl rfl (by first | decide | omega) rfl rfl ?_ | refine WL.store (v := _) st.front3 ty_one26 rfl rfl rfl (by first | decide | omega) rfl rfl ?_ | refine WL.store (v := .int _ _) st.front4 ty_one26 rfl rfl rfl (by first | decide | omega) rfl rfl ?_ | refine WL.store (v := _) st.front4 ty_one26 rfl rfl rfl (by first | decide | omega) rfl rfl ?_ | refine WL.store (v := .int _ _) st.front5 ty_one26 rfl rfl rfl (by first | decide | omega) rfl rfl ?_ | refine WL.store (v := _) st.front5 ty_one26 rfl rfl rfl (by first | decide | omega) rfl rfl ?_ | refine WL.store (v := .int _ _) st.front6 ty_one26 rfl rfl rfl (by first | decide | omega) rfl rfl ?_ | refine WL.store (v := _) st.front6 ty_one26 rfl rfl rfl (by first | decide | omega) rfl rfl ?_ | refine WL.store (v := .int _ _) st.front7 ty_one26 rfl rfl rfl (by first | decide | omega) rfl rfl ?_ | refine WL.store (v := _) st.front7 ty_one26 rfl rfl rfl (by first | decide | omega) rfl rfl ?_ | refine WL.store (v := .int _ _) st.front8 ty_one26 rfl rfl rfl (by first | decide | omega) rfl rfl ?_ | refine WL.store (v := _) st.front8 ty_one26 rfl rfl rfl (by first | decide | omega) rfl rfl ?_
        intro w st
        refine WL.join hKC (fun _ _ h => h) () (by rw [e2]; exact stE (uF_set (n := 12)) st) (by repeat (first | exact sub_nil _ | refine sub_cons rfl rfl ?_))
      · have e1 : D1 = odF s := by
          rw [hD1]
          unfold odM
          rw [if_pos ⟨hc0, hk7⟩, hAt, hc', Int.toNat_natCast, Int.toNat_natCast]
          funext a b
          exact if_neg (fun k => by rw [k.1, k.2.1] at k; have := k.2.2; rw [hod] at this; cases this)
        refine WC.seq fun K2446 hK2446 => ?_
        -- region 3
        refine WC.region ?_
        -- R3.0 24 := law.go:117 fieldAddr
        refine WL.v (by exact r_field ty_fld36_3 rfl) rfl rfl rfl ?_
        -- R3.1 25 := law.go:117 fieldAddr
        refine WL.v (by exact r_field ty_fld34_0 rfl) rfl rfl rfl ?_
        -- R3.2 26 := law.go:117 load
        refine WL.v (by exact r_load1 (v := .int .i64 code) ty_one30 rfl (by rw [← f7]; exact st.c1 (by decide))) rfl rfl rfl ?_
        -- R3.3 27 := law.go:117 binOp
        refine WL.v (by first | exact r_eql rfl rfl (decide_eq_true (by omega)) | exact r_eql rfl rfl (decide_eq_false (by omega)) | exact r_eql rfl rfl rfl) rfl rfl rfl ?_
        refine WL.fin hK2446 (fun _ _ h => h) ?_
        refine WC.condT rfl rfl ?_
        refine WC.seq fun K2447 hK2447 => ?_
        -- region 4
        refine WC.region ?_
        -- R4.0 28 := law.go:118 fieldAddr
        refine WL.v (by exact r_field ty_fld36_0 rfl) rfl rfl rfl ?_
        -- R4.1 29 := law.go:118 fieldAddr
        refine WL.v (by exact r_field ty_fld28_0 rfl) rfl rfl rfl ?_
        -- R4.2 30 := law.go:118 load
        refine WL.v (by exact r_load1 (v := .int .u8 (o.kind : Nat)) ty_one25 rfl (by rw [← f0]; exact st.c1 (by decide))) rfl rfl rfl ?_
        refine WL.fin hK2447 (fun _ _ h => h) ?_
        refine WC.block ?_
        refine WC.seq fun K2448 hK2448 => ?_
        -- region 5
        refine WC.region ?_
        -- R5.0 32 := law.go:119 binOp
        refine WL.v (by first | exact r_eql rfl rfl (decide_eq_true (by omega)) | exact r_eql rfl rfl (decide_eq_false (by omega)) | exact r_eql rfl rfl rfl) rfl rfl rfl ?_
        -- R5.1 31 := law.go:119 assign
        refine WL.v (by first | exact r_assign (v := .bool _) rfl | exact r_assign rfl) rfl rfl rfl ?_
        refine WL.fin hK2448 (fun _ _ h => h) ?_
        refine WC.condT rfl rfl ?_
        refine WC.seq fun K2449 hK2449 => ?_
        -- region 6
        refine WC.region ?_
        -- R6.0 33 := law.go:120 fieldAddr
        refine WL.v (by exact r_field ty_fld36_0 rfl) rfl rfl rfl ?_
        -- R6.1 34 := law.go:120 fieldAddr
        refine WL.v (by exact r_field ty_fld28_2 rfl) rfl rfl rfl ?_
        -- R6.2 35 := law.go:120 load
        refine WL.v (by exact r_load1 (v := .int .i64 (c' : Nat)) ty_one2 rfl (by rw [← hc', ← f2]; exact st.c1 (by decide))) rfl rfl rfl ?_
        -- R6.3 7 := law.go:120 assign
        refine WL.v (by first | exact r_assign (v := .int _ _) rfl | exact r_assign rfl) rfl rfl rfl ?_
        refine WL.fin hK2449 (fun _ _ h => h) ?_
        refine WC.seq fun K2450 hK2450 => ?_
        refine WC.seq fun K2451 hK2451 => ?_
        -- region 7
        refine WC.region ?_
        -- R7.0 37 := law.go:121 move
        refine WL.v (by exact r_move (v := .int .i64 (t : Nat)) (congrArg (Value.int .i64) hT)) rfl rfl rfl ?_
        -- R7.1 38 := law.go:121 indexAddr
        refine WL.v (by exact r_indexA (j := t) ty_ar73 rfl rfl rfl ht16) rfl rfl rfl ?_
        -- R7.2 39 := law.go:121 load
        refine WL.v (by exact r_load1 (v := .map (some (mb t))) ty_one72 rfl ((st.c2 (by omega)).trans (by rw [show 0 + t * 1 = t by omega]))) rfl rfl rfl ?_
        -- R7.3 40 := law.go:121 move
        refine WL.v (by first | exact r_move (v := .int _ _) rfl | exact r_move rfl) rfl rfl rfl ?_
        -- R7.4 41 := law.go:121 lookup
        refine WL.v (by exact r_lookok (key := .int .i64 (c' : Nat)) (v := .int .u64 (x : Nat)) (t := true) ty_kb74 ty_mp72 ty_z126 rfl rfl st (hmem2 _ _ _) (goodCell (by omega)) (by show (odV (odF s t) (c' : Nat)).getD _ = _; unfold odV; rw [if_pos (by omega), Int.toNat_natCast, hod]; rfl) (by show (odV (odF s t) (c' : Nat)).isSome = _; unfold odV; rw [if_pos (by omega), Int.toNat_natCast, hod]; rfl)) rfl rfl rfl ?_
        -- R7.5 36 := law.go:121 move
        refine WL.v (by first | exact r_move (v := .tuple _) rfl | exact r_move rfl) rfl rfl rfl ?_
        -- R7.6 42 := law.go:121 extract
        refine WL.v (by first | exact r_extract (v := .int _ _) rfl rfl | exact r_extract rfl rfl) rfl rfl rfl ?_
        -- R7.7 43 := law.go:121 extract
        refine WL.v (by first | exact r_extract (v := .bool _) rfl rfl | exact r_extract rfl rfl) rfl rfl rfl ?_
        -- R7.8 8 := law.go:121 assign
        refine WL.v (by first | exact r_assign (v := .int _ _) rfl | exact r_assign rfl) rfl rfl rfl ?_
        -- R7.9 9 := law.go:121 assign
        refine WL.v (by first | exact r_assign (v := .bool _) rfl | exact r_assign rfl) rfl rfl rfl ?_
        refine WL.fin hK2451 (fun _ _ h => h) ?_
        refine WC.seq fun K2452 hK2452 => ?_
        -- region 8
        refine WC.region ?_
        -- R8.0 44 := law.go:121 move
        refine WL.v (by first | exact r_move (v := .bool _) rfl | exact r_move rfl) rfl rfl rfl ?_
        -- R8.1 45 := law.go:121 unOp
        refine WL.v (by first | exact r_notT rfl | exact r_notF rfl | exact r_not rfl) rfl rfl rfl ?_
        refine WL.fin hK2452 (fun _ _ h => h) ?_
        refine WC.condF rfl rfl ?_
        refine WC.skipF hK2450 (fun _ _ h => h) ?_
        -- region 10
        refine WC.region ?_
        -- R10.0 57 := law.go:124 move
        refine WL.v (by first | exact r_move (v := .int _ _) rfl | exact r_move rfl) rfl rfl rfl ?_
        -- R10.1 58 := law.go:124 fieldAddr
        refine WL.v (by exact r_field ty_fld36_0 rfl) rfl rfl rfl ?_
        -- R10.2 59 := law.go:124 fieldAddr
        refine WL.v (by exact r_field ty_fld28_4 rfl) rfl rfl rfl ?_
        -- R10.3 60 := law.go:124 load
        refine WL.v (by exact r_load1 (v := .int .u64 (o.X : Nat)) ty_one26 rfl (by rw [← f4]; exact st.c1 (by decide))) rfl rfl rfl ?_
        -- R10.4 61 := law.go:124 indexAddr
        refine WL.v (by exact r_indexA (j := c') ty_ar48 rfl rfl rfl hc12) rfl rfl rfl ?_
        -- R10.5 None := law.go:124 store
        first | refine WL.store (v := .int _ _) st ty_one26 rfl rfl rfl (by first | decide | omega) rfl rfl ?_ | refine WL.store (v := _) st ty_one26 rfl rfl rfl (by first | decide | omega) rfl rfl ?_ | refine WL.store (v := .int _ _) st.front1 ty_one26 rfl rfl rfl (by first | decide | omega) rfl rfl ?_ | refine WL.store (v := _) st.front1 ty_one26 rfl rfl rfl (by first | decide | omega) rfl rfl ?_ | refine WL.store (v := .int _ _) st.front2 ty_one26 rfl rfl rfl (by first | decide | omega) rfl rfl ?_ | refine WL.store (v := _) st.front2 ty_one26 rfl rfl rfl (by first | decide | omega) rfl rfl ?_ | refine WL.store (v := .int _ _) st.front3 ty_one26 rfl rfl rfl (by first | decide | omega) rfl rfl ?_ | refine WL.store (v := _) st.front3 ty_one26 rfl rfl rfl (by first | decide | omega) rfl rfl ?_ | refine WL.store (v := .int _ _) st.front4 ty_one26 rfl rfl rfl (by first | decide | omega) rfl rfl ?_ | refine WL.store (v := _) st.front4 ty_one26 rfl rfl rfl (by first | decide | omega) rfl rfl ?_ | refine WL.store (v := .int _ _) st.front5 ty_one26 rfl rfl rfl (by first | decide | omega) rfl rfl ?_ | refine WL.store (v := _) st.front5 ty_one26 rfl rfl rfl (by first | decide | omega) rfl rfl ?_ | refine WL.store (v := .int _ _) st.front6 ty_one26 rfl rfl rfl (by first | decide | omega) rfl rfl ?_ | refine WL.store (v := _) st.front6 ty_one26 rfl rfl rfl (by first | decide | omega) rfl rfl ?_ | refine WL.store (v := .int _ _) st.front7 ty_one26 rfl rfl rfl (by first | decide | omega) rfl rfl ?_ | refine WL.store (v := _) st.front7 ty_one26 rfl rfl rfl (by first | decide | omega) rfl rfl ?_ | refine WL.store (v := .int _ _) st.front8 ty_one26 rfl rfl rfl (by first | decide | omega) rfl rfl ?_ | refine WL.store (v := _) st.front8 ty_one26 rfl rfl rfl (by first | decide | omega) rfl rfl ?_
        intro w st
        refine WL.join hKC (fun _ _ h => h) () (by rw [e1, e2]; exact stE (uF_set (n := 12)) st) (by repeat (first | exact sub_nil _ | refine sub_cons rfl rfl ?_))
    have e2 : E0 = s.cells := by rw [hE0]; exact if_neg (fun k => hk7 k.2)
    by_cases hk89 : o.kind = 8 ∨ o.kind = 9
    rotate_left
    · have e1 : D1 = odF s := by rw [hD1]; unfold odM; rw [if_neg (fun k => hk7 k.2), if_neg (fun k => hk89 k.2)]
      refine WC.seq fun K2453 hK2453 => ?_
      -- region 3
      refine WC.region ?_
      -- R3.0 24 := law.go:117 fieldAddr
      refine WL.v (by exact r_field ty_fld36_3 rfl) rfl rfl rfl ?_
      -- R3.1 25 := law.go:117 fieldAddr
      refine WL.v (by exact r_field ty_fld34_0 rfl) rfl rfl rfl ?_
      -- R3.2 26 := law.go:117 load
      refine WL.v (by exact r_load1 (v := .int .i64 code) ty_one30 rfl (by rw [← f7]; exact st.c1 (by decide))) rfl rfl rfl ?_
      -- R3.3 27 := law.go:117 binOp
      refine WL.v (by first | exact r_eql rfl rfl (decide_eq_true (by omega)) | exact r_eql rfl rfl (decide_eq_false (by omega)) | exact r_eql rfl rfl rfl) rfl rfl rfl ?_
      refine WL.fin hK2453 (fun _ _ h => h) ?_
      refine WC.condT rfl rfl ?_
      refine WC.seq fun K2454 hK2454 => ?_
      -- region 4
      refine WC.region ?_
      -- R4.0 28 := law.go:118 fieldAddr
      refine WL.v (by exact r_field ty_fld36_0 rfl) rfl rfl rfl ?_
      -- R4.1 29 := law.go:118 fieldAddr
      refine WL.v (by exact r_field ty_fld28_0 rfl) rfl rfl rfl ?_
      -- R4.2 30 := law.go:118 load
      refine WL.v (by exact r_load1 (v := .int .u8 (o.kind : Nat)) ty_one25 rfl (by rw [← f0]; exact st.c1 (by decide))) rfl rfl rfl ?_
      refine WL.fin hK2454 (fun _ _ h => h) ?_
      refine WC.block ?_
      refine WC.seq fun K2455 hK2455 => ?_
      -- region 5
      refine WC.region ?_
      -- R5.0 32 := law.go:119 binOp
      refine WL.v (by first | exact r_eql rfl rfl (decide_eq_true (by omega)) | exact r_eql rfl rfl (decide_eq_false (by omega)) | exact r_eql rfl rfl rfl) rfl rfl rfl ?_
      -- R5.1 31 := law.go:119 assign
      refine WL.v (by first | exact r_assign (v := .bool _) rfl | exact r_assign rfl) rfl rfl rfl ?_
      refine WL.fin hK2455 (fun _ _ h => h) ?_
      refine WC.condF rfl rfl ?_
      refine WC.seq fun K2456 hK2456 => ?_
      refine WC.seq fun K2457 hK2457 => ?_
      -- region 11
      refine WC.region ?_
      -- R11.0 63 := law.go:125 binOp
      refine WL.v (by first | exact r_eql rfl rfl (decide_eq_true (by omega)) | exact r_eql rfl rfl (decide_eq_false (by omega)) | exact r_eql rfl rfl rfl) rfl rfl rfl ?_
      -- R11.1 62 := law.go:125 assign
      refine WL.v (by first | exact r_assign (v := .bool _) rfl | exact r_assign rfl) rfl rfl rfl ?_
      refine WL.fin hK2457 (fun _ _ h => h) ?_
      refine WC.condF rfl rfl ?_
      -- region 12
      refine WC.region ?_
      -- R12.0 64 := law.go:125 binOp
      refine WL.v (by first | exact r_eql rfl rfl (decide_eq_true (by omega)) | exact r_eql rfl rfl (decide_eq_false (by omega)) | exact r_eql rfl rfl rfl) rfl rfl rfl ?_
      -- R12.1 62 := law.go:125 assign
      refine WL.v (by first | exact r_assign (v := .bool _) rfl | exact r_assign rfl) rfl rfl rfl ?_
      refine WL.fin hK2456 (fun _ _ h => h) ?_
      refine WC.condF rfl rfl ?_
      refine WC.skipJ hKC (fun _ _ h => h) () (by rw [e1, e2]; exact st) (by repeat (first | exact sub_nil _ | refine sub_cons rfl rfl ?_))
    obtain ⟨t, ht16, hAt, hT, hl, hwt⟩ := cf_T (h89 hc0 hk89)
    have e1 : D1 = zapO (odF s) t := by
      rw [hD1]
      unfold odM zapO updN
      rw [if_neg (fun k => hk7 k.2), if_pos ⟨hc0, hk89⟩, hAt]
      funext a b
      show (if a = t then none else odF s a b) = (if a = t then (fun _ => none) else odF s a) b
      by_cases ha : a = t
      · rw [if_pos ha, if_pos ha]
      · rw [if_neg ha, if_neg ha]
    obtain ⟨R, hR1, hR2⟩ := mp_at (mb := mb) (D := odF s) ht16
    by_cases hk8 : o.kind = 8
    · skip
      refine WC.seq fun K2458 hK2458 => ?_
      -- region 3
      refine WC.region ?_
      -- R3.0 24 := law.go:117 fieldAddr
      refine WL.v (by exact r_field ty_fld36_3 rfl) rfl rfl rfl ?_
      -- R3.1 25 := law.go:117 fieldAddr
      refine WL.v (by exact r_field ty_fld34_0 rfl) rfl rfl rfl ?_
      -- R3.2 26 := law.go:117 load
      refine WL.v (by exact r_load1 (v := .int .i64 code) ty_one30 rfl (by rw [← f7]; exact st.c1 (by decide))) rfl rfl rfl ?_
      -- R3.3 27 := law.go:117 binOp
      refine WL.v (by first | exact r_eql rfl rfl (decide_eq_true (by omega)) | exact r_eql rfl rfl (decide_eq_false (by omega)) | exact r_eql rfl rfl rfl) rfl rfl rfl ?_
      refine WL.fin hK2458 (fun _ _ h => h) ?_
      refine WC.condT rfl rfl ?_
      refine WC.seq fun K2459 hK2459 => ?_
      -- region 4
      refine WC.region ?_
      -- R4.0 28 := law.go:118 fieldAddr
      refine WL.v (by exact r_field ty_fld36_0 rfl) rfl rfl rfl ?_
      -- R4.1 29 := law.go:118 fieldAddr
      refine WL.v (by exact r_field ty_fld28_0 rfl) rfl rfl rfl ?_
      -- R4.2 30 := law.go:118 load
      refine WL.v (by exact r_load1 (v := .int .u8 (o.kind : Nat)) ty_one25 rfl (by rw [← f0]; exact st.c1 (by decide))) rfl rfl rfl ?_
      refine WL.fin hK2459 (fun _ _ h => h) ?_
      refine WC.block ?_
      refine WC.seq fun K2460 hK2460 => ?_
      -- region 5
      refine WC.region ?_
      -- R5.0 32 := law.go:119 binOp
      refine WL.v (by first | exact r_eql rfl rfl (decide_eq_true (by omega)) | exact r_eql rfl rfl (decide_eq_false (by omega)) | exact r_eql rfl rfl rfl) rfl rfl rfl ?_
      -- R5.1 31 := law.go:119 assign
      refine WL.v (by first | exact r_assign (v := .bool _) rfl | exact r_assign rfl) rfl rfl rfl ?_
      refine WL.fin hK2460 (fun _ _ h => h) ?_
      refine WC.condF rfl rfl ?_
      refine WC.seq fun K2461 hK2461 => ?_
      refine WC.seq fun K2462 hK2462 => ?_
      -- region 11
      refine WC.region ?_
      -- R11.0 63 := law.go:125 binOp
      refine WL.v (by first | exact r_eql rfl rfl (decide_eq_true (by omega)) | exact r_eql rfl rfl (decide_eq_false (by omega)) | exact r_eql rfl rfl rfl) rfl rfl rfl ?_
      -- R11.1 62 := law.go:125 assign
      refine WL.v (by first | exact r_assign (v := .bool _) rfl | exact r_assign rfl) rfl rfl rfl ?_
      refine WL.fin hK2462 (fun _ _ h => h) ?_
      refine WC.condT rfl rfl ?_
      refine WC.skipF hK2461 (fun _ _ h => h) ?_
      refine WC.condT rfl rfl ?_
      -- region 13
      refine WC.region ?_
      -- R13.0 65 := law.go:126 move
      refine WL.v (by exact r_move (v := .int .i64 (t : Nat)) (congrArg (Value.int .i64) hT)) rfl rfl rfl ?_
      -- R13.1 66 := law.go:126 indexAddr
      refine WL.v (by exact r_indexA (j := t) ty_ar73 rfl rfl rfl ht16) rfl rfl rfl ?_
      -- R13.2 67 := law.go:126 load
      refine WL.v (by exact r_load1 (v := .map (some (mb t))) ty_one72 rfl ((st.c2 (by omega)).trans (by rw [show 0 + t * 1 = t by omega]))) rfl rfl rfl ?_
      -- R13.3 None := law.go:126 call
      have st : S0 w0 (mpE (mb t) (odF s t) :: (((b4, Row 48 12 (uF (s.cells))) :: (b2, Row 36 10 fs) :: (b0, Row 73 16 (fun t => .map (some (mb t)))) :: R) ++ l)) _ := st.perm ((((hR1.append_right l).cons _).cons _).cons _ |>.trans (by classical exact List.perm_iff_count.2 fun x => by simp only [List.count_append, List.count_cons, List.count_nil, List.append_eq, List.cons_append, List.nil_append, List.append_assoc, Nat.add_zero, Nat.zero_add] <;> ac_rfl))
      refine WL.clearI st ty_mp72 rfl rfl rfl ?_
      intro w st
      rw [← odV_none] at st
      have st : S0 w0 (mpE (mb t) (fun _ => none) :: (((b4, Row 48 12 (uF (s.cells))) :: (b2, Row 36 10 fs) :: (b0, Row 73 16 (fun t => .map (some (mb t)))) :: R) ++ l)) w := st
      have st : S0 w0 ((b4, Row 48 12 (uF (s.cells))) :: (b2, Row 36 10 fs) :: (b0, Row 73 16 (fun t => .map (some (mb t)))) :: (mpI mb D1 ++ l)) w := by rw [e1]; exact (st.perm (by classical exact List.perm_iff_count.2 fun x => by simp only [List.count_append, List.count_cons, List.count_nil, List.append_eq, List.cons_append, List.nil_append, List.append_assoc, Nat.add_zero, Nat.zero_add] <;> ac_rfl) : S0 w0 ((b4, Row 48 12 (uF (s.cells))) :: (b2, Row 36 10 fs) :: (b0, Row 73 16 (fun t => .map (some (mb t)))) :: ((mpE (mb t) (fun _ => none) :: R) ++ l)) w).perm (((((hR2 _).append_right l).cons _).cons _).cons _).symm
      refine WL.join hKC (fun _ _ h => h) () (by rw [e2]; exact st) (by repeat (first | exact sub_nil _ | refine sub_cons rfl rfl ?_))
    · have hk9 : o.kind = 9 := by omega
      refine WC.seq fun K2463 hK2463 => ?_
      -- region 3
      refine WC.region ?_
      -- R3.0 24 := law.go:117 fieldAddr
      refine WL.v (by exact r_field ty_fld36_3 rfl) rfl rfl rfl ?_
      -- R3.1 25 := law.go:117 fieldAddr
      refine WL.v (by exact r_field ty_fld34_0 rfl) rfl rfl rfl ?_
      -- R3.2 26 := law.go:117 load
      refine WL.v (by exact r_load1 (v := .int .i64 code) ty_one30 rfl (by rw [← f7]; exact st.c1 (by decide))) rfl rfl rfl ?_
      -- R3.3 27 := law.go:117 binOp
      refine WL.v (by first | exact r_eql rfl rfl (decide_eq_true (by omega)) | exact r_eql rfl rfl (decide_eq_false (by omega)) | exact r_eql rfl rfl rfl) rfl rfl rfl ?_
      refine WL.fin hK2463 (fun _ _ h => h) ?_
      refine WC.condT rfl rfl ?_
      refine WC.seq fun K2464 hK2464 => ?_
      -- region 4
      refine WC.region ?_
      -- R4.0 28 := law.go:118 fieldAddr
      refine WL.v (by exact r_field ty_fld36_0 rfl) rfl rfl rfl ?_
      -- R4.1 29 := law.go:118 fieldAddr
      refine WL.v (by exact r_field ty_fld28_0 rfl) rfl rfl rfl ?_
      -- R4.2 30 := law.go:118 load
      refine WL.v (by exact r_load1 (v := .int .u8 (o.kind : Nat)) ty_one25 rfl (by rw [← f0]; exact st.c1 (by decide))) rfl rfl rfl ?_
      refine WL.fin hK2464 (fun _ _ h => h) ?_
      refine WC.block ?_
      refine WC.seq fun K2465 hK2465 => ?_
      -- region 5
      refine WC.region ?_
      -- R5.0 32 := law.go:119 binOp
      refine WL.v (by first | exact r_eql rfl rfl (decide_eq_true (by omega)) | exact r_eql rfl rfl (decide_eq_false (by omega)) | exact r_eql rfl rfl rfl) rfl rfl rfl ?_
      -- R5.1 31 := law.go:119 assign
      refine WL.v (by first | exact r_assign (v := .bool _) rfl | exact r_assign rfl) rfl rfl rfl ?_
      refine WL.fin hK2465 (fun _ _ h => h) ?_
      refine WC.condF rfl rfl ?_
      refine WC.seq fun K2466 hK2466 => ?_
      refine WC.seq fun K2467 hK2467 => ?_
      -- region 11
      refine WC.region ?_
      -- R11.0 63 := law.go:125 binOp
      refine WL.v (by first | exact r_eql rfl rfl (decide_eq_true (by omega)) | exact r_eql rfl rfl (decide_eq_false (by omega)) | exact r_eql rfl rfl rfl) rfl rfl rfl ?_
      -- R11.1 62 := law.go:125 assign
      refine WL.v (by first | exact r_assign (v := .bool _) rfl | exact r_assign rfl) rfl rfl rfl ?_
      refine WL.fin hK2467 (fun _ _ h => h) ?_
      refine WC.condF rfl rfl ?_
      -- region 12
      refine WC.region ?_
      -- R12.0 64 := law.go:125 binOp
      refine WL.v (by first | exact r_eql rfl rfl (decide_eq_true (by omega)) | exact r_eql rfl rfl (decide_eq_false (by omega)) | exact r_eql rfl rfl rfl) rfl rfl rfl ?_
      -- R12.1 62 := law.go:125 assign
      refine WL.v (by first | exact r_assign (v := .bool _) rfl | exact r_assign rfl) rfl rfl rfl ?_
      refine WL.fin hK2466 (fun _ _ h => h) ?_
      refine WC.condT rfl rfl ?_
      -- region 13
      refine WC.region ?_
      -- R13.0 65 := law.go:126 move
      refine WL.v (by exact r_move (v := .int .i64 (t : Nat)) (congrArg (Value.int .i64) hT)) rfl rfl rfl ?_
      -- R13.1 66 := law.go:126 indexAddr
      refine WL.v (by exact r_indexA (j := t) ty_ar73 rfl rfl rfl ht16) rfl rfl rfl ?_
      -- R13.2 67 := law.go:126 load
      refine WL.v (by exact r_load1 (v := .map (some (mb t))) ty_one72 rfl ((st.c2 (by omega)).trans (by rw [show 0 + t * 1 = t by omega]))) rfl rfl rfl ?_
      -- R13.3 None := law.go:126 call
      have st : S0 w0 (mpE (mb t) (odF s t) :: (((b4, Row 48 12 (uF (s.cells))) :: (b2, Row 36 10 fs) :: (b0, Row 73 16 (fun t => .map (some (mb t)))) :: R) ++ l)) _ := st.perm ((((hR1.append_right l).cons _).cons _).cons _ |>.trans (by classical exact List.perm_iff_count.2 fun x => by simp only [List.count_append, List.count_cons, List.count_nil, List.append_eq, List.cons_append, List.nil_append, List.append_assoc, Nat.add_zero, Nat.zero_add] <;> ac_rfl))
      refine WL.clearI st ty_mp72 rfl rfl rfl ?_
      intro w st
      rw [← odV_none] at st
      have st : S0 w0 (mpE (mb t) (fun _ => none) :: (((b4, Row 48 12 (uF (s.cells))) :: (b2, Row 36 10 fs) :: (b0, Row 73 16 (fun t => .map (some (mb t)))) :: R) ++ l)) w := st
      have st : S0 w0 ((b4, Row 48 12 (uF (s.cells))) :: (b2, Row 36 10 fs) :: (b0, Row 73 16 (fun t => .map (some (mb t)))) :: (mpI mb D1 ++ l)) w := by rw [e1]; exact (st.perm (by classical exact List.perm_iff_count.2 fun x => by simp only [List.count_append, List.count_cons, List.count_nil, List.append_eq, List.cons_append, List.nil_append, List.append_assoc, Nat.add_zero, Nat.zero_add] <;> ac_rfl) : S0 w0 ((b4, Row 48 12 (uF (s.cells))) :: (b2, Row 36 10 fs) :: (b0, Row 73 16 (fun t => .map (some (mb t)))) :: ((mpE (mb t) (fun _ => none) :: R) ++ l)) w).perm (((((hR2 _).append_right l).cons _).cons _).cons _).symm
      refine WL.join hKC (fun _ _ h => h) () (by rw [e2]; exact st) (by repeat (first | exact sub_nil _ | refine sub_cons rfl rfl ?_))
  clear st
  rintro _ w st
  refine WC.seq fun K2468 hK2468 => ?_
  refine WC.seq fun K2469 hK2469 => ?_
  -- region 14
  refine WC.region ?_
  -- R14.0 68 := law.go:129 load
  refine WL.v (by exact r_loadL (vs := stepL o bB bA code task (.slice a ans.length c)) ty_agg36 rfl ⟨(st.c1 (by decide)).trans (congrArg some f0), (st.c1 (by decide)).trans (congrArg some f1), (st.c1 (by decide)).trans (congrArg some f2), (st.c1 (by decide)).trans (congrArg some f3), (st.c1 (by decide)).trans (congrArg some f4), (st.c1 (by decide)).trans (congrArg some f5), (st.c1 (by decide)).trans (congrArg some f6), (st.c1 (by decide)).trans (congrArg some f7), (st.c1 (by decide)).trans (congrArg some f8), (st.c1 (by decide)).trans (congrArg some f9), trivial⟩) rfl rfl rfl ?_
  -- R14.1 69 := law.go:129 call
  refine WL.call (r_call ty_call29 rfl) rfl rfl rfl (told_ok (o := o) (cd := 3) (hckA _ _ _ _) h16 st) ?_
  rintro _ w ⟨rfl, st⟩
  -- R14.2 70 := law.go:129 call
  refine WL.call (r_call ty_call31 rfl) rfl rfl rfl (tasks_ok hD (toldL_lt ans (by decide) h16) st) ?_
  rintro _ w ⟨XT, hXT, st⟩
  obtain ⟨Ts, hTs⟩ : ∃ Ts, Ts = tasksP (toldP ans 3) := ⟨_, rfl⟩
  have hT16 : ∀ o, o ∈ Ts → o < 16 := fun o h => by rw [hTs] at h; exact tasksP_lt h
  have hTl : Ts.length ≤ 16 := by rw [hTs]; exact tasksP_len
  rw [← hTs] at hXT
  obtain ⟨at', ct, bt, rfl, hct1, hct2, hat', htcell⟩ := hXT.form
  -- R14.3 71 := law.go:129 call
  refine WL.v (by exact r_len ty_usl54 rfl) rfl rfl rfl ?_
  -- R14.4 72 := law.go:129 move
  refine WL.v (by first | exact r_move (v := .int _ _) rfl | exact r_move rfl) rfl rfl rfl ?_
  refine WL.fin hK2469 (fun _ _ h => h) ?_
  refine WC.block ?_
  have hnd : Ts.Nodup := by rw [hTs]; exact tasksP_nodup _
  rw [← hTs] at hcel
  refine WC.loop (ι := Nat) (fun k => [(1, .pointer (some ⟨b0, 0, none⟩)), (2, .pointer (some ⟨b2, 0, none⟩)), (4, .pointer (some ⟨b4, 0, none⟩)), (70, .slice at' Ts.length ct), (71, .int .i64 (Ts.length : Nat)), (72, .int .i64 (k : Nat))])
    (fun k w' => k ≤ Ts.length ∧ S0 w0 ((b4, Row 48 12 (uF ((Ts.take k).foldl (rolE D1) E0))) :: (b2, Row 36 10 fs) :: (b0, Row 73 16 (fun t => .map (some (mb t)))) :: (XT ++ (mpI mb ((Ts.take k).foldl zapO D1) ++ l))) w') (fun k => Ts.length - k) 0 ⟨Nat.zero_le _, st.perm (by classical exact List.perm_iff_count.2 fun x => by simp only [List.count_append, List.count_cons, List.count_nil, List.append_eq, List.cons_append, List.nil_append, List.append_assoc, Nat.add_zero, Nat.zero_add] <;> ac_rfl)⟩ ?_ ?_
  · skip
    repeat (first | exact sub_nil _ | refine sub_cons rfl rfl ?_)
  clear st
  rintro k w ⟨hk, st⟩ K2 hK2
  by_cases hkl : k = Ts.length
  rotate_left
  · have hkl' : k < Ts.length := by omega
    obtain ⟨v, hv⟩ : ∃ v, Ts[k]? = some v := ⟨Ts[k], List.getElem?_eq_getElem hkl'⟩
    have hv16 := hT16 v (List.mem_of_getElem? hv)
    have hfo1 := foldl_snoc (f := rolE D1) (b := E0) hv
    have hfo2 := foldl_snoc (f := zapO) (b := D1) hv
    have hnv : v ∉ Ts.take k := fun hm => by
      obtain ⟨j, hj⟩ := List.getElem?_of_mem hm
      have hjk : j < k := by
        have := (List.getElem?_eq_some_iff.1 hj).1
        rw [List.length_take] at this; omega
      rw [List.getElem?_take, if_pos hjk] at hj
      have := (List.getElem?_inj (i := j) (by omega) hnd).1 (hj.trans hv.symm)
      omega
    have hDv : (Ts.take k).foldl zapO D1 v = D1 v := by
      have := foldl_zap (z := fun _ => none) (Ts.take k) (F := D1) (t := v)
      rw [if_neg hnv] at this
      exact this
    obtain ⟨Dk, hDk⟩ : ∃ Dk, Dk = (Ts.take k).foldl zapO D1 := ⟨_, rfl⟩
    obtain ⟨Ek, hEk⟩ : ∃ Ek, Ek = (Ts.take k).foldl (rolE D1) E0 := ⟨_, rfl⟩
    rw [← hDk] at hDv hfo2
    rw [← hEk] at hfo1
    rw [← hDk, ← hEk] at st
    obtain rfl := hat' (by omega)
    have hce := htcell st (fun x hx => List.mem_cons_of_mem _ (List.mem_cons_of_mem _ (List.mem_cons_of_mem _ (List.mem_append_left _ hx)))) k v hv 0 (by decide)
    obtain ⟨R, hR1, hR2⟩ := mp_at (mb := mb) (D := Dk) hv16
    refine WC.seq fun K2470 hK2470 => ?_
    -- region 15
    refine WC.region ?_
    -- R15.0 73 := law.go:129 binOp
    refine WL.v (by first | exact r_lss rfl rfl (decide_eq_true (by omega)) | exact r_lss rfl rfl (decide_eq_false (by omega)) | exact r_lss rfl rfl rfl) rfl rfl rfl ?_
    refine WL.fin hK2470 (fun _ _ h => h) ?_
    refine WC.seq fun K2471 hK2471 => ?_
    refine WC.condT rfl rfl ?_
    refine WC.skipF hK2471 (fun _ _ h => h) ?_
    refine WC.seq fun K2472 hK2472 => ?_
    refine WC.block ?_
    refine WC.seq fun K2473 hK2473 => ?_
    -- region 16
    refine WC.region ?_
    -- R16.0 74 := law.go:129 indexAddr
    refine WL.v (by exact r_indexS (j := k) ty_sl54 rfl rfl rfl (by omega)) rfl rfl rfl ?_
    -- R16.1 75 := law.go:129 load
    refine WL.v (by exact r_load1 (v := .int .i64 (v : Nat)) ty_one31 rfl (by rw [Nat.zero_add]; exact hce)) rfl rfl rfl ?_
    -- R16.2 11 := law.go:129 assign
    refine WL.v (by first | exact r_assign (v := .int _ _) rfl | exact r_assign rfl) rfl rfl rfl ?_
    refine WL.fin hK2473 (fun _ _ h => h) ?_
    refine WC.seq fun K2474 hK2474 => ?_
    refine WC.seq fun K2475 hK2475 => ?_
    -- region 17
    refine WC.region ?_
    -- R17.0 76 := law.go:130 move
    refine WL.v (by first | exact r_move (v := .int _ _) rfl | exact r_move rfl) rfl rfl rfl ?_
    -- R17.1 77 := law.go:130 indexAddr
    refine WL.v (by exact r_indexA (j := v) ty_ar73 rfl rfl rfl hv16) rfl rfl rfl ?_
    -- R17.2 78 := law.go:130 load
    refine WL.v (by exact r_load1 (v := .map (some (mb v))) ty_one72 rfl ((st.c2 (by omega)).trans (by rw [show 0 + v * 1 = v by omega]))) rfl rfl rfl ?_
    -- R17.3 79 := law.go:130 range
    have st : S0 w0 (mpE (mb v) (Dk v) :: ((b4, Row 48 12 (uF (Ek))) :: (b2, Row 36 10 fs) :: (b0, Row 73 16 (fun t => .map (some (mb t)))) :: (XT ++ (R ++ l)))) _ := (st.perm (((((hR1.append_right l).append_left XT).cons _).cons _).cons _) : S0 w0 ((b4, Row 48 12 (uF (Ek))) :: (b2, Row 36 10 fs) :: (b0, Row 73 16 (fun t => .map (some (mb t)))) :: (XT ++ ((mpE (mb v) (Dk v) :: R) ++ l))) _).perm (by classical exact List.perm_iff_count.2 fun x => by simp only [List.count_append, List.count_cons, List.count_nil, List.append_eq, List.cons_append, List.nil_append, List.append_assoc, Nat.add_zero, Nat.zero_add] <;> ac_rfl)
    refine WL.range st ty_mp72 rfl rfl rfl rfl ?_
    intro es clock rb w hE st
    refine WL.fin hK2475 (fun _ _ h => h) ?_
    refine WC.block ?_
    refine WC.loop (ι := (Nat → Nat) × Array Nat) (fun y => [(1, .pointer (some ⟨b0, 0, none⟩)), (2, .pointer (some ⟨b2, 0, none⟩)), (4, .pointer (some ⟨b4, 0, none⟩)), (70, .slice (some ⟨bt, 0, none⟩) Ts.length ct), (71, .int .i64 (Ts.length : Nat)), (72, .int .i64 (k : Nat)), (11, .int .i64 (v : Nat)), (79, .pointer (some ⟨rb, 0, none⟩))])
      (fun y w' => (∀ c, (seenC es y.2 c → y.1 c = (D1 v c).getD (Ek c)) ∧ (¬ seenC es y.2 c → y.1 c = Ek c)) ∧ S0 w0 ((rb, Is (.mapIter (some (mb v)) clock y.2 clock)) :: (mb v, Is (.map es clock)) :: (b4, Row 48 12 (uF (y.1))) :: (b2, Row 36 10 fs) :: (b0, Row 73 16 (fun t => .map (some (mb t)))) :: (XT ++ (R ++ l))) w') (fun y => unseen es y.2) (Ek, #[]) ⟨fun c => ⟨fun hk => by obtain ⟨x, _, _, hc⟩ := hk; simp at hc, fun _ => rfl⟩, st⟩ ?_ ?_
    · skip
      repeat (first | exact sub_nil _ | refine sub_cons rfl rfl ?_)
    clear st
    rintro ⟨E, seen⟩ w ⟨hsee, st⟩ K3 hK3
    dsimp only at hsee st ⊢
    rcases run_mnext (P := Tryz.prog) (ty := 0) hE st with ⟨hall, hr⟩ | ⟨x, hx, hseen, w1, hr, st1⟩
    · have hEe : E = rolE D1 Ek v := by
        funext c
        unfold rolE
        cases hd : D1 v c with
        | none =>
          refine (hsee c).2 ?_
          rintro ⟨x, hx, hk, _⟩
          have := (hE.holds x hx).2
          rw [hk] at this
          have : odV (Dk v) (c : Nat) = some x.val := this
          unfold odV at this
          rw [if_pos (by omega), Int.toNat_natCast, hDv, hd] at this
          cases this
        | some y =>
          have := (hsee c).1 (by
            obtain ⟨x, hx, hk⟩ := hE.all (.int .i64 (c : Nat)) (.int .u64 (y : Nat)) (by show odV (Dk v) (c : Nat) = _; unfold odV; rw [if_pos (by omega), Int.toNat_natCast, hDv, hd]; rfl)
            exact ⟨x, hx, hk, hall x hx⟩)
          rw [hd] at this; exact this
      refine WC.seq fun K2476 hK2476 => ?_
      -- region 18
      refine WC.region ?_
      -- R18.0 80 := law.go:130 next
      refine WL.v (v := .tuple #[.bool false]) (w' := w) (r_next rfl hr) rfl rfl rfl ?_
      -- R18.1 81 := law.go:130 extract
      refine WL.v (by first | exact r_extract (v := .bool _) rfl rfl | exact r_extract rfl rfl) rfl rfl rfl ?_
      refine WL.fin hK2476 (fun _ _ h => h) ?_
      refine WC.seq fun K2477 hK2477 => ?_
      refine WC.condF rfl rfl ?_
      refine WC.exitF hK2474 (fun _ _ h => h) ?_
      -- region 21
      refine WC.region ?_
      -- R21.0 88 := law.go:133 move
      refine WL.v (by first | exact r_move (v := .int _ _) rfl | exact r_move rfl) rfl rfl rfl ?_
      -- R21.1 89 := law.go:133 indexAddr
      refine WL.v (by exact r_indexA (j := v) ty_ar73 rfl rfl rfl hv16) rfl rfl rfl ?_
      -- R21.2 90 := law.go:133 load
      refine WL.v (by exact r_load1 (v := .map (some (mb v))) ty_one72 rfl ((st.c4 (by omega)).trans (by rw [show 0 + v * 1 = v by omega]))) rfl rfl rfl ?_
      -- R21.3 None := law.go:133 call
      have st : S0 w0 (mpE (mb v) (Dk v) :: ((b4, Row 48 12 (uF (E))) :: (b2, Row 36 10 fs) :: (b0, Row 73 16 (fun t => .map (some (mb t)))) :: (XT ++ (R ++ l)))) _ := st.drop.impc fun o ho => hE.mapV ho
      refine WL.clearI st ty_mp72 rfl rfl rfl ?_
      intro w st
      rw [← odV_none] at st
      have st : S0 w0 (mpE (mb v) (fun _ => none) :: ((b4, Row 48 12 (uF (E))) :: (b2, Row 36 10 fs) :: (b0, Row 73 16 (fun t => .map (some (mb t)))) :: (XT ++ (R ++ l)))) w := st
      have st : S0 w0 ((b4, Row 48 12 (uF (E))) :: (b2, Row 36 10 fs) :: (b0, Row 73 16 (fun t => .map (some (mb t)))) :: (XT ++ (mpI mb (zapO Dk v) ++ l))) w := (st.perm (by classical exact List.perm_iff_count.2 fun x => by simp only [List.count_append, List.count_cons, List.count_nil, List.append_eq, List.cons_append, List.nil_append, List.append_assoc, Nat.add_zero, Nat.zero_add] <;> ac_rfl) : S0 w0 ((b4, Row 48 12 (uF (E))) :: (b2, Row 36 10 fs) :: (b0, Row 73 16 (fun t => .map (some (mb t)))) :: (XT ++ ((mpE (mb v) (fun _ => none) :: R) ++ l))) w).perm ((((((hR2 _).append_right l).append_left XT).cons _).cons _).cons _).symm
      refine WL.fin hK2472 (fun _ _ h => h) ?_
      -- region 22
      refine WC.region ?_
      -- R22.0 91 := law.go:129 binOp
      refine WL.v (by first | exact r_add rfl rfl (wi64 (by omega) (by omega)) | exact r_add rfl rfl rfl) rfl rfl rfl ?_
      -- R22.1 72 := law.go:129 move
      refine WL.v (by first | exact r_move (v := .int _ _) rfl | exact r_move rfl) rfl rfl rfl ?_
      refine WL.next hK2 (fun _ _ h => h) (k + 1) ⟨hkl', by rw [hfo1, hfo2, ← hEe]; exact st⟩ (by omega) (by repeat (first | exact sub_nil _ | refine sub_cons rfl rfl ?_))
    · obtain ⟨c', y, hxk, hxv, hDy⟩ : ∃ c' y : Nat, x.key = .int .i64 (c' : Nat) ∧ x.val = .int .u64 (y : Nat) ∧ D1 v c' = some y := by
        have hv := (hE.holds x hx).2
        unfold gOf at hv
        split at hv
        · rename_i z hk
          unfold odV at hv
          split at hv
          · rename_i hz
            rw [hDv] at hv
            cases hd : D1 v z.toNat with
            | none => rw [hd] at hv; cases hv
            | some y =>
              rw [hd] at hv
              exact ⟨z.toNat, y, by rw [hk]; congr 1; omega, (Option.some.inj hv).symm, hd⟩
          · cases hv
        · cases hv
      have hc12 : c' < 12 := h12 v c' (by rw [hDy]; exact fun k => by cases k)
      refine WC.seq fun K2478 hK2478 => ?_
      -- region 18
      refine WC.region ?_
      -- R18.0 80 := law.go:130 next
      refine WL.v (v := .tuple #[.bool true, x.key, x.val]) (w' := w1) (r_next rfl hr) rfl rfl rfl ?_
      have st := st1
      -- R18.1 81 := law.go:130 extract
      refine WL.v (by first | exact r_extract (v := .bool _) rfl rfl | exact r_extract rfl rfl) rfl rfl rfl ?_
      refine WL.fin hK2478 (fun _ _ h => h) ?_
      refine WC.seq fun K2479 hK2479 => ?_
      refine WC.condT rfl rfl ?_
      refine WC.skipF hK2479 (fun _ _ h => h) ?_
      refine WC.block ?_
      refine WC.seq fun K2480 hK2480 => ?_
      -- region 19
      refine WC.region ?_
      -- R19.0 82 := law.go:130 entry
      refine WL.v (by exact r_mentry hE hx st rfl) rfl rfl rfl ?_
      -- R19.1 83 := law.go:130 extract
      refine WL.v (v := .int .i64 (c' : Nat)) (r_extract rfl (congrArg some hxk)) rfl rfl rfl ?_
      -- R19.2 84 := law.go:130 extract
      refine WL.v (v := .int .u64 (y : Nat)) (r_extract rfl (congrArg some hxv)) rfl rfl rfl ?_
      -- R19.3 12 := law.go:130 assign
      refine WL.v (by first | exact r_assign (v := .int _ _) rfl | exact r_assign rfl) rfl rfl rfl ?_
      -- R19.4 13 := law.go:130 assign
      refine WL.v (by first | exact r_assign (v := .int _ _) rfl | exact r_assign rfl) rfl rfl rfl ?_
      refine WL.fin hK2480 (fun _ _ h => h) ?_
      -- region 20
      refine WC.region ?_
      -- R20.0 85 := law.go:131 move
      refine WL.v (by first | exact r_move (v := .int _ _) rfl | exact r_move rfl) rfl rfl rfl ?_
      -- R20.1 86 := law.go:131 move
      refine WL.v (by first | exact r_move (v := .int _ _) rfl | exact r_move rfl) rfl rfl rfl ?_
      -- R20.2 87 := law.go:131 indexAddr
      refine WL.v (by exact r_indexA (j := c') ty_ar48 rfl rfl rfl hc12) rfl rfl rfl ?_
      -- R20.3 None := law.go:131 store
      refine WL.store (v := .int .u64 (y : Nat)) st.front2 ty_one26 rfl rfl rfl (by omega) rfl rfl ?_
      intro w st
      have st := (stE (uF_set (n := 12) (F := E) (i := c') (x := y)) st).back2
      refine WL.next hK3 (fun _ _ h => h) (updN E c' y, seen.push x.born) ⟨fun c => ?_, st⟩ (unseen_push hx hseen) (by repeat (first | exact sub_nil _ | refine sub_cons rfl rfl ?_))
      have hp := seenC_push (seen := seen) (d := c) hE.stamped hx hxk
      refine ⟨fun hs => ?_, fun hs => ?_⟩
      · show updN E c' y c = _
        by_cases e : c = c'
        · subst e; rw [updN_same, hDy]; rfl
        · rw [updN_ne e]
          exact (hsee c).1 ((hp.1 hs).resolve_right e)
      · show updN E c' y c = _
        have e : c ≠ c' := fun e => hs (hp.2 (.inr e))
        rw [updN_ne e]
        exact (hsee c).2 fun k => hs (hp.2 (.inl k))
  subst hkl
  rw [List.take_length, ← hcel] at st
  have hDe : mpI mb (Ts.foldl zapO D1) = mpI mb (odF s') := gather_congr fun i hi => by
    have : Ts.foldl zapO D1 i = odF s' i := by
      have h1 := foldl_zap (z := fun _ => none) Ts (F := D1) (t := i)
      have h2 : Ts.foldl zapO D1 i = if i ∈ Ts then (fun _ => none) else D1 i := h1
      rw [h2]
      funext c
      rw [hn i c, hTs]
      by_cases hb : (toldP ans 3).testBit i = true
      · rw [if_pos (tasksP_mem.2 ⟨hi, hb⟩), if_pos hb]
      · rw [if_neg (fun h => hb (tasksP_mem.1 h).2), if_neg hb]
    rw [this]
  rw [hDe] at st
  have hckX := hck.mono (l' := (b4, Row 48 12 (uF (s'.cells))) :: (b2, Row 36 10 fs) :: (b0, Row 73 16 (fun t => .map (some (mb t)))) :: (XT ++ (mpI mb (odF s') ++ l))) fun x hx => List.mem_cons_of_mem _ (List.mem_cons_of_mem _ (List.mem_cons_of_mem _ (List.mem_append_right _ (List.mem_append_right _ hx))))
  refine WC.seq fun K2481 hK2481 => ?_
  -- region 15
  refine WC.region ?_
  -- R15.0 73 := law.go:129 binOp
  refine WL.v (by first | exact r_lss rfl rfl (decide_eq_true (by omega)) | exact r_lss rfl rfl (decide_eq_false (by omega)) | exact r_lss rfl rfl rfl) rfl rfl rfl ?_
  refine WL.fin hK2481 (fun _ _ h => h) ?_
  refine WC.seq fun K2482 hK2482 => ?_
  refine WC.condF rfl rfl ?_
  refine WC.exitF hK2468 (fun _ _ h => h) ?_
  refine WC.seq fun K2483 hK2483 => ?_
  -- region 23 (draws)
  refine WC.quietS st ty_mixed (by kernel_rfl) fun Kq hKq => ?_
  -- R23.0 92 := law.go:135 fieldAddr
  refine QL.v (fun w st => by exact r_field ty_fld36_2 rfl) rfl rfl rfl ?_
  -- R23.1 93 := law.go:135 load
  refine QL.v (fun w st => by exact r_load1 (v := .pointer (some ⟨bA, 0, none⟩)) ty_one29 rfl (by rw [← f6]; exact st.c1 (by decide))) rfl rfl rfl ?_
  -- R23.2 94 := law.go:135 nilCheck
  refine QL.v (fun w st => by exact r_nilCheck rfl) rfl rfl rfl ?_
  -- R23.3 95 := law.go:135 fieldAddr
  refine QL.v (fun w st => by exact r_field ty_fld50_7 rfl) rfl rfl rfl ?_
  -- R23.4 96 := law.go:135 load
  refine QL.v (fun w st => by exact r_loadN (f := uF s'.cells) ty_agg48 rfl (fun k hk => c_s hckX.A (by omega) (by rw [show 0 + 759 + k = 759 + k by omega]; exact sF_w hk) st)) rfl rfl rfl ?_
  -- R23.5 97 := law.go:135 load
  refine QL.v (fun w st => by exact r_loadN (f := uF s'.cells) ty_agg48 rfl (fun k hk => by rw [Nat.zero_add]; exact st.c0 hk)) rfl rfl rfl ?_
  -- R23.6 98 := law.go:135 binOp
  refine QL.v (fun w st => by exact r_aeql (n := 12) (F := uF s'.cells) (G := uF s'.cells) (t := true) eqC List.length_replicate rfl rfl uF_fit ⟨fun _ _ _ => rfl, fun _ => rfl⟩) rfl rfl rfl ?_
  -- R23.7 3 := law.go:135 assign
  refine QL.v (fun w st => by first | exact r_assign (v := .bool _) rfl | exact r_assign rfl) rfl rfl rfl ?_
  refine QL.wl hKq fun w st => ?_
  refine WL.fin hK2483 (fun _ _ h => h) ?_
  refine WC.ret1 Tryz.results46 (fun _ _ h => h) rfl ?_
  refine ⟨_, rfl, rfl, ?_⟩
  exact st_dropL (st.drop.drop.perm (by classical exact List.perm_iff_count.2 fun x => by simp only [List.count_append, List.count_cons, List.count_nil, List.append_eq, List.cons_append, List.nil_append, List.append_assoc, Nat.add_zero, Nat.zero_add] <;> ac_rfl) : S0 w0 (XT ++ ((b0, Row 73 16 (fun t => .map (some (mb t)))) :: (mpI mb (odF s') ++ l))) _)
def rowK (mb : Nat → Nat) (k i : Nat) : Value := if i < k then .map (some (mb i)) else .map none
theorem rowK_set {mb : Nat → Nat} {k b : Nat} (hk : k < 16) : ∀ i, i < 16 → upd (rowK mb k) (0 + k * 1) (.map (some b)) i = rowK (updN mb k b) (k + 1) i := fun i hi => by
  rw [upd_eq]
  unfold rowK updN
  by_cases e : i = k
  · rw [if_pos (by omega), if_pos (by omega), if_pos e]
  · rw [if_neg (by omega)]
    by_cases h : i < k
    · rw [if_pos h, if_pos (by omega), if_neg e]
    · rw [if_neg h, if_neg (by omega)]
theorem gather_succ {n : Nat} {f : Nat → List HI} : gather (n + 1) f = gather n f ++ f n := by
  unfold gather
  rw [List.range_succ, List.flatMap_append]
  simp
set_option maxHeartbeats 1000000 in
theorem undo_ok (a : Option Addr) (sb so n c : Nat) (op : Nat → Kern.Op) (hD : gD w) (hS : Scr w sb so n op) (hn63 : n ≤ 140737488355328) (ha : 0 < n → a = some ⟨sb, so, none⟩) :
    Calls Tryz.prog 8 #[.slice a n c] w (Ret fun v w' => v = .bool true ∧ S0 w [] w') := by
  obtain ⟨W0, hW0⟩ : ∃ W0, W0 = w := ⟨_, rfl⟩
  have st : S0 W0 [] w := by rw [hW0]; exact St.init w _
  rw [← hW0] at hD hS
  rw [show (fun v w' => v = Value.bool true ∧ S0 w [] w') = (fun v w' => v = Value.bool true ∧ S0 W0 [] w') by rw [hW0]]
  clear hW0
  by_cases hn : n ≤ 65536
  · have hC : ∀ b0 mb, CheckOK W0 46 #[.pointer (some ⟨b0, 0, none⟩)] op n fun i LI => LI = (b0, Row 73 16 (fun t => .map (some (mb t)))) :: mpI mb (odF (runP op i)) := fun b0 mb => by
      rintro i bB bA qv qv' XS XS' ov XO LI Z w' hi rfl hQ st'
      have hK := run_KI op i
      have hI := run_INV op i
      have hpn := (pend_step (o := op i) hK.b hI hK.told).1
      refine (undo1_ok (s := runP op i) (s' := runP op (i + 1)) (l := QIs (runP op i) (runP op (i + 1)) bB bA qv qv' XS XS' XO Z) hD (fun a ha => ?_) (fun h0 h7 => ⟨(write_ok0 hK.b hI h7 h0).1, (write_ok0 hK.b hI h7 h0).2.1⟩) (fun h0 h89 => call_ok0 hK.b hI (by omega) (by omega) h0) (undo_old hK.b hI (run_VN op i) hK.told) (undo_cells' hK.b hI hK.told) (fun t c hne => ?_) (CK.of hQ) (st'.perm (by classical exact List.perm_iff_count.2 fun x => by simp only [List.count_append, List.count_cons, List.count_nil, List.append_eq, List.cons_append, List.nil_append, List.append_assoc, Nat.add_zero, Nat.zero_add] <;> ac_rfl))).mono ?_
      · obtain ⟨k, hk⟩ := List.getElem?_of_mem ha
        exact (PA_at hpn k a hk).1
      · unfold odM at hne
        split at hne
        · rename_i hw
          have hb := (write_ok0 hK.b hI hw.2 hw.1).2.1
          dsimp only at hne
          split at hne
          · rename_i e; omega
          · exact old_ec (fun i => hK.b.ec t i) hne
        · split at hne
          · dsimp only at hne
            split at hne
            · exact absurd rfl hne
            · exact old_ec (fun i => hK.b.ec t i) hne
          · exact old_ec (fun i => hK.b.ec t i) hne
      rintro e w'' ⟨v, rfl, rfl, st''⟩
      exact ⟨_, rfl, rfl, _, rfl, st''.perm (by classical exact List.perm_iff_count.2 fun x => by simp only [List.count_append, List.count_cons, List.count_nil, List.append_eq, List.cons_append, List.nil_append, List.append_assoc, Nat.add_zero, Nat.zero_add] <;> ac_rfl)⟩
    refine enter [.slice a n c] Tryz.func8 rfl Tryz.ntmps8 rfl ?_
    show WC _ _ _ 18 [] [(0, .slice a n c)] _
    refine WC.seq fun K2484 hK2484 => ?_
    -- region 0
    refine WC.region ?_
    -- R0.0 2 := law.go:105 assign
    refine WL.v (by first | exact r_assign (v := .bool _) rfl | exact r_assign rfl) rfl rfl rfl ?_
    refine WL.fin hK2484 (fun _ _ h => h) ?_
    refine WC.seq fun K2485 hK2485 => ?_
    refine WC.seq fun K2486 hK2486 => ?_
    -- region 1
    refine WC.region ?_
    -- R1.0 5 := law.go:106 move
    refine WL.v (by first | exact r_move (v := .slice _ _ _) rfl | exact r_move rfl) rfl rfl rfl ?_
    -- R1.1 6 := law.go:106 call
    refine WL.call (r_call ty_call23 rfl) rfl rfl rfl (zzSmall1_ok a n c st) ?_
    rintro _ w' ⟨he, st⟩
    rw [decide_eq_true hn] at he
    subst he
    -- R1.2 7 := law.go:106 unOp
    refine WL.v (by first | exact r_notT rfl | exact r_notF rfl | exact r_not rfl) rfl rfl rfl ?_
    refine WL.fin hK2486 (fun _ _ h => h) ?_
    refine WC.condF rfl rfl ?_
    refine WC.skipF hK2485 (fun _ _ h => h) ?_
    refine WC.seq fun K2487 hK2487 => ?_
    -- region 3
    refine WC.region ?_
    -- R3.0 3 := law.go:110 alloc
    refine WL.allocN (m := 16) st ty_zeroN73 rfl rfl ?_
    intro b3 w st
    refine WL.fin hK2487 (fun _ _ h => h) ?_
    refine WC.seq fun K2488 hK2488 => ?_
    refine WC.seq fun K2489 hK2489 => ?_
    -- region 4
    refine WC.region ?_
    -- R4.0 8 := law.go:111 move
    refine WL.v (by first | exact r_move (v := .int _ _) rfl | exact r_move rfl) rfl rfl rfl ?_
    refine WL.fin hK2489 (fun _ _ h => h) ?_
    refine WC.block ?_
    refine WC.loop (ι := Nat × (Nat → Nat)) (fun y => [(0, .slice a n c), (3, .pointer (some ⟨b3, 0, none⟩)), (8, .int .i64 (y.1 : Nat))])
      (fun y w' => y.1 ≤ 16 ∧ S0 W0 ((b3, Row 73 16 (rowK y.2 y.1)) :: gather y.1 fun t => [mpE (y.2 t) fun _ => none]) w') (fun y => 16 - y.1) (0, fun _ => 0) ⟨Nat.zero_le _, by exact stE (fun k hk => rfl) st⟩ ?_ ?_
    · skip
      repeat (first | exact sub_nil _ | refine sub_cons rfl rfl ?_)
    clear st
    rintro ⟨k, mb⟩ w ⟨hk, st⟩ K1 hK1
    dsimp only at hk st ⊢
    by_cases h16 : k = 16
    rotate_left
    · have hk' : k < 16 := by omega
      refine WC.seq fun K2490 hK2490 => ?_
      -- region 5
      refine WC.region ?_
      -- R5.0 9 := law.go:111 binOp
      refine WL.v (by first | exact r_lss rfl rfl (decide_eq_true (by omega)) | exact r_lss rfl rfl (decide_eq_false (by omega)) | exact r_lss rfl rfl rfl) rfl rfl rfl ?_
      refine WL.fin hK2490 (fun _ _ h => h) ?_
      refine WC.seq fun K2491 hK2491 => ?_
      refine WC.condT rfl rfl ?_
      refine WC.skipF hK2491 (fun _ _ h => h) ?_
      refine WC.seq fun K2492 hK2492 => ?_
      refine WC.block ?_
      refine WC.seq fun K2493 hK2493 => ?_
      -- region 6
      refine WC.region ?_
      -- R6.0 10 := law.go:111 move
      refine WL.v (by first | exact r_move (v := .int _ _) rfl | exact r_move rfl) rfl rfl rfl ?_
      -- R6.1 4 := law.go:111 assign
      refine WL.v (by first | exact r_assign (v := .int _ _) rfl | exact r_assign rfl) rfl rfl rfl ?_
      refine WL.fin hK2493 (fun _ _ h => h) ?_
      -- region 7
      refine WC.region ?_
      -- R7.0 11 := law.go:112 move
      refine WL.v (by first | exact r_move (v := .int _ _) rfl | exact r_move rfl) rfl rfl rfl ?_
      -- R7.1 12 := law.go:112 makeMap
      refine WL.mkmap (keyGood Go.Proofs.Tryz.prog 74) st rfl rfl ?_
      intro bm w st
      rw [← gOf_none, ← odV_none] at st
      -- R7.2 13 := law.go:112 indexAddr
      refine WL.v (by exact r_indexA (j := k) ty_ar73 rfl rfl rfl hk') rfl rfl rfl ?_
      -- R7.3 None := law.go:112 store
      refine WL.store (v := .map (some bm)) st.front1 ty_one72 rfl rfl rfl (by omega) rfl rfl ?_
      intro w st
      have st := stE (rowK_set hk') st
      refine WL.fin hK2492 (fun _ _ h => h) ?_
      -- region 8
      refine WC.region ?_
      -- R8.0 14 := law.go:111 binOp
      refine WL.v (by first | exact r_add rfl rfl (wi64 (by omega) (by omega)) | exact r_add rfl rfl rfl) rfl rfl rfl ?_
      -- R8.1 8 := law.go:111 move
      refine WL.v (by first | exact r_move (v := .int _ _) rfl | exact r_move rfl) rfl rfl rfl ?_
      refine WL.next hK1 (fun _ _ h => h) (k + 1, updN mb k bm) ⟨hk', ?_⟩ (by show 16 - (k + 1) < 16 - k; omega) (by repeat (first | exact sub_nil _ | refine sub_cons rfl rfl ?_))
      dsimp only
      rw [gather_succ, gather_congr (g := fun t => [mpE (mb t) fun _ => none]) (fun i hi => by rw [updN_ne (by omega)]), updN_same]
      exact st.perm (by classical exact List.perm_iff_count.2 fun x => by simp only [List.count_append, List.count_cons, List.count_nil, List.append_eq, List.cons_append, List.nil_append, List.append_assoc, Nat.add_zero, Nat.zero_add] <;> ac_rfl)
    subst h16
    refine WC.seq fun K2494 hK2494 => ?_
    -- region 5
    refine WC.region ?_
    -- R5.0 9 := law.go:111 binOp
    refine WL.v (by first | exact r_lss rfl rfl (decide_eq_true (by omega)) | exact r_lss rfl rfl (decide_eq_false (by omega)) | exact r_lss rfl rfl rfl) rfl rfl rfl ?_
    refine WL.fin hK2494 (fun _ _ h => h) ?_
    refine WC.seq fun K2495 hK2495 => ?_
    refine WC.condF rfl rfl ?_
    refine WC.exitF hK2488 (fun _ _ h => h) ?_
    refine WC.seq fun K2496 hK2496 => ?_
    -- region 9
    refine WC.region ?_
    -- R9.0 15 := law.go:114 move
    refine WL.v (by first | exact r_move (v := .slice _ _ _) rfl | exact r_move rfl) rfl rfl rfl ?_
    -- R9.1 16 := law.go:114 makeFunc
    refine WL.v (by exact r_mkfn rfl rfl) rfl rfl rfl ?_
    -- R9.2 17 := law.go:114 call
    have st := (stE (g := fun t => .map (some (mb t))) (fun k hk => by unfold rowK; rw [if_pos hk]) st : S0 _ ((((b3, Row 73 16 (fun t => .map (some (mb t))))) :: mpI mb (odF (runP op 0))) ++ []) _)
    refine WL.call (r_call ty_call24 rfl) rfl rfl rfl (play_ok (l := []) ty_call46 hD hS hn ha (hC b3 mb) rfl st) ?_
    rintro _ w'' ⟨rfl, LI', rfl, st⟩
    -- R9.3 2 := law.go:114 assign
    refine WL.v (by first | exact r_assign (v := .bool _) rfl | exact r_assign rfl) rfl rfl rfl ?_
    refine WL.fin hK2496 (fun _ _ h => h) ?_
    refine WC.ret1 Tryz.results8 (fun _ _ h => h) rfl ?_
    exact ⟨_, rfl, rfl, st.sublist (List.nil_sublist _)⟩
  · skip
    refine enter [.slice a n c] Tryz.func8 rfl Tryz.ntmps8 rfl ?_
    show WC _ _ _ 18 [] [(0, .slice a n c)] _
    refine WC.seq fun K2497 hK2497 => ?_
    -- region 0
    refine WC.region ?_
    -- R0.0 2 := law.go:105 assign
    refine WL.v (by first | exact r_assign (v := .bool _) rfl | exact r_assign rfl) rfl rfl rfl ?_
    refine WL.fin hK2497 (fun _ _ h => h) ?_
    refine WC.seq fun K2498 hK2498 => ?_
    refine WC.seq fun K2499 hK2499 => ?_
    -- region 1
    refine WC.region ?_
    -- R1.0 5 := law.go:106 move
    refine WL.v (by first | exact r_move (v := .slice _ _ _) rfl | exact r_move rfl) rfl rfl rfl ?_
    -- R1.1 6 := law.go:106 call
    refine WL.call (r_call ty_call23 rfl) rfl rfl rfl (zzSmall1_ok a n c st) ?_
    rintro _ w' ⟨he, st⟩
    rw [decide_eq_false hn] at he
    subst he
    -- R1.2 7 := law.go:106 unOp
    refine WL.v (by first | exact r_notT rfl | exact r_notF rfl | exact r_not rfl) rfl rfl rfl ?_
    refine WL.fin hK2499 (fun _ _ h => h) ?_
    refine WC.condT rfl rfl ?_
    refine WC.seq fun K2500 hK2500 => ?_
    -- region 2
    refine WC.region ?_
    -- R2.0 2 := law.go:107 assign
    refine WL.v (by first | exact r_assign (v := .bool _) rfl | exact r_assign rfl) rfl rfl rfl ?_
    refine WL.fin hK2500 (fun _ _ h => h) ?_
    refine WC.ret1 Tryz.results8 (fun _ _ h => h) rfl ?_
    exact ⟨_, rfl, rfl, st⟩
end Go.Proofs.Qxb6500834aGreatDoor

