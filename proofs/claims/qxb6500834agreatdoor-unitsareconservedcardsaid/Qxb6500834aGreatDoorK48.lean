import Derived.Test.Qxb6500834aGreatDoorK44
set_option linter.unusedVariables false
set_option linter.unusedSimpArgs false
set_option maxRecDepth 20000
namespace Go.Proofs.Qxb6500834aGreatDoor
open Go.RowKit Go.E1 Go.Kern
theorem ty_agg76 : aggT Tryz.prog 76 = some 16 := by kernel_rfl
theorem ty_call57 : callT Tryz.prog 57 = true := by kernel_rfl
variable {w0 : World} {l X : List HI} {w : World} {s s' s0 : KS} {t r N n : Nat} {qv qv' : Nat → Value}

/-! Law: units are conserved. -/
def cqP (queue : Nat → List (Nat × Nat)) (r t : Nat) : Nat := sumP (fun a => (queue a).countP fun p => p.1 == t) r
def cqK (queue : Nat → List (Nat × Nat)) (r k t : Nat) : Int := ((cqP queue r t + ((queue r).take k).countP fun p => p.1 == t : Nat) : Int)
def hcP (held : Nat → Nat → Nat) (r k : Nat) : Nat := sumP (fun t => if 0 < held t r then 1 else 0) k
theorem cqK_zero {queue : Nat → List (Nat × Nat)} : cqK queue r 0 = fun t => (cqP queue r t : Int) := by
  funext t; unfold cqK; rw [List.take_zero, List.countP_nil]; rfl
theorem cqK_end {queue : Nat → List (Nat × Nat)} : cqK queue r (queue r).length = fun t => (cqP queue (r + 1) t : Int) := by
  funext t; unfold cqK; rw [List.take_length]; rfl
theorem cqK_step {queue : Nat → List (Nat × Nat)} {k : Nat} {e : Nat × Nat} (he : (queue r)[k]? = some e) : cqK queue r (k + 1) = updN (cqK queue r k) e.1 (cqK queue r k e.1 + 1) := by
  funext t
  unfold cqK updN
  have : (queue r).take (k + 1) = (queue r).take k ++ [e] := by rw [List.take_add_one, he]; rfl
  rw [this, List.countP_append, List.countP_cons, List.countP_nil]
  by_cases h : t = e.1
  · subst h; simp; omega
  · have h2 : (e.1 == t) = false := by simpa using fun k => h k.symm
    rw [if_neg h, h2]; simp
theorem cq_le {queue : Nat → List (Nat × Nat)} : ∀ n, cqP queue n t ≤ sumP (fun r => (queue r).length) n
  | 0 => Nat.le_refl _
  | n + 1 => by
    have := cq_le (queue := queue) n
    have h2 : (queue n).countP (fun p => p.1 == t) ≤ (queue n).length := List.countP_le_length
    show cqP queue n t + _ ≤ sumP _ n + _
    exact Nat.add_le_add this h2
theorem sum_le_n {f : Nat → Nat} {m r : Nat} (h : r < m) : sumP f (r + 1) ≤ sumP f m := by
  induction m with
  | zero => omega
  | succ m ih =>
    by_cases e : r = m
    · subst e; exact Nat.le_refl _
    · have := ih (by omega)
      show _ ≤ sumP f m + f m
      omega
theorem hc_one {held : Nat → Nat → Nat} {k : Nat} (h : ∀ t, held t r = 0 ∨ held t r = 1 ∨ held t r = 16) (hs : sumP (fun t => held t r) 16 ≤ 16) (hlt : hcP held r 16 < sumP (fun t => held t r) 16) : hcP held r 16 ≤ 1 := by
  have key : ∀ n, (∀ t, t < n → held t r ≠ 16) → sumP (fun t => held t r) n = hcP held r n := by
    intro n
    induction n with
    | zero => intro _; rfl
    | succ n ih =>
      intro h16
      have h1 := ih fun t ht => h16 t (by omega)
      have h2 := h n
      have h3 := h16 n (by omega)
      show sumP (fun t => held t r) n + held n r = hcP held r n + (if 0 < held n r then 1 else 0)
      rw [h1]
      split <;> omega
  have key2 : ∀ n, (∃ t, t < n ∧ held t r = 16) → 16 ≤ sumP (fun t => held t r) n ∧ (1 < hcP held r n → 16 < sumP (fun t => held t r) n) := by
    intro n
    induction n with
    | zero => rintro ⟨t, ht, _⟩; omega
    | succ n ih =>
      rintro ⟨t, ht, he⟩
      have e1 : sumP (fun t => held t r) (n + 1) = sumP (fun t => held t r) n + held n r := rfl
      have e2 : hcP held r (n + 1) = hcP held r n + (if 0 < held n r then 1 else 0) := rfl
      by_cases hx : ∃ t, t < n ∧ held t r = 16
      · have := ih hx
        rw [e1, e2]
        split <;> omega
      · have hn : held n r = 16 := by
          by_cases e : t = n
          · rw [← e]; exact he
          · exact absurd ⟨t, by omega, he⟩ hx
        have := key n fun t ht k => hx ⟨t, ht, k⟩
        rw [e1, e2, this, hn, if_pos (by omega)]
        omega
  by_cases hx : ∃ t, t < 16 ∧ held t r = 16
  · have := key2 16 hx
    omega
  · have := key 16 fun t ht k => hx ⟨t, ht, k⟩
    omega
set_option maxHeartbeats 4000000 in
theorem units1_ok {o : Kern.Op} {bB bA : Nat} {code task : Int} {ov : Value} {ans : List (Nat × Nat × Nat)}  (hI : INV s') (hB : KB N s') (hN : N ≤ 100000) (hck : CK s s' ans bB bA qv qv' ov l) (st : S0 w0 l w) :
    Calls Tryz.prog 57 #[.agg (stepL o bB bA code task ov).toArray] w (Ret fun v w' => v = .bool true ∧ S0 w0 l w') := by
  obtain ⟨XO, ho, hXO⟩ := hck.a
  obtain ⟨a, c, b, rfl, hc1, hc2, ha, hcell⟩ := ho.form
  obtain ⟨fs, hfs⟩ : ∃ fs : Nat → Value, fs = nth (stepL o bB bA code task (.slice a ans.length c)) := ⟨_, rfl⟩
  have f6 : fs 6 = .pointer (some ⟨bA, 0, none⟩) := by rw [hfs]; rfl
  refine enter [.agg (stepL o bB bA code task (.slice a ans.length c)).toArray] Tryz.func57 rfl Tryz.ntmps57 rfl ?_
  show WC _ _ _ 161 [] [(0, .agg (stepL o bB bA code task (.slice a ans.length c)).toArray)] _
  refine WC.seq fun K1630 hK1630 => ?_
  -- region 0
  refine WC.region ?_
  -- R0.0 1 := law.go:338 box
  refine WL.box (m := 10) (vs := stepL o bB bA code task (.slice a ans.length c)) st rfl rfl rfl rfl rfl rfl ?_
  intro b1 w st
  have st : S0 w0 ((b1, Row 36 10 fs) :: l) w := by rw [hfs]; exact st
  -- R0.1 2 := law.go:338 assign
  refine WL.v (by first | exact r_assign (v := .bool _) rfl | exact r_assign rfl) rfl rfl rfl ?_
  refine WL.fin hK1630 (fun _ _ h => h) ?_
  refine WC.seq fun K1631 hK1631 => ?_
  -- region 1
  refine WC.region ?_
  -- R1.0 3 := law.go:339 alloc
  refine WL.allocN (m := 16) st ty_zeroN76 rfl rfl ?_
  intro b3 w st
  refine WL.fin hK1631 (fun _ _ h => h) ?_
  refine WC.seq fun K1632 hK1632 => ?_
  refine WC.seq fun K1633 hK1633 => ?_
  -- region 2
  refine WC.region ?_
  -- R2.0 4 := law.go:340 assign
  refine WL.v (by first | exact r_assign (v := .int _ _) rfl | exact r_assign rfl) rfl rfl rfl ?_
  refine WL.fin hK1633 (fun _ _ h => h) ?_
  refine WC.block ?_
  have st : S0 w0 ((b3, Row 76 16 (iF fun t => (cqP s'.queue 0 t : Int))) :: (b1, Row 36 10 fs) :: l) w := st
  refine WC.loop (ι := Nat) (fun r => [(1, .pointer (some ⟨b1, 0, none⟩)), (3, .pointer (some ⟨b3, 0, none⟩)), (4, .int .i64 (r : Nat))])
    (fun r w' => r ≤ 20 ∧ S0 w0 ((b3, Row 76 16 (iF fun t => (cqP s'.queue r t : Int))) :: (b1, Row 36 10 fs) :: l) w') (fun r => 20 - r) 0 ⟨Nat.zero_le _, st⟩ ?_ ?_
  · skip
    repeat (first | exact sub_nil _ | refine sub_cons rfl rfl ?_)
  clear st
  rintro r w ⟨hr, st⟩ K1 hK1
  have hck2 := (hck.c (a := (b1, Row 36 10 fs))).c (a := (b3, Row 76 16 (iF fun t => (cqP s'.queue r t : Int))))
  by_cases h20 : r = 20
  rotate_left
  · have hr' : r < 20 := by omega
    refine WC.seq fun K1634 hK1634 => ?_
    refine WC.seq fun K1635 hK1635 => ?_
    -- region 3
    refine WC.region ?_
    -- R3.0 14 := law.go:340 move
    refine WL.v (by first | exact r_move (v := .int _ _) rfl | exact r_move rfl) rfl rfl rfl ?_
    -- R3.1 15 := law.go:340 binOp
    refine WL.v (by first | exact r_lss rfl rfl (decide_eq_true (by omega)) | exact r_lss rfl rfl (decide_eq_false (by omega)) | exact r_lss rfl rfl rfl) rfl rfl rfl ?_
    refine WL.fin hK1635 (fun _ _ h => h) ?_
    refine WC.condT rfl rfl ?_
    refine WC.skipF hK1634 (fun _ _ h => h) ?_
    refine WC.seq fun K1636 hK1636 => ?_
    refine WC.block ?_
    refine WC.seq fun K1637 hK1637 => ?_
    -- region 5
    refine WC.region ?_
    -- R5.0 5 := law.go:341 assign
    refine WL.v (by first | exact r_assign (v := .int _ _) rfl | exact r_assign rfl) rfl rfl rfl ?_
    -- R5.1 6 := law.go:341 assign
    refine WL.v (by first | exact r_assign (v := .int _ _) rfl | exact r_assign rfl) rfl rfl rfl ?_
    refine WL.fin hK1637 (fun _ _ h => h) ?_
    refine WC.seq fun K1638 hK1638 => ?_
    refine WC.seq fun K1639 hK1639 => ?_
    -- region 6
    refine WC.region ?_
    -- R6.0 18 := law.go:342 move
    refine WL.v (by first | exact r_move (v := .int _ _) rfl | exact r_move rfl) rfl rfl rfl ?_
    refine WL.fin hK1639 (fun _ _ h => h) ?_
    refine WC.block ?_
    refine WC.loop (ι := Nat) (fun t => [(1, .pointer (some ⟨b1, 0, none⟩)), (3, .pointer (some ⟨b3, 0, none⟩)), (4, .int .i64 (r : Nat)), (5, .int .i64 (sumP (fun t => s'.held t r) t : Nat)), (6, .int .i64 (hcP s'.held r t : Nat)), (18, .int .i64 (t : Nat))])
      (fun t w' => t ≤ 16 ∧ S0 w0 ((b3, Row 76 16 (iF fun t => (cqP s'.queue r t : Int))) :: (b1, Row 36 10 fs) :: l) w') (fun t => 16 - t) 0 ⟨Nat.zero_le _, st⟩ ?_ ?_
    · skip
      repeat (first | exact sub_nil _ | refine sub_cons rfl rfl ?_)
    clear st
    rintro t w ⟨ht, st⟩ K2 hK2
    have hsum := hI.su r
    have htot := totP_le r
    have hmn := fun h : t < 16 => sum_le_n (f := fun t => s'.held t r) h
    have hhc : hcP s'.held r t ≤ t := by
      clear hmn ht hK2 st
      induction t with
      | zero => exact Nat.le_refl _
      | succ t ih => show hcP s'.held r t + (if 0 < s'.held t r then 1 else 0) ≤ t + 1; split <;> omega
    by_cases h16 : t = 16
    rotate_left
    · have ht' : t < 16 := by omega
      have hmn := hmn ht'
      have es : sumP (fun t => s'.held t r) (t + 1) = sumP (fun t => s'.held t r) t + s'.held t r := rfl
      by_cases hpos : 0 < s'.held t r
      · have hlv : (s'.tk t).live = true := hI.hl t r (by omega)
        have hlv2 := hlv
        have ec : hcP s'.held r (t + 1) = hcP s'.held r t + 1 := by show hcP s'.held r t + (if 0 < s'.held t r then 1 else 0) = _; rw [if_pos hpos]
        by_cases hcl : s'.claim t r = 0
        · skip
          by_cases h8 : 8 ≤ r
          · have hlk := hI.lk t r h8
            by_cases hn1 : s'.held t r = 1
            · skip
              refine WC.seq fun K1640 hK1640 => ?_
              -- region 7
              refine WC.region ?_
              -- R7.0 19 := law.go:342 binOp
              refine WL.v (by first | exact r_lss rfl rfl (decide_eq_true (by omega)) | exact r_lss rfl rfl (decide_eq_false (by omega)) | exact r_lss rfl rfl rfl) rfl rfl rfl ?_
              refine WL.fin hK1640 (fun _ _ h => h) ?_
              refine WC.seq fun K1641 hK1641 => ?_
              refine WC.condT rfl rfl ?_
              refine WC.skipF hK1641 (fun _ _ h => h) ?_
              refine WC.seq fun K1642 hK1642 => ?_
              refine WC.block ?_
              refine WC.seq fun K1643 hK1643 => ?_
              -- region 8
              refine WC.region ?_
              -- R8.0 20 := law.go:342 move
              refine WL.v (by first | exact r_move (v := .int _ _) rfl | exact r_move rfl) rfl rfl rfl ?_
              -- R8.1 7 := law.go:342 assign
              refine WL.v (by first | exact r_assign (v := .int _ _) rfl | exact r_assign rfl) rfl rfl rfl ?_
              refine WL.fin hK1643 (fun _ _ h => h) ?_
              refine WC.seq fun K1644 hK1644 => ?_
              -- region 9
              refine WC.region ?_
              -- R9.0 21 := law.go:343 fieldAddr
              refine WL.v (by exact r_field ty_fld36_2 rfl) rfl rfl rfl ?_
              -- R9.1 22 := law.go:343 load
              refine WL.v (by exact r_load1 (v := .pointer (some ⟨bA, 0, none⟩)) ty_one29 rfl (by rw [← f6]; exact st.c1 (by decide))) rfl rfl rfl ?_
              -- R9.2 23 := law.go:343 move
              refine WL.v (by first | exact r_move (v := .int _ _) rfl | exact r_move rfl) rfl rfl rfl ?_
              -- R9.3 24 := law.go:343 move
              refine WL.v (by first | exact r_move (v := .int _ _) rfl | exact r_move rfl) rfl rfl rfl ?_
              -- R9.4 25 := law.go:343 nilCheck
              refine WL.v (by exact r_nilCheck rfl) rfl rfl rfl ?_
              -- R9.5 26 := law.go:343 fieldAddr
              refine WL.v (by exact r_field ty_fld50_4 rfl) rfl rfl rfl ?_
              -- R9.6 27 := law.go:343 indexAddr
              refine WL.v (by exact r_indexA (j := t) ty_ar45 rfl rfl rfl ht') rfl rfl rfl ?_
              -- R9.7 28 := law.go:343 indexAddr
              refine WL.v (by exact r_indexA (j := r) ty_ar44 rfl rfl rfl hr') rfl rfl rfl ?_
              -- R9.8 29 := law.go:343 load
              refine WL.v (by exact r_load1 (v := .int .i64 (s'.held t r : Nat)) ty_one3 rfl (c_sH hck2.A ht' hr' (by omega) st)) rfl rfl rfl ?_
              -- R9.9 8 := law.go:343 assign
              refine WL.v (by first | exact r_assign (v := .int _ _) rfl | exact r_assign rfl) rfl rfl rfl ?_
              refine WL.fin hK1644 (fun _ _ h => h) ?_
              refine WC.seq fun K1645 hK1645 => ?_
              refine WC.seq fun K1646 hK1646 => ?_
              -- region 10
              refine WC.region ?_
              -- R10.0 30 := law.go:344 move
              refine WL.v (by first | exact r_move (v := .int _ _) rfl | exact r_move rfl) rfl rfl rfl ?_
              -- R10.1 31 := law.go:344 binOp
              refine WL.v (by first | exact r_lss rfl rfl (decide_eq_true (by omega)) | exact r_lss rfl rfl (decide_eq_false (by omega)) | exact r_lss rfl rfl rfl) rfl rfl rfl ?_
              -- R10.2 32 := law.go:344 move
              refine WL.v (by first | exact r_move (v := .bool _) rfl | exact r_move rfl) rfl rfl rfl ?_
              -- R10.3 33 := law.go:344 move
              refine WL.v (by first | exact r_move (v := .int _ _) rfl | exact r_move rfl) rfl rfl rfl ?_
              -- R10.4 34 := law.go:344 binOp
              refine WL.v (by first | exact r_gtr rfl rfl (decide_eq_true (by omega)) | exact r_gtr rfl rfl (decide_eq_false (by omega)) | exact r_gtr rfl rfl rfl) rfl rfl rfl ?_
              -- R10.5 35 := law.go:344 move
              refine WL.v (by first | exact r_move (v := .bool _) rfl | exact r_move rfl) rfl rfl rfl ?_
              -- R10.6 36 := law.go:344 fieldAddr
              refine WL.v (by exact r_field ty_fld36_2 rfl) rfl rfl rfl ?_
              -- R10.7 37 := law.go:344 load
              refine WL.v (by exact r_load1 (v := .pointer (some ⟨bA, 0, none⟩)) ty_one29 rfl (by rw [← f6]; exact st.c1 (by decide))) rfl rfl rfl ?_
              -- R10.8 38 := law.go:344 move
              refine WL.v (by first | exact r_move (v := .int _ _) rfl | exact r_move rfl) rfl rfl rfl ?_
              -- R10.9 39 := law.go:344 nilCheck
              refine WL.v (by exact r_nilCheck rfl) rfl rfl rfl ?_
              -- R10.10 40 := law.go:344 fieldAddr
              refine WL.v (by exact r_field ty_fld50_3 rfl) rfl rfl rfl ?_
              -- R10.11 41 := law.go:344 indexAddr
              refine WL.v (by exact r_indexA (j := t) ty_ar43 rfl rfl rfl ht') rfl rfl rfl ?_
              -- R10.12 42 := law.go:344 fieldAddr
              refine WL.v (by exact r_field ty_fld42_0 rfl) rfl rfl rfl ?_
              -- R10.13 43 := law.go:344 load
              refine WL.v (by exact r_load1 (v := .bool true) ty_one4 rfl (by rw [← hlv]; exact c_sT hck2.A ht' (j := 0) (by decide) (by omega) st)) rfl rfl rfl ?_
              -- R10.14 44 := law.go:344 unOp
              refine WL.v (by first | exact r_notT rfl | exact r_notF rfl | exact r_not rfl) rfl rfl rfl ?_
              -- R10.15 45 := law.go:344 pick
              refine WL.v (by first | exact r_pickT (v := .bool _) rfl rfl | exact r_pickF (v := .bool _) rfl rfl) rfl rfl rfl ?_
              -- R10.16 46 := law.go:344 pick
              refine WL.v (by first | exact r_pickT (v := .bool _) rfl rfl | exact r_pickF (v := .bool _) rfl rfl) rfl rfl rfl ?_
              -- R10.17 47 := law.go:344 move
              refine WL.v (by first | exact r_move (v := .bool _) rfl | exact r_move rfl) rfl rfl rfl ?_
              -- R10.18 48 := law.go:344 fieldAddr
              refine WL.v (by exact r_field ty_fld36_2 rfl) rfl rfl rfl ?_
              -- R10.19 49 := law.go:344 load
              refine WL.v (by exact r_load1 (v := .pointer (some ⟨bA, 0, none⟩)) ty_one29 rfl (by rw [← f6]; exact st.c1 (by decide))) rfl rfl rfl ?_
              -- R10.20 50 := law.go:344 move
              refine WL.v (by first | exact r_move (v := .int _ _) rfl | exact r_move rfl) rfl rfl rfl ?_
              -- R10.21 51 := law.go:344 move
              refine WL.v (by first | exact r_move (v := .int _ _) rfl | exact r_move rfl) rfl rfl rfl ?_
              -- R10.22 52 := law.go:344 nilCheck
              refine WL.v (by exact r_nilCheck rfl) rfl rfl rfl ?_
              -- R10.23 53 := law.go:344 fieldAddr
              refine WL.v (by exact r_field ty_fld50_5 rfl) rfl rfl rfl ?_
              -- R10.24 54 := law.go:344 indexAddr
              refine WL.v (by exact r_indexA (j := t) ty_ar45 rfl rfl rfl ht') rfl rfl rfl ?_
              -- R10.25 55 := law.go:344 indexAddr
              refine WL.v (by exact r_indexA (j := r) ty_ar44 rfl rfl rfl hr') rfl rfl rfl ?_
              -- R10.26 56 := law.go:344 load
              refine WL.v (by exact r_load1 (v := .int .i64 (s'.claim t r : Nat)) ty_one3 rfl (c_sC hck2.A ht' hr' (by omega) st)) rfl rfl rfl ?_
              -- R10.27 57 := law.go:344 binOp
              refine WL.v (by first | exact r_neq rfl rfl (decide_eq_true (by omega)) | exact r_neq rfl rfl (decide_eq_false (by omega)) | exact r_neq rfl rfl rfl) rfl rfl rfl ?_
              -- R10.28 58 := law.go:344 move
              refine WL.v (by first | exact r_move (v := .bool _) rfl | exact r_move rfl) rfl rfl rfl ?_
              -- R10.29 59 := law.go:344 fieldAddr
              refine WL.no rfl rfl ?_
              -- R10.30 60 := law.go:344 load
              refine WL.no rfl rfl ?_
              -- R10.31 61 := law.go:344 move
              refine WL.no rfl rfl ?_
              -- R10.32 62 := law.go:344 nilCheck
              refine WL.no rfl rfl ?_
              -- R10.33 63 := law.go:344 fieldAddr
              refine WL.no rfl rfl ?_
              -- R10.34 64 := law.go:344 indexAddr
              refine WL.no rfl rfl ?_
              -- R10.35 65 := law.go:344 fieldAddr
              refine WL.no rfl rfl ?_
              -- R10.36 66 := law.go:344 load
              refine WL.no rfl rfl ?_
              -- R10.37 67 := law.go:344 unOp
              refine WL.no rfl rfl ?_
              -- R10.38 68 := law.go:344 pick
              refine WL.v (by first | exact r_pickT (v := .bool _) rfl rfl | exact r_pickF (v := .bool _) rfl rfl) rfl rfl rfl ?_
              -- R10.39 69 := law.go:344 pick
              refine WL.v (by first | exact r_pickT (v := .bool _) rfl rfl | exact r_pickF (v := .bool _) rfl rfl) rfl rfl rfl ?_
              refine WL.fin hK1646 (fun _ _ h => h) ?_
              refine WC.condF rfl rfl ?_
              refine WC.skipF hK1645 (fun _ _ h => h) ?_
              refine WC.seq fun K1647 hK1647 => ?_
              refine WC.seq fun K1648 hK1648 => ?_
              -- region 12
              refine WC.region ?_
              -- R12.0 70 := law.go:347 move
              refine WL.v (by first | exact r_move (v := .int _ _) rfl | exact r_move rfl) rfl rfl rfl ?_
              -- R12.1 71 := law.go:347 binOp
              refine WL.v (by first | exact r_geq rfl rfl (decide_eq_true (by omega)) | exact r_geq rfl rfl (decide_eq_false (by omega)) | exact r_geq rfl rfl rfl) rfl rfl rfl ?_
              -- R12.2 72 := law.go:347 move
              refine WL.v (by first | exact r_move (v := .bool _) rfl | exact r_move rfl) rfl rfl rfl ?_
              -- R12.3 73 := law.go:347 move
              refine WL.v (by first | exact r_move (v := .int _ _) rfl | exact r_move rfl) rfl rfl rfl ?_
              -- R12.4 74 := law.go:347 binOp
              refine WL.v (by first | exact r_neq rfl rfl (decide_eq_true (by omega)) | exact r_neq rfl rfl (decide_eq_false (by omega)) | exact r_neq rfl rfl rfl) rfl rfl rfl ?_
              -- R12.5 75 := law.go:347 pick
              refine WL.v (by first | exact r_pickT (v := .bool _) rfl rfl | exact r_pickF (v := .bool _) rfl rfl) rfl rfl rfl ?_
              -- R12.6 76 := law.go:347 move
              refine WL.v (by first | exact r_move (v := .bool _) rfl | exact r_move rfl) rfl rfl rfl ?_
              -- R12.7 77 := law.go:347 move
              refine WL.v (by first | exact r_move (v := .int _ _) rfl | exact r_move rfl) rfl rfl rfl ?_
              -- R12.8 78 := law.go:347 binOp
              refine WL.v (by first | exact r_neq rfl rfl (decide_eq_true (by omega)) | exact r_neq rfl rfl (decide_eq_false (by omega)) | exact r_neq rfl rfl rfl) rfl rfl rfl ?_
              -- R12.9 79 := law.go:347 pick
              refine WL.v (by first | exact r_pickT (v := .bool _) rfl rfl | exact r_pickF (v := .bool _) rfl rfl) rfl rfl rfl ?_
              -- R12.10 80 := law.go:347 move
              refine WL.v (by first | exact r_move (v := .bool _) rfl | exact r_move rfl) rfl rfl rfl ?_
              -- R12.11 81 := law.go:347 move
              refine WL.no rfl rfl ?_
              -- R12.12 82 := law.go:347 binOp
              refine WL.no rfl rfl ?_
              -- R12.13 83 := law.go:347 pick
              refine WL.v (by first | exact r_pickT (v := .bool _) rfl rfl | exact r_pickF (v := .bool _) rfl rfl) rfl rfl rfl ?_
              refine WL.fin hK1648 (fun _ _ h => h) ?_
              refine WC.condF rfl rfl ?_
              refine WC.skipF hK1647 (fun _ _ h => h) ?_
              refine WC.seq fun K1649 hK1649 => ?_
              refine WC.seq fun K1650 hK1650 => ?_
              -- region 14
              refine WC.region ?_
              -- R14.0 84 := law.go:350 move
              refine WL.v (by first | exact r_move (v := .int _ _) rfl | exact r_move rfl) rfl rfl rfl ?_
              -- R14.1 85 := law.go:350 binOp
              refine WL.v (by first | exact r_gtr rfl rfl (decide_eq_true (by omega)) | exact r_gtr rfl rfl (decide_eq_false (by omega)) | exact r_gtr rfl rfl rfl) rfl rfl rfl ?_
              refine WL.fin hK1650 (fun _ _ h => h) ?_
              refine WC.condT rfl rfl ?_
              -- region 15
              refine WC.region ?_
              -- R15.0 86 := law.go:351 move
              refine WL.v (by first | exact r_move (v := .int _ _) rfl | exact r_move rfl) rfl rfl rfl ?_
              -- R15.1 87 := law.go:351 binOp
              refine WL.v (by exact r_add (r := ((hcP s'.held r (t + 1) : Nat) : Int)) rfl rfl ((wi64 (by omega) (by omega)).trans (by omega))) rfl rfl rfl ?_
              -- R15.2 6 := law.go:351 assign
              refine WL.v (by first | exact r_assign (v := .int _ _) rfl | exact r_assign rfl) rfl rfl rfl ?_
              refine WL.fin hK1649 (fun _ _ h => h) ?_
              -- region 16
              refine WC.region ?_
              -- R16.0 88 := law.go:353 move
              refine WL.v (by first | exact r_move (v := .int _ _) rfl | exact r_move rfl) rfl rfl rfl ?_
              -- R16.1 89 := law.go:353 move
              refine WL.v (by first | exact r_move (v := .int _ _) rfl | exact r_move rfl) rfl rfl rfl ?_
              -- R16.2 90 := law.go:353 binOp
              refine WL.v (by exact r_add (r := ((sumP (fun t => s'.held t r) (t + 1) : Nat) : Int)) rfl rfl ((wi64 (by omega) (by omega)).trans (by omega))) rfl rfl rfl ?_
              -- R16.3 5 := law.go:353 assign
              refine WL.v (by first | exact r_assign (v := .int _ _) rfl | exact r_assign rfl) rfl rfl rfl ?_
              refine WL.fin hK1642 (fun _ _ h => h) ?_
              -- region 17
              refine WC.region ?_
              -- R17.0 91 := law.go:342 binOp
              refine WL.v (by first | exact r_add rfl rfl (wi64 (by omega) (by omega)) | exact r_add rfl rfl rfl) rfl rfl rfl ?_
              -- R17.1 18 := law.go:342 move
              refine WL.v (by first | exact r_move (v := .int _ _) rfl | exact r_move rfl) rfl rfl rfl ?_
              refine WL.next hK2 (fun _ _ h => h) (t + 1) ⟨ht', st⟩ (by omega) (by repeat (first | exact sub_nil _ | refine sub_cons rfl rfl ?_))
            · have hn16 : s'.held t r = 16 := by omega
              refine WC.seq fun K1651 hK1651 => ?_
              -- region 7
              refine WC.region ?_
              -- R7.0 19 := law.go:342 binOp
              refine WL.v (by first | exact r_lss rfl rfl (decide_eq_true (by omega)) | exact r_lss rfl rfl (decide_eq_false (by omega)) | exact r_lss rfl rfl rfl) rfl rfl rfl ?_
              refine WL.fin hK1651 (fun _ _ h => h) ?_
              refine WC.seq fun K1652 hK1652 => ?_
              refine WC.condT rfl rfl ?_
              refine WC.skipF hK1652 (fun _ _ h => h) ?_
              refine WC.seq fun K1653 hK1653 => ?_
              refine WC.block ?_
              refine WC.seq fun K1654 hK1654 => ?_
              -- region 8
              refine WC.region ?_
              -- R8.0 20 := law.go:342 move
              refine WL.v (by first | exact r_move (v := .int _ _) rfl | exact r_move rfl) rfl rfl rfl ?_
              -- R8.1 7 := law.go:342 assign
              refine WL.v (by first | exact r_assign (v := .int _ _) rfl | exact r_assign rfl) rfl rfl rfl ?_
              refine WL.fin hK1654 (fun _ _ h => h) ?_
              refine WC.seq fun K1655 hK1655 => ?_
              -- region 9
              refine WC.region ?_
              -- R9.0 21 := law.go:343 fieldAddr
              refine WL.v (by exact r_field ty_fld36_2 rfl) rfl rfl rfl ?_
              -- R9.1 22 := law.go:343 load
              refine WL.v (by exact r_load1 (v := .pointer (some ⟨bA, 0, none⟩)) ty_one29 rfl (by rw [← f6]; exact st.c1 (by decide))) rfl rfl rfl ?_
              -- R9.2 23 := law.go:343 move
              refine WL.v (by first | exact r_move (v := .int _ _) rfl | exact r_move rfl) rfl rfl rfl ?_
              -- R9.3 24 := law.go:343 move
              refine WL.v (by first | exact r_move (v := .int _ _) rfl | exact r_move rfl) rfl rfl rfl ?_
              -- R9.4 25 := law.go:343 nilCheck
              refine WL.v (by exact r_nilCheck rfl) rfl rfl rfl ?_
              -- R9.5 26 := law.go:343 fieldAddr
              refine WL.v (by exact r_field ty_fld50_4 rfl) rfl rfl rfl ?_
              -- R9.6 27 := law.go:343 indexAddr
              refine WL.v (by exact r_indexA (j := t) ty_ar45 rfl rfl rfl ht') rfl rfl rfl ?_
              -- R9.7 28 := law.go:343 indexAddr
              refine WL.v (by exact r_indexA (j := r) ty_ar44 rfl rfl rfl hr') rfl rfl rfl ?_
              -- R9.8 29 := law.go:343 load
              refine WL.v (by exact r_load1 (v := .int .i64 (s'.held t r : Nat)) ty_one3 rfl (c_sH hck2.A ht' hr' (by omega) st)) rfl rfl rfl ?_
              -- R9.9 8 := law.go:343 assign
              refine WL.v (by first | exact r_assign (v := .int _ _) rfl | exact r_assign rfl) rfl rfl rfl ?_
              refine WL.fin hK1655 (fun _ _ h => h) ?_
              refine WC.seq fun K1656 hK1656 => ?_
              refine WC.seq fun K1657 hK1657 => ?_
              -- region 10
              refine WC.region ?_
              -- R10.0 30 := law.go:344 move
              refine WL.v (by first | exact r_move (v := .int _ _) rfl | exact r_move rfl) rfl rfl rfl ?_
              -- R10.1 31 := law.go:344 binOp
              refine WL.v (by first | exact r_lss rfl rfl (decide_eq_true (by omega)) | exact r_lss rfl rfl (decide_eq_false (by omega)) | exact r_lss rfl rfl rfl) rfl rfl rfl ?_
              -- R10.2 32 := law.go:344 move
              refine WL.v (by first | exact r_move (v := .bool _) rfl | exact r_move rfl) rfl rfl rfl ?_
              -- R10.3 33 := law.go:344 move
              refine WL.v (by first | exact r_move (v := .int _ _) rfl | exact r_move rfl) rfl rfl rfl ?_
              -- R10.4 34 := law.go:344 binOp
              refine WL.v (by first | exact r_gtr rfl rfl (decide_eq_true (by omega)) | exact r_gtr rfl rfl (decide_eq_false (by omega)) | exact r_gtr rfl rfl rfl) rfl rfl rfl ?_
              -- R10.5 35 := law.go:344 move
              refine WL.v (by first | exact r_move (v := .bool _) rfl | exact r_move rfl) rfl rfl rfl ?_
              -- R10.6 36 := law.go:344 fieldAddr
              refine WL.v (by exact r_field ty_fld36_2 rfl) rfl rfl rfl ?_
              -- R10.7 37 := law.go:344 load
              refine WL.v (by exact r_load1 (v := .pointer (some ⟨bA, 0, none⟩)) ty_one29 rfl (by rw [← f6]; exact st.c1 (by decide))) rfl rfl rfl ?_
              -- R10.8 38 := law.go:344 move
              refine WL.v (by first | exact r_move (v := .int _ _) rfl | exact r_move rfl) rfl rfl rfl ?_
              -- R10.9 39 := law.go:344 nilCheck
              refine WL.v (by exact r_nilCheck rfl) rfl rfl rfl ?_
              -- R10.10 40 := law.go:344 fieldAddr
              refine WL.v (by exact r_field ty_fld50_3 rfl) rfl rfl rfl ?_
              -- R10.11 41 := law.go:344 indexAddr
              refine WL.v (by exact r_indexA (j := t) ty_ar43 rfl rfl rfl ht') rfl rfl rfl ?_
              -- R10.12 42 := law.go:344 fieldAddr
              refine WL.v (by exact r_field ty_fld42_0 rfl) rfl rfl rfl ?_
              -- R10.13 43 := law.go:344 load
              refine WL.v (by exact r_load1 (v := .bool true) ty_one4 rfl (by rw [← hlv]; exact c_sT hck2.A ht' (j := 0) (by decide) (by omega) st)) rfl rfl rfl ?_
              -- R10.14 44 := law.go:344 unOp
              refine WL.v (by first | exact r_notT rfl | exact r_notF rfl | exact r_not rfl) rfl rfl rfl ?_
              -- R10.15 45 := law.go:344 pick
              refine WL.v (by first | exact r_pickT (v := .bool _) rfl rfl | exact r_pickF (v := .bool _) rfl rfl) rfl rfl rfl ?_
              -- R10.16 46 := law.go:344 pick
              refine WL.v (by first | exact r_pickT (v := .bool _) rfl rfl | exact r_pickF (v := .bool _) rfl rfl) rfl rfl rfl ?_
              -- R10.17 47 := law.go:344 move
              refine WL.v (by first | exact r_move (v := .bool _) rfl | exact r_move rfl) rfl rfl rfl ?_
              -- R10.18 48 := law.go:344 fieldAddr
              refine WL.v (by exact r_field ty_fld36_2 rfl) rfl rfl rfl ?_
              -- R10.19 49 := law.go:344 load
              refine WL.v (by exact r_load1 (v := .pointer (some ⟨bA, 0, none⟩)) ty_one29 rfl (by rw [← f6]; exact st.c1 (by decide))) rfl rfl rfl ?_
              -- R10.20 50 := law.go:344 move
              refine WL.v (by first | exact r_move (v := .int _ _) rfl | exact r_move rfl) rfl rfl rfl ?_
              -- R10.21 51 := law.go:344 move
              refine WL.v (by first | exact r_move (v := .int _ _) rfl | exact r_move rfl) rfl rfl rfl ?_
              -- R10.22 52 := law.go:344 nilCheck
              refine WL.v (by exact r_nilCheck rfl) rfl rfl rfl ?_
              -- R10.23 53 := law.go:344 fieldAddr
              refine WL.v (by exact r_field ty_fld50_5 rfl) rfl rfl rfl ?_
              -- R10.24 54 := law.go:344 indexAddr
              refine WL.v (by exact r_indexA (j := t) ty_ar45 rfl rfl rfl ht') rfl rfl rfl ?_
              -- R10.25 55 := law.go:344 indexAddr
              refine WL.v (by exact r_indexA (j := r) ty_ar44 rfl rfl rfl hr') rfl rfl rfl ?_
              -- R10.26 56 := law.go:344 load
              refine WL.v (by exact r_load1 (v := .int .i64 (s'.claim t r : Nat)) ty_one3 rfl (c_sC hck2.A ht' hr' (by omega) st)) rfl rfl rfl ?_
              -- R10.27 57 := law.go:344 binOp
              refine WL.v (by first | exact r_neq rfl rfl (decide_eq_true (by omega)) | exact r_neq rfl rfl (decide_eq_false (by omega)) | exact r_neq rfl rfl rfl) rfl rfl rfl ?_
              -- R10.28 58 := law.go:344 move
              refine WL.v (by first | exact r_move (v := .bool _) rfl | exact r_move rfl) rfl rfl rfl ?_
              -- R10.29 59 := law.go:344 fieldAddr
              refine WL.no rfl rfl ?_
              -- R10.30 60 := law.go:344 load
              refine WL.no rfl rfl ?_
              -- R10.31 61 := law.go:344 move
              refine WL.no rfl rfl ?_
              -- R10.32 62 := law.go:344 nilCheck
              refine WL.no rfl rfl ?_
              -- R10.33 63 := law.go:344 fieldAddr
              refine WL.no rfl rfl ?_
              -- R10.34 64 := law.go:344 indexAddr
              refine WL.no rfl rfl ?_
              -- R10.35 65 := law.go:344 fieldAddr
              refine WL.no rfl rfl ?_
              -- R10.36 66 := law.go:344 load
              refine WL.no rfl rfl ?_
              -- R10.37 67 := law.go:344 unOp
              refine WL.no rfl rfl ?_
              -- R10.38 68 := law.go:344 pick
              refine WL.v (by first | exact r_pickT (v := .bool _) rfl rfl | exact r_pickF (v := .bool _) rfl rfl) rfl rfl rfl ?_
              -- R10.39 69 := law.go:344 pick
              refine WL.v (by first | exact r_pickT (v := .bool _) rfl rfl | exact r_pickF (v := .bool _) rfl rfl) rfl rfl rfl ?_
              refine WL.fin hK1657 (fun _ _ h => h) ?_
              refine WC.condF rfl rfl ?_
              refine WC.skipF hK1656 (fun _ _ h => h) ?_
              refine WC.seq fun K1658 hK1658 => ?_
              refine WC.seq fun K1659 hK1659 => ?_
              -- region 12
              refine WC.region ?_
              -- R12.0 70 := law.go:347 move
              refine WL.v (by first | exact r_move (v := .int _ _) rfl | exact r_move rfl) rfl rfl rfl ?_
              -- R12.1 71 := law.go:347 binOp
              refine WL.v (by first | exact r_geq rfl rfl (decide_eq_true (by omega)) | exact r_geq rfl rfl (decide_eq_false (by omega)) | exact r_geq rfl rfl rfl) rfl rfl rfl ?_
              -- R12.2 72 := law.go:347 move
              refine WL.v (by first | exact r_move (v := .bool _) rfl | exact r_move rfl) rfl rfl rfl ?_
              -- R12.3 73 := law.go:347 move
              refine WL.v (by first | exact r_move (v := .int _ _) rfl | exact r_move rfl) rfl rfl rfl ?_
              -- R12.4 74 := law.go:347 binOp
              refine WL.v (by first | exact r_neq rfl rfl (decide_eq_true (by omega)) | exact r_neq rfl rfl (decide_eq_false (by omega)) | exact r_neq rfl rfl rfl) rfl rfl rfl ?_
              -- R12.5 75 := law.go:347 pick
              refine WL.v (by first | exact r_pickT (v := .bool _) rfl rfl | exact r_pickF (v := .bool _) rfl rfl) rfl rfl rfl ?_
              -- R12.6 76 := law.go:347 move
              refine WL.v (by first | exact r_move (v := .bool _) rfl | exact r_move rfl) rfl rfl rfl ?_
              -- R12.7 77 := law.go:347 move
              refine WL.v (by first | exact r_move (v := .int _ _) rfl | exact r_move rfl) rfl rfl rfl ?_
              -- R12.8 78 := law.go:347 binOp
              refine WL.v (by first | exact r_neq rfl rfl (decide_eq_true (by omega)) | exact r_neq rfl rfl (decide_eq_false (by omega)) | exact r_neq rfl rfl rfl) rfl rfl rfl ?_
              -- R12.9 79 := law.go:347 pick
              refine WL.v (by first | exact r_pickT (v := .bool _) rfl rfl | exact r_pickF (v := .bool _) rfl rfl) rfl rfl rfl ?_
              -- R12.10 80 := law.go:347 move
              refine WL.v (by first | exact r_move (v := .bool _) rfl | exact r_move rfl) rfl rfl rfl ?_
              -- R12.11 81 := law.go:347 move
              refine WL.v (by first | exact r_move (v := .int _ _) rfl | exact r_move rfl) rfl rfl rfl ?_
              -- R12.12 82 := law.go:347 binOp
              refine WL.v (by first | exact r_neq rfl rfl (decide_eq_true (by omega)) | exact r_neq rfl rfl (decide_eq_false (by omega)) | exact r_neq rfl rfl rfl) rfl rfl rfl ?_
              -- R12.13 83 := law.go:347 pick
              refine WL.v (by first | exact r_pickT (v := .bool _) rfl rfl | exact r_pickF (v := .bool _) rfl rfl) rfl rfl rfl ?_
              refine WL.fin hK1659 (fun _ _ h => h) ?_
              refine WC.condF rfl rfl ?_
              refine WC.skipF hK1658 (fun _ _ h => h) ?_
              refine WC.seq fun K1660 hK1660 => ?_
              refine WC.seq fun K1661 hK1661 => ?_
              -- region 14
              refine WC.region ?_
              -- R14.0 84 := law.go:350 move
              refine WL.v (by first | exact r_move (v := .int _ _) rfl | exact r_move rfl) rfl rfl rfl ?_
              -- R14.1 85 := law.go:350 binOp
              refine WL.v (by first | exact r_gtr rfl rfl (decide_eq_true (by omega)) | exact r_gtr rfl rfl (decide_eq_false (by omega)) | exact r_gtr rfl rfl rfl) rfl rfl rfl ?_
              refine WL.fin hK1661 (fun _ _ h => h) ?_
              refine WC.condT rfl rfl ?_
              -- region 15
              refine WC.region ?_
              -- R15.0 86 := law.go:351 move
              refine WL.v (by first | exact r_move (v := .int _ _) rfl | exact r_move rfl) rfl rfl rfl ?_
              -- R15.1 87 := law.go:351 binOp
              refine WL.v (by exact r_add (r := ((hcP s'.held r (t + 1) : Nat) : Int)) rfl rfl ((wi64 (by omega) (by omega)).trans (by omega))) rfl rfl rfl ?_
              -- R15.2 6 := law.go:351 assign
              refine WL.v (by first | exact r_assign (v := .int _ _) rfl | exact r_assign rfl) rfl rfl rfl ?_
              refine WL.fin hK1660 (fun _ _ h => h) ?_
              -- region 16
              refine WC.region ?_
              -- R16.0 88 := law.go:353 move
              refine WL.v (by first | exact r_move (v := .int _ _) rfl | exact r_move rfl) rfl rfl rfl ?_
              -- R16.1 89 := law.go:353 move
              refine WL.v (by first | exact r_move (v := .int _ _) rfl | exact r_move rfl) rfl rfl rfl ?_
              -- R16.2 90 := law.go:353 binOp
              refine WL.v (by exact r_add (r := ((sumP (fun t => s'.held t r) (t + 1) : Nat) : Int)) rfl rfl ((wi64 (by omega) (by omega)).trans (by omega))) rfl rfl rfl ?_
              -- R16.3 5 := law.go:353 assign
              refine WL.v (by first | exact r_assign (v := .int _ _) rfl | exact r_assign rfl) rfl rfl rfl ?_
              refine WL.fin hK1653 (fun _ _ h => h) ?_
              -- region 17
              refine WC.region ?_
              -- R17.0 91 := law.go:342 binOp
              refine WL.v (by first | exact r_add rfl rfl (wi64 (by omega) (by omega)) | exact r_add rfl rfl rfl) rfl rfl rfl ?_
              -- R17.1 18 := law.go:342 move
              refine WL.v (by first | exact r_move (v := .int _ _) rfl | exact r_move rfl) rfl rfl rfl ?_
              refine WL.next hK2 (fun _ _ h => h) (t + 1) ⟨ht', st⟩ (by omega) (by repeat (first | exact sub_nil _ | refine sub_cons rfl rfl ?_))
          · skip
            refine WC.seq fun K1662 hK1662 => ?_
            -- region 7
            refine WC.region ?_
            -- R7.0 19 := law.go:342 binOp
            refine WL.v (by first | exact r_lss rfl rfl (decide_eq_true (by omega)) | exact r_lss rfl rfl (decide_eq_false (by omega)) | exact r_lss rfl rfl rfl) rfl rfl rfl ?_
            refine WL.fin hK1662 (fun _ _ h => h) ?_
            refine WC.seq fun K1663 hK1663 => ?_
            refine WC.condT rfl rfl ?_
            refine WC.skipF hK1663 (fun _ _ h => h) ?_
            refine WC.seq fun K1664 hK1664 => ?_
            refine WC.block ?_
            refine WC.seq fun K1665 hK1665 => ?_
            -- region 8
            refine WC.region ?_
            -- R8.0 20 := law.go:342 move
            refine WL.v (by first | exact r_move (v := .int _ _) rfl | exact r_move rfl) rfl rfl rfl ?_
            -- R8.1 7 := law.go:342 assign
            refine WL.v (by first | exact r_assign (v := .int _ _) rfl | exact r_assign rfl) rfl rfl rfl ?_
            refine WL.fin hK1665 (fun _ _ h => h) ?_
            refine WC.seq fun K1666 hK1666 => ?_
            -- region 9
            refine WC.region ?_
            -- R9.0 21 := law.go:343 fieldAddr
            refine WL.v (by exact r_field ty_fld36_2 rfl) rfl rfl rfl ?_
            -- R9.1 22 := law.go:343 load
            refine WL.v (by exact r_load1 (v := .pointer (some ⟨bA, 0, none⟩)) ty_one29 rfl (by rw [← f6]; exact st.c1 (by decide))) rfl rfl rfl ?_
            -- R9.2 23 := law.go:343 move
            refine WL.v (by first | exact r_move (v := .int _ _) rfl | exact r_move rfl) rfl rfl rfl ?_
            -- R9.3 24 := law.go:343 move
            refine WL.v (by first | exact r_move (v := .int _ _) rfl | exact r_move rfl) rfl rfl rfl ?_
            -- R9.4 25 := law.go:343 nilCheck
            refine WL.v (by exact r_nilCheck rfl) rfl rfl rfl ?_
            -- R9.5 26 := law.go:343 fieldAddr
            refine WL.v (by exact r_field ty_fld50_4 rfl) rfl rfl rfl ?_
            -- R9.6 27 := law.go:343 indexAddr
            refine WL.v (by exact r_indexA (j := t) ty_ar45 rfl rfl rfl ht') rfl rfl rfl ?_
            -- R9.7 28 := law.go:343 indexAddr
            refine WL.v (by exact r_indexA (j := r) ty_ar44 rfl rfl rfl hr') rfl rfl rfl ?_
            -- R9.8 29 := law.go:343 load
            refine WL.v (by exact r_load1 (v := .int .i64 (s'.held t r : Nat)) ty_one3 rfl (c_sH hck2.A ht' hr' (by omega) st)) rfl rfl rfl ?_
            -- R9.9 8 := law.go:343 assign
            refine WL.v (by first | exact r_assign (v := .int _ _) rfl | exact r_assign rfl) rfl rfl rfl ?_
            refine WL.fin hK1666 (fun _ _ h => h) ?_
            refine WC.seq fun K1667 hK1667 => ?_
            refine WC.seq fun K1668 hK1668 => ?_
            -- region 10
            refine WC.region ?_
            -- R10.0 30 := law.go:344 move
            refine WL.v (by first | exact r_move (v := .int _ _) rfl | exact r_move rfl) rfl rfl rfl ?_
            -- R10.1 31 := law.go:344 binOp
            refine WL.v (by first | exact r_lss rfl rfl (decide_eq_true (by omega)) | exact r_lss rfl rfl (decide_eq_false (by omega)) | exact r_lss rfl rfl rfl) rfl rfl rfl ?_
            -- R10.2 32 := law.go:344 move
            refine WL.v (by first | exact r_move (v := .bool _) rfl | exact r_move rfl) rfl rfl rfl ?_
            -- R10.3 33 := law.go:344 move
            refine WL.v (by first | exact r_move (v := .int _ _) rfl | exact r_move rfl) rfl rfl rfl ?_
            -- R10.4 34 := law.go:344 binOp
            refine WL.v (by first | exact r_gtr rfl rfl (decide_eq_true (by omega)) | exact r_gtr rfl rfl (decide_eq_false (by omega)) | exact r_gtr rfl rfl rfl) rfl rfl rfl ?_
            -- R10.5 35 := law.go:344 move
            refine WL.v (by first | exact r_move (v := .bool _) rfl | exact r_move rfl) rfl rfl rfl ?_
            -- R10.6 36 := law.go:344 fieldAddr
            refine WL.v (by exact r_field ty_fld36_2 rfl) rfl rfl rfl ?_
            -- R10.7 37 := law.go:344 load
            refine WL.v (by exact r_load1 (v := .pointer (some ⟨bA, 0, none⟩)) ty_one29 rfl (by rw [← f6]; exact st.c1 (by decide))) rfl rfl rfl ?_
            -- R10.8 38 := law.go:344 move
            refine WL.v (by first | exact r_move (v := .int _ _) rfl | exact r_move rfl) rfl rfl rfl ?_
            -- R10.9 39 := law.go:344 nilCheck
            refine WL.v (by exact r_nilCheck rfl) rfl rfl rfl ?_
            -- R10.10 40 := law.go:344 fieldAddr
            refine WL.v (by exact r_field ty_fld50_3 rfl) rfl rfl rfl ?_
            -- R10.11 41 := law.go:344 indexAddr
            refine WL.v (by exact r_indexA (j := t) ty_ar43 rfl rfl rfl ht') rfl rfl rfl ?_
            -- R10.12 42 := law.go:344 fieldAddr
            refine WL.v (by exact r_field ty_fld42_0 rfl) rfl rfl rfl ?_
            -- R10.13 43 := law.go:344 load
            refine WL.v (by exact r_load1 (v := .bool true) ty_one4 rfl (by rw [← hlv]; exact c_sT hck2.A ht' (j := 0) (by decide) (by omega) st)) rfl rfl rfl ?_
            -- R10.14 44 := law.go:344 unOp
            refine WL.v (by first | exact r_notT rfl | exact r_notF rfl | exact r_not rfl) rfl rfl rfl ?_
            -- R10.15 45 := law.go:344 pick
            refine WL.v (by first | exact r_pickT (v := .bool _) rfl rfl | exact r_pickF (v := .bool _) rfl rfl) rfl rfl rfl ?_
            -- R10.16 46 := law.go:344 pick
            refine WL.v (by first | exact r_pickT (v := .bool _) rfl rfl | exact r_pickF (v := .bool _) rfl rfl) rfl rfl rfl ?_
            -- R10.17 47 := law.go:344 move
            refine WL.v (by first | exact r_move (v := .bool _) rfl | exact r_move rfl) rfl rfl rfl ?_
            -- R10.18 48 := law.go:344 fieldAddr
            refine WL.v (by exact r_field ty_fld36_2 rfl) rfl rfl rfl ?_
            -- R10.19 49 := law.go:344 load
            refine WL.v (by exact r_load1 (v := .pointer (some ⟨bA, 0, none⟩)) ty_one29 rfl (by rw [← f6]; exact st.c1 (by decide))) rfl rfl rfl ?_
            -- R10.20 50 := law.go:344 move
            refine WL.v (by first | exact r_move (v := .int _ _) rfl | exact r_move rfl) rfl rfl rfl ?_
            -- R10.21 51 := law.go:344 move
            refine WL.v (by first | exact r_move (v := .int _ _) rfl | exact r_move rfl) rfl rfl rfl ?_
            -- R10.22 52 := law.go:344 nilCheck
            refine WL.v (by exact r_nilCheck rfl) rfl rfl rfl ?_
            -- R10.23 53 := law.go:344 fieldAddr
            refine WL.v (by exact r_field ty_fld50_5 rfl) rfl rfl rfl ?_
            -- R10.24 54 := law.go:344 indexAddr
            refine WL.v (by exact r_indexA (j := t) ty_ar45 rfl rfl rfl ht') rfl rfl rfl ?_
            -- R10.25 55 := law.go:344 indexAddr
            refine WL.v (by exact r_indexA (j := r) ty_ar44 rfl rfl rfl hr') rfl rfl rfl ?_
            -- R10.26 56 := law.go:344 load
            refine WL.v (by exact r_load1 (v := .int .i64 (s'.claim t r : Nat)) ty_one3 rfl (c_sC hck2.A ht' hr' (by omega) st)) rfl rfl rfl ?_
            -- R10.27 57 := law.go:344 binOp
            refine WL.v (by first | exact r_neq rfl rfl (decide_eq_true (by omega)) | exact r_neq rfl rfl (decide_eq_false (by omega)) | exact r_neq rfl rfl rfl) rfl rfl rfl ?_
            -- R10.28 58 := law.go:344 move
            refine WL.v (by first | exact r_move (v := .bool _) rfl | exact r_move rfl) rfl rfl rfl ?_
            -- R10.29 59 := law.go:344 fieldAddr
            refine WL.no rfl rfl ?_
            -- R10.30 60 := law.go:344 load
            refine WL.no rfl rfl ?_
            -- R10.31 61 := law.go:344 move
            refine WL.no rfl rfl ?_
            -- R10.32 62 := law.go:344 nilCheck
            refine WL.no rfl rfl ?_
            -- R10.33 63 := law.go:344 fieldAddr
            refine WL.no rfl rfl ?_
            -- R10.34 64 := law.go:344 indexAddr
            refine WL.no rfl rfl ?_
            -- R10.35 65 := law.go:344 fieldAddr
            refine WL.no rfl rfl ?_
            -- R10.36 66 := law.go:344 load
            refine WL.no rfl rfl ?_
            -- R10.37 67 := law.go:344 unOp
            refine WL.no rfl rfl ?_
            -- R10.38 68 := law.go:344 pick
            refine WL.v (by first | exact r_pickT (v := .bool _) rfl rfl | exact r_pickF (v := .bool _) rfl rfl) rfl rfl rfl ?_
            -- R10.39 69 := law.go:344 pick
            refine WL.v (by first | exact r_pickT (v := .bool _) rfl rfl | exact r_pickF (v := .bool _) rfl rfl) rfl rfl rfl ?_
            refine WL.fin hK1668 (fun _ _ h => h) ?_
            refine WC.condF rfl rfl ?_
            refine WC.skipF hK1667 (fun _ _ h => h) ?_
            refine WC.seq fun K1669 hK1669 => ?_
            refine WC.seq fun K1670 hK1670 => ?_
            -- region 12
            refine WC.region ?_
            -- R12.0 70 := law.go:347 move
            refine WL.v (by first | exact r_move (v := .int _ _) rfl | exact r_move rfl) rfl rfl rfl ?_
            -- R12.1 71 := law.go:347 binOp
            refine WL.v (by first | exact r_geq rfl rfl (decide_eq_true (by omega)) | exact r_geq rfl rfl (decide_eq_false (by omega)) | exact r_geq rfl rfl rfl) rfl rfl rfl ?_
            -- R12.2 72 := law.go:347 move
            refine WL.v (by first | exact r_move (v := .bool _) rfl | exact r_move rfl) rfl rfl rfl ?_
            -- R12.3 73 := law.go:347 move
            refine WL.no rfl rfl ?_
            -- R12.4 74 := law.go:347 binOp
            refine WL.no rfl rfl ?_
            -- R12.5 75 := law.go:347 pick
            refine WL.v (by first | exact r_pickT (v := .bool _) rfl rfl | exact r_pickF (v := .bool _) rfl rfl) rfl rfl rfl ?_
            -- R12.6 76 := law.go:347 move
            refine WL.v (by first | exact r_move (v := .bool _) rfl | exact r_move rfl) rfl rfl rfl ?_
            -- R12.7 77 := law.go:347 move
            refine WL.no rfl rfl ?_
            -- R12.8 78 := law.go:347 binOp
            refine WL.no rfl rfl ?_
            -- R12.9 79 := law.go:347 pick
            refine WL.v (by first | exact r_pickT (v := .bool _) rfl rfl | exact r_pickF (v := .bool _) rfl rfl) rfl rfl rfl ?_
            -- R12.10 80 := law.go:347 move
            refine WL.v (by first | exact r_move (v := .bool _) rfl | exact r_move rfl) rfl rfl rfl ?_
            -- R12.11 81 := law.go:347 move
            refine WL.no rfl rfl ?_
            -- R12.12 82 := law.go:347 binOp
            refine WL.no rfl rfl ?_
            -- R12.13 83 := law.go:347 pick
            refine WL.v (by first | exact r_pickT (v := .bool _) rfl rfl | exact r_pickF (v := .bool _) rfl rfl) rfl rfl rfl ?_
            refine WL.fin hK1670 (fun _ _ h => h) ?_
            refine WC.condF rfl rfl ?_
            refine WC.skipF hK1669 (fun _ _ h => h) ?_
            refine WC.seq fun K1671 hK1671 => ?_
            refine WC.seq fun K1672 hK1672 => ?_
            -- region 14
            refine WC.region ?_
            -- R14.0 84 := law.go:350 move
            refine WL.v (by first | exact r_move (v := .int _ _) rfl | exact r_move rfl) rfl rfl rfl ?_
            -- R14.1 85 := law.go:350 binOp
            refine WL.v (by first | exact r_gtr rfl rfl (decide_eq_true (by omega)) | exact r_gtr rfl rfl (decide_eq_false (by omega)) | exact r_gtr rfl rfl rfl) rfl rfl rfl ?_
            refine WL.fin hK1672 (fun _ _ h => h) ?_
            refine WC.condT rfl rfl ?_
            -- region 15
            refine WC.region ?_
            -- R15.0 86 := law.go:351 move
            refine WL.v (by first | exact r_move (v := .int _ _) rfl | exact r_move rfl) rfl rfl rfl ?_
            -- R15.1 87 := law.go:351 binOp
            refine WL.v (by exact r_add (r := ((hcP s'.held r (t + 1) : Nat) : Int)) rfl rfl ((wi64 (by omega) (by omega)).trans (by omega))) rfl rfl rfl ?_
            -- R15.2 6 := law.go:351 assign
            refine WL.v (by first | exact r_assign (v := .int _ _) rfl | exact r_assign rfl) rfl rfl rfl ?_
            refine WL.fin hK1671 (fun _ _ h => h) ?_
            -- region 16
            refine WC.region ?_
            -- R16.0 88 := law.go:353 move
            refine WL.v (by first | exact r_move (v := .int _ _) rfl | exact r_move rfl) rfl rfl rfl ?_
            -- R16.1 89 := law.go:353 move
            refine WL.v (by first | exact r_move (v := .int _ _) rfl | exact r_move rfl) rfl rfl rfl ?_
            -- R16.2 90 := law.go:353 binOp
            refine WL.v (by exact r_add (r := ((sumP (fun t => s'.held t r) (t + 1) : Nat) : Int)) rfl rfl ((wi64 (by omega) (by omega)).trans (by omega))) rfl rfl rfl ?_
            -- R16.3 5 := law.go:353 assign
            refine WL.v (by first | exact r_assign (v := .int _ _) rfl | exact r_assign rfl) rfl rfl rfl ?_
            refine WL.fin hK1664 (fun _ _ h => h) ?_
            -- region 17
            refine WC.region ?_
            -- R17.0 91 := law.go:342 binOp
            refine WL.v (by first | exact r_add rfl rfl (wi64 (by omega) (by omega)) | exact r_add rfl rfl rfl) rfl rfl rfl ?_
            -- R17.1 18 := law.go:342 move
            refine WL.v (by first | exact r_move (v := .int _ _) rfl | exact r_move rfl) rfl rfl rfl ?_
            refine WL.next hK2 (fun _ _ h => h) (t + 1) ⟨ht', st⟩ (by omega) (by repeat (first | exact sub_nil _ | refine sub_cons rfl rfl ?_))
        · skip
          by_cases h8 : 8 ≤ r
          · have hlk := hI.lk t r h8
            by_cases hn1 : s'.held t r = 1
            · skip
              refine WC.seq fun K1673 hK1673 => ?_
              -- region 7
              refine WC.region ?_
              -- R7.0 19 := law.go:342 binOp
              refine WL.v (by first | exact r_lss rfl rfl (decide_eq_true (by omega)) | exact r_lss rfl rfl (decide_eq_false (by omega)) | exact r_lss rfl rfl rfl) rfl rfl rfl ?_
              refine WL.fin hK1673 (fun _ _ h => h) ?_
              refine WC.seq fun K1674 hK1674 => ?_
              refine WC.condT rfl rfl ?_
              refine WC.skipF hK1674 (fun _ _ h => h) ?_
              refine WC.seq fun K1675 hK1675 => ?_
              refine WC.block ?_
              refine WC.seq fun K1676 hK1676 => ?_
              -- region 8
              refine WC.region ?_
              -- R8.0 20 := law.go:342 move
              refine WL.v (by first | exact r_move (v := .int _ _) rfl | exact r_move rfl) rfl rfl rfl ?_
              -- R8.1 7 := law.go:342 assign
              refine WL.v (by first | exact r_assign (v := .int _ _) rfl | exact r_assign rfl) rfl rfl rfl ?_
              refine WL.fin hK1676 (fun _ _ h => h) ?_
              refine WC.seq fun K1677 hK1677 => ?_
              -- region 9
              refine WC.region ?_
              -- R9.0 21 := law.go:343 fieldAddr
              refine WL.v (by exact r_field ty_fld36_2 rfl) rfl rfl rfl ?_
              -- R9.1 22 := law.go:343 load
              refine WL.v (by exact r_load1 (v := .pointer (some ⟨bA, 0, none⟩)) ty_one29 rfl (by rw [← f6]; exact st.c1 (by decide))) rfl rfl rfl ?_
              -- R9.2 23 := law.go:343 move
              refine WL.v (by first | exact r_move (v := .int _ _) rfl | exact r_move rfl) rfl rfl rfl ?_
              -- R9.3 24 := law.go:343 move
              refine WL.v (by first | exact r_move (v := .int _ _) rfl | exact r_move rfl) rfl rfl rfl ?_
              -- R9.4 25 := law.go:343 nilCheck
              refine WL.v (by exact r_nilCheck rfl) rfl rfl rfl ?_
              -- R9.5 26 := law.go:343 fieldAddr
              refine WL.v (by exact r_field ty_fld50_4 rfl) rfl rfl rfl ?_
              -- R9.6 27 := law.go:343 indexAddr
              refine WL.v (by exact r_indexA (j := t) ty_ar45 rfl rfl rfl ht') rfl rfl rfl ?_
              -- R9.7 28 := law.go:343 indexAddr
              refine WL.v (by exact r_indexA (j := r) ty_ar44 rfl rfl rfl hr') rfl rfl rfl ?_
              -- R9.8 29 := law.go:343 load
              refine WL.v (by exact r_load1 (v := .int .i64 (s'.held t r : Nat)) ty_one3 rfl (c_sH hck2.A ht' hr' (by omega) st)) rfl rfl rfl ?_
              -- R9.9 8 := law.go:343 assign
              refine WL.v (by first | exact r_assign (v := .int _ _) rfl | exact r_assign rfl) rfl rfl rfl ?_
              refine WL.fin hK1677 (fun _ _ h => h) ?_
              refine WC.seq fun K1678 hK1678 => ?_
              refine WC.seq fun K1679 hK1679 => ?_
              -- region 10
              refine WC.region ?_
              -- R10.0 30 := law.go:344 move
              refine WL.v (by first | exact r_move (v := .int _ _) rfl | exact r_move rfl) rfl rfl rfl ?_
              -- R10.1 31 := law.go:344 binOp
              refine WL.v (by first | exact r_lss rfl rfl (decide_eq_true (by omega)) | exact r_lss rfl rfl (decide_eq_false (by omega)) | exact r_lss rfl rfl rfl) rfl rfl rfl ?_
              -- R10.2 32 := law.go:344 move
              refine WL.v (by first | exact r_move (v := .bool _) rfl | exact r_move rfl) rfl rfl rfl ?_
              -- R10.3 33 := law.go:344 move
              refine WL.v (by first | exact r_move (v := .int _ _) rfl | exact r_move rfl) rfl rfl rfl ?_
              -- R10.4 34 := law.go:344 binOp
              refine WL.v (by first | exact r_gtr rfl rfl (decide_eq_true (by omega)) | exact r_gtr rfl rfl (decide_eq_false (by omega)) | exact r_gtr rfl rfl rfl) rfl rfl rfl ?_
              -- R10.5 35 := law.go:344 move
              refine WL.v (by first | exact r_move (v := .bool _) rfl | exact r_move rfl) rfl rfl rfl ?_
              -- R10.6 36 := law.go:344 fieldAddr
              refine WL.v (by exact r_field ty_fld36_2 rfl) rfl rfl rfl ?_
              -- R10.7 37 := law.go:344 load
              refine WL.v (by exact r_load1 (v := .pointer (some ⟨bA, 0, none⟩)) ty_one29 rfl (by rw [← f6]; exact st.c1 (by decide))) rfl rfl rfl ?_
              -- R10.8 38 := law.go:344 move
              refine WL.v (by first | exact r_move (v := .int _ _) rfl | exact r_move rfl) rfl rfl rfl ?_
              -- R10.9 39 := law.go:344 nilCheck
              refine WL.v (by exact r_nilCheck rfl) rfl rfl rfl ?_
              -- R10.10 40 := law.go:344 fieldAddr
              refine WL.v (by exact r_field ty_fld50_3 rfl) rfl rfl rfl ?_
              -- R10.11 41 := law.go:344 indexAddr
              refine WL.v (by exact r_indexA (j := t) ty_ar43 rfl rfl rfl ht') rfl rfl rfl ?_
              -- R10.12 42 := law.go:344 fieldAddr
              refine WL.v (by exact r_field ty_fld42_0 rfl) rfl rfl rfl ?_
              -- R10.13 43 := law.go:344 load
              refine WL.v (by exact r_load1 (v := .bool true) ty_one4 rfl (by rw [← hlv]; exact c_sT hck2.A ht' (j := 0) (by decide) (by omega) st)) rfl rfl rfl ?_
              -- R10.14 44 := law.go:344 unOp
              refine WL.v (by first | exact r_notT rfl | exact r_notF rfl | exact r_not rfl) rfl rfl rfl ?_
              -- R10.15 45 := law.go:344 pick
              refine WL.v (by first | exact r_pickT (v := .bool _) rfl rfl | exact r_pickF (v := .bool _) rfl rfl) rfl rfl rfl ?_
              -- R10.16 46 := law.go:344 pick
              refine WL.v (by first | exact r_pickT (v := .bool _) rfl rfl | exact r_pickF (v := .bool _) rfl rfl) rfl rfl rfl ?_
              -- R10.17 47 := law.go:344 move
              refine WL.v (by first | exact r_move (v := .bool _) rfl | exact r_move rfl) rfl rfl rfl ?_
              -- R10.18 48 := law.go:344 fieldAddr
              refine WL.v (by exact r_field ty_fld36_2 rfl) rfl rfl rfl ?_
              -- R10.19 49 := law.go:344 load
              refine WL.v (by exact r_load1 (v := .pointer (some ⟨bA, 0, none⟩)) ty_one29 rfl (by rw [← f6]; exact st.c1 (by decide))) rfl rfl rfl ?_
              -- R10.20 50 := law.go:344 move
              refine WL.v (by first | exact r_move (v := .int _ _) rfl | exact r_move rfl) rfl rfl rfl ?_
              -- R10.21 51 := law.go:344 move
              refine WL.v (by first | exact r_move (v := .int _ _) rfl | exact r_move rfl) rfl rfl rfl ?_
              -- R10.22 52 := law.go:344 nilCheck
              refine WL.v (by exact r_nilCheck rfl) rfl rfl rfl ?_
              -- R10.23 53 := law.go:344 fieldAddr
              refine WL.v (by exact r_field ty_fld50_5 rfl) rfl rfl rfl ?_
              -- R10.24 54 := law.go:344 indexAddr
              refine WL.v (by exact r_indexA (j := t) ty_ar45 rfl rfl rfl ht') rfl rfl rfl ?_
              -- R10.25 55 := law.go:344 indexAddr
              refine WL.v (by exact r_indexA (j := r) ty_ar44 rfl rfl rfl hr') rfl rfl rfl ?_
              -- R10.26 56 := law.go:344 load
              refine WL.v (by exact r_load1 (v := .int .i64 (s'.claim t r : Nat)) ty_one3 rfl (c_sC hck2.A ht' hr' (by omega) st)) rfl rfl rfl ?_
              -- R10.27 57 := law.go:344 binOp
              refine WL.v (by first | exact r_neq rfl rfl (decide_eq_true (by omega)) | exact r_neq rfl rfl (decide_eq_false (by omega)) | exact r_neq rfl rfl rfl) rfl rfl rfl ?_
              -- R10.28 58 := law.go:344 move
              refine WL.v (by first | exact r_move (v := .bool _) rfl | exact r_move rfl) rfl rfl rfl ?_
              -- R10.29 59 := law.go:344 fieldAddr
              refine WL.v (by exact r_field ty_fld36_2 rfl) rfl rfl rfl ?_
              -- R10.30 60 := law.go:344 load
              refine WL.v (by exact r_load1 (v := .pointer (some ⟨bA, 0, none⟩)) ty_one29 rfl (by rw [← f6]; exact st.c1 (by decide))) rfl rfl rfl ?_
              -- R10.31 61 := law.go:344 move
              refine WL.v (by first | exact r_move (v := .int _ _) rfl | exact r_move rfl) rfl rfl rfl ?_
              -- R10.32 62 := law.go:344 nilCheck
              refine WL.v (by exact r_nilCheck rfl) rfl rfl rfl ?_
              -- R10.33 63 := law.go:344 fieldAddr
              refine WL.v (by exact r_field ty_fld50_3 rfl) rfl rfl rfl ?_
              -- R10.34 64 := law.go:344 indexAddr
              refine WL.v (by exact r_indexA (j := t) ty_ar43 rfl rfl rfl ht') rfl rfl rfl ?_
              -- R10.35 65 := law.go:344 fieldAddr
              refine WL.v (by exact r_field ty_fld42_0 rfl) rfl rfl rfl ?_
              -- R10.36 66 := law.go:344 load
              refine WL.v (by exact r_load1 (v := .bool true) ty_one4 rfl (by rw [← hlv2]; exact c_sT hck2.A ht' (j := 0) (by decide) (by omega) st)) rfl rfl rfl ?_
              -- R10.37 67 := law.go:344 unOp
              refine WL.v (by first | exact r_notT rfl | exact r_notF rfl | exact r_not rfl) rfl rfl rfl ?_
              -- R10.38 68 := law.go:344 pick
              refine WL.v (by first | exact r_pickT (v := .bool _) rfl rfl | exact r_pickF (v := .bool _) rfl rfl) rfl rfl rfl ?_
              -- R10.39 69 := law.go:344 pick
              refine WL.v (by first | exact r_pickT (v := .bool _) rfl rfl | exact r_pickF (v := .bool _) rfl rfl) rfl rfl rfl ?_
              refine WL.fin hK1679 (fun _ _ h => h) ?_
              refine WC.condF rfl rfl ?_
              refine WC.skipF hK1678 (fun _ _ h => h) ?_
              refine WC.seq fun K1680 hK1680 => ?_
              refine WC.seq fun K1681 hK1681 => ?_
              -- region 12
              refine WC.region ?_
              -- R12.0 70 := law.go:347 move
              refine WL.v (by first | exact r_move (v := .int _ _) rfl | exact r_move rfl) rfl rfl rfl ?_
              -- R12.1 71 := law.go:347 binOp
              refine WL.v (by first | exact r_geq rfl rfl (decide_eq_true (by omega)) | exact r_geq rfl rfl (decide_eq_false (by omega)) | exact r_geq rfl rfl rfl) rfl rfl rfl ?_
              -- R12.2 72 := law.go:347 move
              refine WL.v (by first | exact r_move (v := .bool _) rfl | exact r_move rfl) rfl rfl rfl ?_
              -- R12.3 73 := law.go:347 move
              refine WL.v (by first | exact r_move (v := .int _ _) rfl | exact r_move rfl) rfl rfl rfl ?_
              -- R12.4 74 := law.go:347 binOp
              refine WL.v (by first | exact r_neq rfl rfl (decide_eq_true (by omega)) | exact r_neq rfl rfl (decide_eq_false (by omega)) | exact r_neq rfl rfl rfl) rfl rfl rfl ?_
              -- R12.5 75 := law.go:347 pick
              refine WL.v (by first | exact r_pickT (v := .bool _) rfl rfl | exact r_pickF (v := .bool _) rfl rfl) rfl rfl rfl ?_
              -- R12.6 76 := law.go:347 move
              refine WL.v (by first | exact r_move (v := .bool _) rfl | exact r_move rfl) rfl rfl rfl ?_
              -- R12.7 77 := law.go:347 move
              refine WL.v (by first | exact r_move (v := .int _ _) rfl | exact r_move rfl) rfl rfl rfl ?_
              -- R12.8 78 := law.go:347 binOp
              refine WL.v (by first | exact r_neq rfl rfl (decide_eq_true (by omega)) | exact r_neq rfl rfl (decide_eq_false (by omega)) | exact r_neq rfl rfl rfl) rfl rfl rfl ?_
              -- R12.9 79 := law.go:347 pick
              refine WL.v (by first | exact r_pickT (v := .bool _) rfl rfl | exact r_pickF (v := .bool _) rfl rfl) rfl rfl rfl ?_
              -- R12.10 80 := law.go:347 move
              refine WL.v (by first | exact r_move (v := .bool _) rfl | exact r_move rfl) rfl rfl rfl ?_
              -- R12.11 81 := law.go:347 move
              refine WL.no rfl rfl ?_
              -- R12.12 82 := law.go:347 binOp
              refine WL.no rfl rfl ?_
              -- R12.13 83 := law.go:347 pick
              refine WL.v (by first | exact r_pickT (v := .bool _) rfl rfl | exact r_pickF (v := .bool _) rfl rfl) rfl rfl rfl ?_
              refine WL.fin hK1681 (fun _ _ h => h) ?_
              refine WC.condF rfl rfl ?_
              refine WC.skipF hK1680 (fun _ _ h => h) ?_
              refine WC.seq fun K1682 hK1682 => ?_
              refine WC.seq fun K1683 hK1683 => ?_
              -- region 14
              refine WC.region ?_
              -- R14.0 84 := law.go:350 move
              refine WL.v (by first | exact r_move (v := .int _ _) rfl | exact r_move rfl) rfl rfl rfl ?_
              -- R14.1 85 := law.go:350 binOp
              refine WL.v (by first | exact r_gtr rfl rfl (decide_eq_true (by omega)) | exact r_gtr rfl rfl (decide_eq_false (by omega)) | exact r_gtr rfl rfl rfl) rfl rfl rfl ?_
              refine WL.fin hK1683 (fun _ _ h => h) ?_
              refine WC.condT rfl rfl ?_
              -- region 15
              refine WC.region ?_
              -- R15.0 86 := law.go:351 move
              refine WL.v (by first | exact r_move (v := .int _ _) rfl | exact r_move rfl) rfl rfl rfl ?_
              -- R15.1 87 := law.go:351 binOp
              refine WL.v (by exact r_add (r := ((hcP s'.held r (t + 1) : Nat) : Int)) rfl rfl ((wi64 (by omega) (by omega)).trans (by omega))) rfl rfl rfl ?_
              -- R15.2 6 := law.go:351 assign
              refine WL.v (by first | exact r_assign (v := .int _ _) rfl | exact r_assign rfl) rfl rfl rfl ?_
              refine WL.fin hK1682 (fun _ _ h => h) ?_
              -- region 16
              refine WC.region ?_
              -- R16.0 88 := law.go:353 move
              refine WL.v (by first | exact r_move (v := .int _ _) rfl | exact r_move rfl) rfl rfl rfl ?_
              -- R16.1 89 := law.go:353 move
              refine WL.v (by first | exact r_move (v := .int _ _) rfl | exact r_move rfl) rfl rfl rfl ?_
              -- R16.2 90 := law.go:353 binOp
              refine WL.v (by exact r_add (r := ((sumP (fun t => s'.held t r) (t + 1) : Nat) : Int)) rfl rfl ((wi64 (by omega) (by omega)).trans (by omega))) rfl rfl rfl ?_
              -- R16.3 5 := law.go:353 assign
              refine WL.v (by first | exact r_assign (v := .int _ _) rfl | exact r_assign rfl) rfl rfl rfl ?_
              refine WL.fin hK1675 (fun _ _ h => h) ?_
              -- region 17
              refine WC.region ?_
              -- R17.0 91 := law.go:342 binOp
              refine WL.v (by first | exact r_add rfl rfl (wi64 (by omega) (by omega)) | exact r_add rfl rfl rfl) rfl rfl rfl ?_
              -- R17.1 18 := law.go:342 move
              refine WL.v (by first | exact r_move (v := .int _ _) rfl | exact r_move rfl) rfl rfl rfl ?_
              refine WL.next hK2 (fun _ _ h => h) (t + 1) ⟨ht', st⟩ (by omega) (by repeat (first | exact sub_nil _ | refine sub_cons rfl rfl ?_))
            · have hn16 : s'.held t r = 16 := by omega
              refine WC.seq fun K1684 hK1684 => ?_
              -- region 7
              refine WC.region ?_
              -- R7.0 19 := law.go:342 binOp
              refine WL.v (by first | exact r_lss rfl rfl (decide_eq_true (by omega)) | exact r_lss rfl rfl (decide_eq_false (by omega)) | exact r_lss rfl rfl rfl) rfl rfl rfl ?_
              refine WL.fin hK1684 (fun _ _ h => h) ?_
              refine WC.seq fun K1685 hK1685 => ?_
              refine WC.condT rfl rfl ?_
              refine WC.skipF hK1685 (fun _ _ h => h) ?_
              refine WC.seq fun K1686 hK1686 => ?_
              refine WC.block ?_
              refine WC.seq fun K1687 hK1687 => ?_
              -- region 8
              refine WC.region ?_
              -- R8.0 20 := law.go:342 move
              refine WL.v (by first | exact r_move (v := .int _ _) rfl | exact r_move rfl) rfl rfl rfl ?_
              -- R8.1 7 := law.go:342 assign
              refine WL.v (by first | exact r_assign (v := .int _ _) rfl | exact r_assign rfl) rfl rfl rfl ?_
              refine WL.fin hK1687 (fun _ _ h => h) ?_
              refine WC.seq fun K1688 hK1688 => ?_
              -- region 9
              refine WC.region ?_
              -- R9.0 21 := law.go:343 fieldAddr
              refine WL.v (by exact r_field ty_fld36_2 rfl) rfl rfl rfl ?_
              -- R9.1 22 := law.go:343 load
              refine WL.v (by exact r_load1 (v := .pointer (some ⟨bA, 0, none⟩)) ty_one29 rfl (by rw [← f6]; exact st.c1 (by decide))) rfl rfl rfl ?_
              -- R9.2 23 := law.go:343 move
              refine WL.v (by first | exact r_move (v := .int _ _) rfl | exact r_move rfl) rfl rfl rfl ?_
              -- R9.3 24 := law.go:343 move
              refine WL.v (by first | exact r_move (v := .int _ _) rfl | exact r_move rfl) rfl rfl rfl ?_
              -- R9.4 25 := law.go:343 nilCheck
              refine WL.v (by exact r_nilCheck rfl) rfl rfl rfl ?_
              -- R9.5 26 := law.go:343 fieldAddr
              refine WL.v (by exact r_field ty_fld50_4 rfl) rfl rfl rfl ?_
              -- R9.6 27 := law.go:343 indexAddr
              refine WL.v (by exact r_indexA (j := t) ty_ar45 rfl rfl rfl ht') rfl rfl rfl ?_
              -- R9.7 28 := law.go:343 indexAddr
              refine WL.v (by exact r_indexA (j := r) ty_ar44 rfl rfl rfl hr') rfl rfl rfl ?_
              -- R9.8 29 := law.go:343 load
              refine WL.v (by exact r_load1 (v := .int .i64 (s'.held t r : Nat)) ty_one3 rfl (c_sH hck2.A ht' hr' (by omega) st)) rfl rfl rfl ?_
              -- R9.9 8 := law.go:343 assign
              refine WL.v (by first | exact r_assign (v := .int _ _) rfl | exact r_assign rfl) rfl rfl rfl ?_
              refine WL.fin hK1688 (fun _ _ h => h) ?_
              refine WC.seq fun K1689 hK1689 => ?_
              refine WC.seq fun K1690 hK1690 => ?_
              -- region 10
              refine WC.region ?_
              -- R10.0 30 := law.go:344 move
              refine WL.v (by first | exact r_move (v := .int _ _) rfl | exact r_move rfl) rfl rfl rfl ?_
              -- R10.1 31 := law.go:344 binOp
              refine WL.v (by first | exact r_lss rfl rfl (decide_eq_true (by omega)) | exact r_lss rfl rfl (decide_eq_false (by omega)) | exact r_lss rfl rfl rfl) rfl rfl rfl ?_
              -- R10.2 32 := law.go:344 move
              refine WL.v (by first | exact r_move (v := .bool _) rfl | exact r_move rfl) rfl rfl rfl ?_
              -- R10.3 33 := law.go:344 move
              refine WL.v (by first | exact r_move (v := .int _ _) rfl | exact r_move rfl) rfl rfl rfl ?_
              -- R10.4 34 := law.go:344 binOp
              refine WL.v (by first | exact r_gtr rfl rfl (decide_eq_true (by omega)) | exact r_gtr rfl rfl (decide_eq_false (by omega)) | exact r_gtr rfl rfl rfl) rfl rfl rfl ?_
              -- R10.5 35 := law.go:344 move
              refine WL.v (by first | exact r_move (v := .bool _) rfl | exact r_move rfl) rfl rfl rfl ?_
              -- R10.6 36 := law.go:344 fieldAddr
              refine WL.v (by exact r_field ty_fld36_2 rfl) rfl rfl rfl ?_
              -- R10.7 37 := law.go:344 load
              refine WL.v (by exact r_load1 (v := .pointer (some ⟨bA, 0, none⟩)) ty_one29 rfl (by rw [← f6]; exact st.c1 (by decide))) rfl rfl rfl ?_
              -- R10.8 38 := law.go:344 move
              refine WL.v (by first | exact r_move (v := .int _ _) rfl | exact r_move rfl) rfl rfl rfl ?_
              -- R10.9 39 := law.go:344 nilCheck
              refine WL.v (by exact r_nilCheck rfl) rfl rfl rfl ?_
              -- R10.10 40 := law.go:344 fieldAddr
              refine WL.v (by exact r_field ty_fld50_3 rfl) rfl rfl rfl ?_
              -- R10.11 41 := law.go:344 indexAddr
              refine WL.v (by exact r_indexA (j := t) ty_ar43 rfl rfl rfl ht') rfl rfl rfl ?_
              -- R10.12 42 := law.go:344 fieldAddr
              refine WL.v (by exact r_field ty_fld42_0 rfl) rfl rfl rfl ?_
              -- R10.13 43 := law.go:344 load
              refine WL.v (by exact r_load1 (v := .bool true) ty_one4 rfl (by rw [← hlv]; exact c_sT hck2.A ht' (j := 0) (by decide) (by omega) st)) rfl rfl rfl ?_
              -- R10.14 44 := law.go:344 unOp
              refine WL.v (by first | exact r_notT rfl | exact r_notF rfl | exact r_not rfl) rfl rfl rfl ?_
              -- R10.15 45 := law.go:344 pick
              refine WL.v (by first | exact r_pickT (v := .bool _) rfl rfl | exact r_pickF (v := .bool _) rfl rfl) rfl rfl rfl ?_
              -- R10.16 46 := law.go:344 pick
              refine WL.v (by first | exact r_pickT (v := .bool _) rfl rfl | exact r_pickF (v := .bool _) rfl rfl) rfl rfl rfl ?_
              -- R10.17 47 := law.go:344 move
              refine WL.v (by first | exact r_move (v := .bool _) rfl | exact r_move rfl) rfl rfl rfl ?_
              -- R10.18 48 := law.go:344 fieldAddr
              refine WL.v (by exact r_field ty_fld36_2 rfl) rfl rfl rfl ?_
              -- R10.19 49 := law.go:344 load
              refine WL.v (by exact r_load1 (v := .pointer (some ⟨bA, 0, none⟩)) ty_one29 rfl (by rw [← f6]; exact st.c1 (by decide))) rfl rfl rfl ?_
              -- R10.20 50 := law.go:344 move
              refine WL.v (by first | exact r_move (v := .int _ _) rfl | exact r_move rfl) rfl rfl rfl ?_
              -- R10.21 51 := law.go:344 move
              refine WL.v (by first | exact r_move (v := .int _ _) rfl | exact r_move rfl) rfl rfl rfl ?_
              -- R10.22 52 := law.go:344 nilCheck
              refine WL.v (by exact r_nilCheck rfl) rfl rfl rfl ?_
              -- R10.23 53 := law.go:344 fieldAddr
              refine WL.v (by exact r_field ty_fld50_5 rfl) rfl rfl rfl ?_
              -- R10.24 54 := law.go:344 indexAddr
              refine WL.v (by exact r_indexA (j := t) ty_ar45 rfl rfl rfl ht') rfl rfl rfl ?_
              -- R10.25 55 := law.go:344 indexAddr
              refine WL.v (by exact r_indexA (j := r) ty_ar44 rfl rfl rfl hr') rfl rfl rfl ?_
              -- R10.26 56 := law.go:344 load
              refine WL.v (by exact r_load1 (v := .int .i64 (s'.claim t r : Nat)) ty_one3 rfl (c_sC hck2.A ht' hr' (by omega) st)) rfl rfl rfl ?_
              -- R10.27 57 := law.go:344 binOp
              refine WL.v (by first | exact r_neq rfl rfl (decide_eq_true (by omega)) | exact r_neq rfl rfl (decide_eq_false (by omega)) | exact r_neq rfl rfl rfl) rfl rfl rfl ?_
              -- R10.28 58 := law.go:344 move
              refine WL.v (by first | exact r_move (v := .bool _) rfl | exact r_move rfl) rfl rfl rfl ?_
              -- R10.29 59 := law.go:344 fieldAddr
              refine WL.v (by exact r_field ty_fld36_2 rfl) rfl rfl rfl ?_
              -- R10.30 60 := law.go:344 load
              refine WL.v (by exact r_load1 (v := .pointer (some ⟨bA, 0, none⟩)) ty_one29 rfl (by rw [← f6]; exact st.c1 (by decide))) rfl rfl rfl ?_
              -- R10.31 61 := law.go:344 move
              refine WL.v (by first | exact r_move (v := .int _ _) rfl | exact r_move rfl) rfl rfl rfl ?_
              -- R10.32 62 := law.go:344 nilCheck
              refine WL.v (by exact r_nilCheck rfl) rfl rfl rfl ?_
              -- R10.33 63 := law.go:344 fieldAddr
              refine WL.v (by exact r_field ty_fld50_3 rfl) rfl rfl rfl ?_
              -- R10.34 64 := law.go:344 indexAddr
              refine WL.v (by exact r_indexA (j := t) ty_ar43 rfl rfl rfl ht') rfl rfl rfl ?_
              -- R10.35 65 := law.go:344 fieldAddr
              refine WL.v (by exact r_field ty_fld42_0 rfl) rfl rfl rfl ?_
              -- R10.36 66 := law.go:344 load
              refine WL.v (by exact r_load1 (v := .bool true) ty_one4 rfl (by rw [← hlv2]; exact c_sT hck2.A ht' (j := 0) (by decide) (by omega) st)) rfl rfl rfl ?_
              -- R10.37 67 := law.go:344 unOp
              refine WL.v (by first | exact r_notT rfl | exact r_notF rfl | exact r_not rfl) rfl rfl rfl ?_
              -- R10.38 68 := law.go:344 pick
              refine WL.v (by first | exact r_pickT (v := .bool _) rfl rfl | exact r_pickF (v := .bool _) rfl rfl) rfl rfl rfl ?_
              -- R10.39 69 := law.go:344 pick
              refine WL.v (by first | exact r_pickT (v := .bool _) rfl rfl | exact r_pickF (v := .bool _) rfl rfl) rfl rfl rfl ?_
              refine WL.fin hK1690 (fun _ _ h => h) ?_
              refine WC.condF rfl rfl ?_
              refine WC.skipF hK1689 (fun _ _ h => h) ?_
              refine WC.seq fun K1691 hK1691 => ?_
              refine WC.seq fun K1692 hK1692 => ?_
              -- region 12
              refine WC.region ?_
              -- R12.0 70 := law.go:347 move
              refine WL.v (by first | exact r_move (v := .int _ _) rfl | exact r_move rfl) rfl rfl rfl ?_
              -- R12.1 71 := law.go:347 binOp
              refine WL.v (by first | exact r_geq rfl rfl (decide_eq_true (by omega)) | exact r_geq rfl rfl (decide_eq_false (by omega)) | exact r_geq rfl rfl rfl) rfl rfl rfl ?_
              -- R12.2 72 := law.go:347 move
              refine WL.v (by first | exact r_move (v := .bool _) rfl | exact r_move rfl) rfl rfl rfl ?_
              -- R12.3 73 := law.go:347 move
              refine WL.v (by first | exact r_move (v := .int _ _) rfl | exact r_move rfl) rfl rfl rfl ?_
              -- R12.4 74 := law.go:347 binOp
              refine WL.v (by first | exact r_neq rfl rfl (decide_eq_true (by omega)) | exact r_neq rfl rfl (decide_eq_false (by omega)) | exact r_neq rfl rfl rfl) rfl rfl rfl ?_
              -- R12.5 75 := law.go:347 pick
              refine WL.v (by first | exact r_pickT (v := .bool _) rfl rfl | exact r_pickF (v := .bool _) rfl rfl) rfl rfl rfl ?_
              -- R12.6 76 := law.go:347 move
              refine WL.v (by first | exact r_move (v := .bool _) rfl | exact r_move rfl) rfl rfl rfl ?_
              -- R12.7 77 := law.go:347 move
              refine WL.v (by first | exact r_move (v := .int _ _) rfl | exact r_move rfl) rfl rfl rfl ?_
              -- R12.8 78 := law.go:347 binOp
              refine WL.v (by first | exact r_neq rfl rfl (decide_eq_true (by omega)) | exact r_neq rfl rfl (decide_eq_false (by omega)) | exact r_neq rfl rfl rfl) rfl rfl rfl ?_
              -- R12.9 79 := law.go:347 pick
              refine WL.v (by first | exact r_pickT (v := .bool _) rfl rfl | exact r_pickF (v := .bool _) rfl rfl) rfl rfl rfl ?_
              -- R12.10 80 := law.go:347 move
              refine WL.v (by first | exact r_move (v := .bool _) rfl | exact r_move rfl) rfl rfl rfl ?_
              -- R12.11 81 := law.go:347 move
              refine WL.v (by first | exact r_move (v := .int _ _) rfl | exact r_move rfl) rfl rfl rfl ?_
              -- R12.12 82 := law.go:347 binOp
              refine WL.v (by first | exact r_neq rfl rfl (decide_eq_true (by omega)) | exact r_neq rfl rfl (decide_eq_false (by omega)) | exact r_neq rfl rfl rfl) rfl rfl rfl ?_
              -- R12.13 83 := law.go:347 pick
              refine WL.v (by first | exact r_pickT (v := .bool _) rfl rfl | exact r_pickF (v := .bool _) rfl rfl) rfl rfl rfl ?_
              refine WL.fin hK1692 (fun _ _ h => h) ?_
              refine WC.condF rfl rfl ?_
              refine WC.skipF hK1691 (fun _ _ h => h) ?_
              refine WC.seq fun K1693 hK1693 => ?_
              refine WC.seq fun K1694 hK1694 => ?_
              -- region 14
              refine WC.region ?_
              -- R14.0 84 := law.go:350 move
              refine WL.v (by first | exact r_move (v := .int _ _) rfl | exact r_move rfl) rfl rfl rfl ?_
              -- R14.1 85 := law.go:350 binOp
              refine WL.v (by first | exact r_gtr rfl rfl (decide_eq_true (by omega)) | exact r_gtr rfl rfl (decide_eq_false (by omega)) | exact r_gtr rfl rfl rfl) rfl rfl rfl ?_
              refine WL.fin hK1694 (fun _ _ h => h) ?_
              refine WC.condT rfl rfl ?_
              -- region 15
              refine WC.region ?_
              -- R15.0 86 := law.go:351 move
              refine WL.v (by first | exact r_move (v := .int _ _) rfl | exact r_move rfl) rfl rfl rfl ?_
              -- R15.1 87 := law.go:351 binOp
              refine WL.v (by exact r_add (r := ((hcP s'.held r (t + 1) : Nat) : Int)) rfl rfl ((wi64 (by omega) (by omega)).trans (by omega))) rfl rfl rfl ?_
              -- R15.2 6 := law.go:351 assign
              refine WL.v (by first | exact r_assign (v := .int _ _) rfl | exact r_assign rfl) rfl rfl rfl ?_
              refine WL.fin hK1693 (fun _ _ h => h) ?_
              -- region 16
              refine WC.region ?_
              -- R16.0 88 := law.go:353 move
              refine WL.v (by first | exact r_move (v := .int _ _) rfl | exact r_move rfl) rfl rfl rfl ?_
              -- R16.1 89 := law.go:353 move
              refine WL.v (by first | exact r_move (v := .int _ _) rfl | exact r_move rfl) rfl rfl rfl ?_
              -- R16.2 90 := law.go:353 binOp
              refine WL.v (by exact r_add (r := ((sumP (fun t => s'.held t r) (t + 1) : Nat) : Int)) rfl rfl ((wi64 (by omega) (by omega)).trans (by omega))) rfl rfl rfl ?_
              -- R16.3 5 := law.go:353 assign
              refine WL.v (by first | exact r_assign (v := .int _ _) rfl | exact r_assign rfl) rfl rfl rfl ?_
              refine WL.fin hK1686 (fun _ _ h => h) ?_
              -- region 17
              refine WC.region ?_
              -- R17.0 91 := law.go:342 binOp
              refine WL.v (by first | exact r_add rfl rfl (wi64 (by omega) (by omega)) | exact r_add rfl rfl rfl) rfl rfl rfl ?_
              -- R17.1 18 := law.go:342 move
              refine WL.v (by first | exact r_move (v := .int _ _) rfl | exact r_move rfl) rfl rfl rfl ?_
              refine WL.next hK2 (fun _ _ h => h) (t + 1) ⟨ht', st⟩ (by omega) (by repeat (first | exact sub_nil _ | refine sub_cons rfl rfl ?_))
          · skip
            refine WC.seq fun K1695 hK1695 => ?_
            -- region 7
            refine WC.region ?_
            -- R7.0 19 := law.go:342 binOp
            refine WL.v (by first | exact r_lss rfl rfl (decide_eq_true (by omega)) | exact r_lss rfl rfl (decide_eq_false (by omega)) | exact r_lss rfl rfl rfl) rfl rfl rfl ?_
            refine WL.fin hK1695 (fun _ _ h => h) ?_
            refine WC.seq fun K1696 hK1696 => ?_
            refine WC.condT rfl rfl ?_
            refine WC.skipF hK1696 (fun _ _ h => h) ?_
            refine WC.seq fun K1697 hK1697 => ?_
            refine WC.block ?_
            refine WC.seq fun K1698 hK1698 => ?_
            -- region 8
            refine WC.region ?_
            -- R8.0 20 := law.go:342 move
            refine WL.v (by first | exact r_move (v := .int _ _) rfl | exact r_move rfl) rfl rfl rfl ?_
            -- R8.1 7 := law.go:342 assign
            refine WL.v (by first | exact r_assign (v := .int _ _) rfl | exact r_assign rfl) rfl rfl rfl ?_
            refine WL.fin hK1698 (fun _ _ h => h) ?_
            refine WC.seq fun K1699 hK1699 => ?_
            -- region 9
            refine WC.region ?_
            -- R9.0 21 := law.go:343 fieldAddr
            refine WL.v (by exact r_field ty_fld36_2 rfl) rfl rfl rfl ?_
            -- R9.1 22 := law.go:343 load
            refine WL.v (by exact r_load1 (v := .pointer (some ⟨bA, 0, none⟩)) ty_one29 rfl (by rw [← f6]; exact st.c1 (by decide))) rfl rfl rfl ?_
            -- R9.2 23 := law.go:343 move
            refine WL.v (by first | exact r_move (v := .int _ _) rfl | exact r_move rfl) rfl rfl rfl ?_
            -- R9.3 24 := law.go:343 move
            refine WL.v (by first | exact r_move (v := .int _ _) rfl | exact r_move rfl) rfl rfl rfl ?_
            -- R9.4 25 := law.go:343 nilCheck
            refine WL.v (by exact r_nilCheck rfl) rfl rfl rfl ?_
            -- R9.5 26 := law.go:343 fieldAddr
            refine WL.v (by exact r_field ty_fld50_4 rfl) rfl rfl rfl ?_
            -- R9.6 27 := law.go:343 indexAddr
            refine WL.v (by exact r_indexA (j := t) ty_ar45 rfl rfl rfl ht') rfl rfl rfl ?_
            -- R9.7 28 := law.go:343 indexAddr
            refine WL.v (by exact r_indexA (j := r) ty_ar44 rfl rfl rfl hr') rfl rfl rfl ?_
            -- R9.8 29 := law.go:343 load
            refine WL.v (by exact r_load1 (v := .int .i64 (s'.held t r : Nat)) ty_one3 rfl (c_sH hck2.A ht' hr' (by omega) st)) rfl rfl rfl ?_
            -- R9.9 8 := law.go:343 assign
            refine WL.v (by first | exact r_assign (v := .int _ _) rfl | exact r_assign rfl) rfl rfl rfl ?_
            refine WL.fin hK1699 (fun _ _ h => h) ?_
            refine WC.seq fun K1700 hK1700 => ?_
            refine WC.seq fun K1701 hK1701 => ?_
            -- region 10
            refine WC.region ?_
            -- R10.0 30 := law.go:344 move
            refine WL.v (by first | exact r_move (v := .int _ _) rfl | exact r_move rfl) rfl rfl rfl ?_
            -- R10.1 31 := law.go:344 binOp
            refine WL.v (by first | exact r_lss rfl rfl (decide_eq_true (by omega)) | exact r_lss rfl rfl (decide_eq_false (by omega)) | exact r_lss rfl rfl rfl) rfl rfl rfl ?_
            -- R10.2 32 := law.go:344 move
            refine WL.v (by first | exact r_move (v := .bool _) rfl | exact r_move rfl) rfl rfl rfl ?_
            -- R10.3 33 := law.go:344 move
            refine WL.v (by first | exact r_move (v := .int _ _) rfl | exact r_move rfl) rfl rfl rfl ?_
            -- R10.4 34 := law.go:344 binOp
            refine WL.v (by first | exact r_gtr rfl rfl (decide_eq_true (by omega)) | exact r_gtr rfl rfl (decide_eq_false (by omega)) | exact r_gtr rfl rfl rfl) rfl rfl rfl ?_
            -- R10.5 35 := law.go:344 move
            refine WL.v (by first | exact r_move (v := .bool _) rfl | exact r_move rfl) rfl rfl rfl ?_
            -- R10.6 36 := law.go:344 fieldAddr
            refine WL.v (by exact r_field ty_fld36_2 rfl) rfl rfl rfl ?_
            -- R10.7 37 := law.go:344 load
            refine WL.v (by exact r_load1 (v := .pointer (some ⟨bA, 0, none⟩)) ty_one29 rfl (by rw [← f6]; exact st.c1 (by decide))) rfl rfl rfl ?_
            -- R10.8 38 := law.go:344 move
            refine WL.v (by first | exact r_move (v := .int _ _) rfl | exact r_move rfl) rfl rfl rfl ?_
            -- R10.9 39 := law.go:344 nilCheck
            refine WL.v (by exact r_nilCheck rfl) rfl rfl rfl ?_
            -- R10.10 40 := law.go:344 fieldAddr
            refine WL.v (by exact r_field ty_fld50_3 rfl) rfl rfl rfl ?_
            -- R10.11 41 := law.go:344 indexAddr
            refine WL.v (by exact r_indexA (j := t) ty_ar43 rfl rfl rfl ht') rfl rfl rfl ?_
            -- R10.12 42 := law.go:344 fieldAddr
            refine WL.v (by exact r_field ty_fld42_0 rfl) rfl rfl rfl ?_
            -- R10.13 43 := law.go:344 load
            refine WL.v (by exact r_load1 (v := .bool true) ty_one4 rfl (by rw [← hlv]; exact c_sT hck2.A ht' (j := 0) (by decide) (by omega) st)) rfl rfl rfl ?_
            -- R10.14 44 := law.go:344 unOp
            refine WL.v (by first | exact r_notT rfl | exact r_notF rfl | exact r_not rfl) rfl rfl rfl ?_
            -- R10.15 45 := law.go:344 pick
            refine WL.v (by first | exact r_pickT (v := .bool _) rfl rfl | exact r_pickF (v := .bool _) rfl rfl) rfl rfl rfl ?_
            -- R10.16 46 := law.go:344 pick
            refine WL.v (by first | exact r_pickT (v := .bool _) rfl rfl | exact r_pickF (v := .bool _) rfl rfl) rfl rfl rfl ?_
            -- R10.17 47 := law.go:344 move
            refine WL.v (by first | exact r_move (v := .bool _) rfl | exact r_move rfl) rfl rfl rfl ?_
            -- R10.18 48 := law.go:344 fieldAddr
            refine WL.v (by exact r_field ty_fld36_2 rfl) rfl rfl rfl ?_
            -- R10.19 49 := law.go:344 load
            refine WL.v (by exact r_load1 (v := .pointer (some ⟨bA, 0, none⟩)) ty_one29 rfl (by rw [← f6]; exact st.c1 (by decide))) rfl rfl rfl ?_
            -- R10.20 50 := law.go:344 move
            refine WL.v (by first | exact r_move (v := .int _ _) rfl | exact r_move rfl) rfl rfl rfl ?_
            -- R10.21 51 := law.go:344 move
            refine WL.v (by first | exact r_move (v := .int _ _) rfl | exact r_move rfl) rfl rfl rfl ?_
            -- R10.22 52 := law.go:344 nilCheck
            refine WL.v (by exact r_nilCheck rfl) rfl rfl rfl ?_
            -- R10.23 53 := law.go:344 fieldAddr
            refine WL.v (by exact r_field ty_fld50_5 rfl) rfl rfl rfl ?_
            -- R10.24 54 := law.go:344 indexAddr
            refine WL.v (by exact r_indexA (j := t) ty_ar45 rfl rfl rfl ht') rfl rfl rfl ?_
            -- R10.25 55 := law.go:344 indexAddr
            refine WL.v (by exact r_indexA (j := r) ty_ar44 rfl rfl rfl hr') rfl rfl rfl ?_
            -- R10.26 56 := law.go:344 load
            refine WL.v (by exact r_load1 (v := .int .i64 (s'.claim t r : Nat)) ty_one3 rfl (c_sC hck2.A ht' hr' (by omega) st)) rfl rfl rfl ?_
            -- R10.27 57 := law.go:344 binOp
            refine WL.v (by first | exact r_neq rfl rfl (decide_eq_true (by omega)) | exact r_neq rfl rfl (decide_eq_false (by omega)) | exact r_neq rfl rfl rfl) rfl rfl rfl ?_
            -- R10.28 58 := law.go:344 move
            refine WL.v (by first | exact r_move (v := .bool _) rfl | exact r_move rfl) rfl rfl rfl ?_
            -- R10.29 59 := law.go:344 fieldAddr
            refine WL.v (by exact r_field ty_fld36_2 rfl) rfl rfl rfl ?_
            -- R10.30 60 := law.go:344 load
            refine WL.v (by exact r_load1 (v := .pointer (some ⟨bA, 0, none⟩)) ty_one29 rfl (by rw [← f6]; exact st.c1 (by decide))) rfl rfl rfl ?_
            -- R10.31 61 := law.go:344 move
            refine WL.v (by first | exact r_move (v := .int _ _) rfl | exact r_move rfl) rfl rfl rfl ?_
            -- R10.32 62 := law.go:344 nilCheck
            refine WL.v (by exact r_nilCheck rfl) rfl rfl rfl ?_
            -- R10.33 63 := law.go:344 fieldAddr
            refine WL.v (by exact r_field ty_fld50_3 rfl) rfl rfl rfl ?_
            -- R10.34 64 := law.go:344 indexAddr
            refine WL.v (by exact r_indexA (j := t) ty_ar43 rfl rfl rfl ht') rfl rfl rfl ?_
            -- R10.35 65 := law.go:344 fieldAddr
            refine WL.v (by exact r_field ty_fld42_0 rfl) rfl rfl rfl ?_
            -- R10.36 66 := law.go:344 load
            refine WL.v (by exact r_load1 (v := .bool true) ty_one4 rfl (by rw [← hlv2]; exact c_sT hck2.A ht' (j := 0) (by decide) (by omega) st)) rfl rfl rfl ?_
            -- R10.37 67 := law.go:344 unOp
            refine WL.v (by first | exact r_notT rfl | exact r_notF rfl | exact r_not rfl) rfl rfl rfl ?_
            -- R10.38 68 := law.go:344 pick
            refine WL.v (by first | exact r_pickT (v := .bool _) rfl rfl | exact r_pickF (v := .bool _) rfl rfl) rfl rfl rfl ?_
            -- R10.39 69 := law.go:344 pick
            refine WL.v (by first | exact r_pickT (v := .bool _) rfl rfl | exact r_pickF (v := .bool _) rfl rfl) rfl rfl rfl ?_
            refine WL.fin hK1701 (fun _ _ h => h) ?_
            refine WC.condF rfl rfl ?_
            refine WC.skipF hK1700 (fun _ _ h => h) ?_
            refine WC.seq fun K1702 hK1702 => ?_
            refine WC.seq fun K1703 hK1703 => ?_
            -- region 12
            refine WC.region ?_
            -- R12.0 70 := law.go:347 move
            refine WL.v (by first | exact r_move (v := .int _ _) rfl | exact r_move rfl) rfl rfl rfl ?_
            -- R12.1 71 := law.go:347 binOp
            refine WL.v (by first | exact r_geq rfl rfl (decide_eq_true (by omega)) | exact r_geq rfl rfl (decide_eq_false (by omega)) | exact r_geq rfl rfl rfl) rfl rfl rfl ?_
            -- R12.2 72 := law.go:347 move
            refine WL.v (by first | exact r_move (v := .bool _) rfl | exact r_move rfl) rfl rfl rfl ?_
            -- R12.3 73 := law.go:347 move
            refine WL.no rfl rfl ?_
            -- R12.4 74 := law.go:347 binOp
            refine WL.no rfl rfl ?_
            -- R12.5 75 := law.go:347 pick
            refine WL.v (by first | exact r_pickT (v := .bool _) rfl rfl | exact r_pickF (v := .bool _) rfl rfl) rfl rfl rfl ?_
            -- R12.6 76 := law.go:347 move
            refine WL.v (by first | exact r_move (v := .bool _) rfl | exact r_move rfl) rfl rfl rfl ?_
            -- R12.7 77 := law.go:347 move
            refine WL.no rfl rfl ?_
            -- R12.8 78 := law.go:347 binOp
            refine WL.no rfl rfl ?_
            -- R12.9 79 := law.go:347 pick
            refine WL.v (by first | exact r_pickT (v := .bool _) rfl rfl | exact r_pickF (v := .bool _) rfl rfl) rfl rfl rfl ?_
            -- R12.10 80 := law.go:347 move
            refine WL.v (by first | exact r_move (v := .bool _) rfl | exact r_move rfl) rfl rfl rfl ?_
            -- R12.11 81 := law.go:347 move
            refine WL.no rfl rfl ?_
            -- R12.12 82 := law.go:347 binOp
            refine WL.no rfl rfl ?_
            -- R12.13 83 := law.go:347 pick
            refine WL.v (by first | exact r_pickT (v := .bool _) rfl rfl | exact r_pickF (v := .bool _) rfl rfl) rfl rfl rfl ?_
            refine WL.fin hK1703 (fun _ _ h => h) ?_
            refine WC.condF rfl rfl ?_
            refine WC.skipF hK1702 (fun _ _ h => h) ?_
            refine WC.seq fun K1704 hK1704 => ?_
            refine WC.seq fun K1705 hK1705 => ?_
            -- region 14
            refine WC.region ?_
            -- R14.0 84 := law.go:350 move
            refine WL.v (by first | exact r_move (v := .int _ _) rfl | exact r_move rfl) rfl rfl rfl ?_
            -- R14.1 85 := law.go:350 binOp
            refine WL.v (by first | exact r_gtr rfl rfl (decide_eq_true (by omega)) | exact r_gtr rfl rfl (decide_eq_false (by omega)) | exact r_gtr rfl rfl rfl) rfl rfl rfl ?_
            refine WL.fin hK1705 (fun _ _ h => h) ?_
            refine WC.condT rfl rfl ?_
            -- region 15
            refine WC.region ?_
            -- R15.0 86 := law.go:351 move
            refine WL.v (by first | exact r_move (v := .int _ _) rfl | exact r_move rfl) rfl rfl rfl ?_
            -- R15.1 87 := law.go:351 binOp
            refine WL.v (by exact r_add (r := ((hcP s'.held r (t + 1) : Nat) : Int)) rfl rfl ((wi64 (by omega) (by omega)).trans (by omega))) rfl rfl rfl ?_
            -- R15.2 6 := law.go:351 assign
            refine WL.v (by first | exact r_assign (v := .int _ _) rfl | exact r_assign rfl) rfl rfl rfl ?_
            refine WL.fin hK1704 (fun _ _ h => h) ?_
            -- region 16
            refine WC.region ?_
            -- R16.0 88 := law.go:353 move
            refine WL.v (by first | exact r_move (v := .int _ _) rfl | exact r_move rfl) rfl rfl rfl ?_
            -- R16.1 89 := law.go:353 move
            refine WL.v (by first | exact r_move (v := .int _ _) rfl | exact r_move rfl) rfl rfl rfl ?_
            -- R16.2 90 := law.go:353 binOp
            refine WL.v (by exact r_add (r := ((sumP (fun t => s'.held t r) (t + 1) : Nat) : Int)) rfl rfl ((wi64 (by omega) (by omega)).trans (by omega))) rfl rfl rfl ?_
            -- R16.3 5 := law.go:353 assign
            refine WL.v (by first | exact r_assign (v := .int _ _) rfl | exact r_assign rfl) rfl rfl rfl ?_
            refine WL.fin hK1697 (fun _ _ h => h) ?_
            -- region 17
            refine WC.region ?_
            -- R17.0 91 := law.go:342 binOp
            refine WL.v (by first | exact r_add rfl rfl (wi64 (by omega) (by omega)) | exact r_add rfl rfl rfl) rfl rfl rfl ?_
            -- R17.1 18 := law.go:342 move
            refine WL.v (by first | exact r_move (v := .int _ _) rfl | exact r_move rfl) rfl rfl rfl ?_
            refine WL.next hK2 (fun _ _ h => h) (t + 1) ⟨ht', st⟩ (by omega) (by repeat (first | exact sub_nil _ | refine sub_cons rfl rfl ?_))
      · have ec : hcP s'.held r (t + 1) = hcP s'.held r t := by show hcP s'.held r t + (if 0 < s'.held t r then 1 else 0) = _; rw [if_neg hpos]; rfl
        by_cases hcl : s'.claim t r = 0
        · skip
          by_cases h8 : 8 ≤ r
          · skip
            refine WC.seq fun K1706 hK1706 => ?_
            -- region 7
            refine WC.region ?_
            -- R7.0 19 := law.go:342 binOp
            refine WL.v (by first | exact r_lss rfl rfl (decide_eq_true (by omega)) | exact r_lss rfl rfl (decide_eq_false (by omega)) | exact r_lss rfl rfl rfl) rfl rfl rfl ?_
            refine WL.fin hK1706 (fun _ _ h => h) ?_
            refine WC.seq fun K1707 hK1707 => ?_
            refine WC.condT rfl rfl ?_
            refine WC.skipF hK1707 (fun _ _ h => h) ?_
            refine WC.seq fun K1708 hK1708 => ?_
            refine WC.block ?_
            refine WC.seq fun K1709 hK1709 => ?_
            -- region 8
            refine WC.region ?_
            -- R8.0 20 := law.go:342 move
            refine WL.v (by first | exact r_move (v := .int _ _) rfl | exact r_move rfl) rfl rfl rfl ?_
            -- R8.1 7 := law.go:342 assign
            refine WL.v (by first | exact r_assign (v := .int _ _) rfl | exact r_assign rfl) rfl rfl rfl ?_
            refine WL.fin hK1709 (fun _ _ h => h) ?_
            refine WC.seq fun K1710 hK1710 => ?_
            -- region 9
            refine WC.region ?_
            -- R9.0 21 := law.go:343 fieldAddr
            refine WL.v (by exact r_field ty_fld36_2 rfl) rfl rfl rfl ?_
            -- R9.1 22 := law.go:343 load
            refine WL.v (by exact r_load1 (v := .pointer (some ⟨bA, 0, none⟩)) ty_one29 rfl (by rw [← f6]; exact st.c1 (by decide))) rfl rfl rfl ?_
            -- R9.2 23 := law.go:343 move
            refine WL.v (by first | exact r_move (v := .int _ _) rfl | exact r_move rfl) rfl rfl rfl ?_
            -- R9.3 24 := law.go:343 move
            refine WL.v (by first | exact r_move (v := .int _ _) rfl | exact r_move rfl) rfl rfl rfl ?_
            -- R9.4 25 := law.go:343 nilCheck
            refine WL.v (by exact r_nilCheck rfl) rfl rfl rfl ?_
            -- R9.5 26 := law.go:343 fieldAddr
            refine WL.v (by exact r_field ty_fld50_4 rfl) rfl rfl rfl ?_
            -- R9.6 27 := law.go:343 indexAddr
            refine WL.v (by exact r_indexA (j := t) ty_ar45 rfl rfl rfl ht') rfl rfl rfl ?_
            -- R9.7 28 := law.go:343 indexAddr
            refine WL.v (by exact r_indexA (j := r) ty_ar44 rfl rfl rfl hr') rfl rfl rfl ?_
            -- R9.8 29 := law.go:343 load
            refine WL.v (by exact r_load1 (v := .int .i64 (s'.held t r : Nat)) ty_one3 rfl (c_sH hck2.A ht' hr' (by omega) st)) rfl rfl rfl ?_
            -- R9.9 8 := law.go:343 assign
            refine WL.v (by first | exact r_assign (v := .int _ _) rfl | exact r_assign rfl) rfl rfl rfl ?_
            refine WL.fin hK1710 (fun _ _ h => h) ?_
            refine WC.seq fun K1711 hK1711 => ?_
            refine WC.seq fun K1712 hK1712 => ?_
            -- region 10
            refine WC.region ?_
            -- R10.0 30 := law.go:344 move
            refine WL.v (by first | exact r_move (v := .int _ _) rfl | exact r_move rfl) rfl rfl rfl ?_
            -- R10.1 31 := law.go:344 binOp
            refine WL.v (by first | exact r_lss rfl rfl (decide_eq_true (by omega)) | exact r_lss rfl rfl (decide_eq_false (by omega)) | exact r_lss rfl rfl rfl) rfl rfl rfl ?_
            -- R10.2 32 := law.go:344 move
            refine WL.v (by first | exact r_move (v := .bool _) rfl | exact r_move rfl) rfl rfl rfl ?_
            -- R10.3 33 := law.go:344 move
            refine WL.v (by first | exact r_move (v := .int _ _) rfl | exact r_move rfl) rfl rfl rfl ?_
            -- R10.4 34 := law.go:344 binOp
            refine WL.v (by first | exact r_gtr rfl rfl (decide_eq_true (by omega)) | exact r_gtr rfl rfl (decide_eq_false (by omega)) | exact r_gtr rfl rfl rfl) rfl rfl rfl ?_
            -- R10.5 35 := law.go:344 move
            refine WL.v (by first | exact r_move (v := .bool _) rfl | exact r_move rfl) rfl rfl rfl ?_
            -- R10.6 36 := law.go:344 fieldAddr
            refine WL.no rfl rfl ?_
            -- R10.7 37 := law.go:344 load
            refine WL.no rfl rfl ?_
            -- R10.8 38 := law.go:344 move
            refine WL.no rfl rfl ?_
            -- R10.9 39 := law.go:344 nilCheck
            refine WL.no rfl rfl ?_
            -- R10.10 40 := law.go:344 fieldAddr
            refine WL.no rfl rfl ?_
            -- R10.11 41 := law.go:344 indexAddr
            refine WL.no rfl rfl ?_
            -- R10.12 42 := law.go:344 fieldAddr
            refine WL.no rfl rfl ?_
            -- R10.13 43 := law.go:344 load
            refine WL.no rfl rfl ?_
            -- R10.14 44 := law.go:344 unOp
            refine WL.no rfl rfl ?_
            -- R10.15 45 := law.go:344 pick
            refine WL.v (by first | exact r_pickT (v := .bool _) rfl rfl | exact r_pickF (v := .bool _) rfl rfl) rfl rfl rfl ?_
            -- R10.16 46 := law.go:344 pick
            refine WL.v (by first | exact r_pickT (v := .bool _) rfl rfl | exact r_pickF (v := .bool _) rfl rfl) rfl rfl rfl ?_
            -- R10.17 47 := law.go:344 move
            refine WL.v (by first | exact r_move (v := .bool _) rfl | exact r_move rfl) rfl rfl rfl ?_
            -- R10.18 48 := law.go:344 fieldAddr
            refine WL.v (by exact r_field ty_fld36_2 rfl) rfl rfl rfl ?_
            -- R10.19 49 := law.go:344 load
            refine WL.v (by exact r_load1 (v := .pointer (some ⟨bA, 0, none⟩)) ty_one29 rfl (by rw [← f6]; exact st.c1 (by decide))) rfl rfl rfl ?_
            -- R10.20 50 := law.go:344 move
            refine WL.v (by first | exact r_move (v := .int _ _) rfl | exact r_move rfl) rfl rfl rfl ?_
            -- R10.21 51 := law.go:344 move
            refine WL.v (by first | exact r_move (v := .int _ _) rfl | exact r_move rfl) rfl rfl rfl ?_
            -- R10.22 52 := law.go:344 nilCheck
            refine WL.v (by exact r_nilCheck rfl) rfl rfl rfl ?_
            -- R10.23 53 := law.go:344 fieldAddr
            refine WL.v (by exact r_field ty_fld50_5 rfl) rfl rfl rfl ?_
            -- R10.24 54 := law.go:344 indexAddr
            refine WL.v (by exact r_indexA (j := t) ty_ar45 rfl rfl rfl ht') rfl rfl rfl ?_
            -- R10.25 55 := law.go:344 indexAddr
            refine WL.v (by exact r_indexA (j := r) ty_ar44 rfl rfl rfl hr') rfl rfl rfl ?_
            -- R10.26 56 := law.go:344 load
            refine WL.v (by exact r_load1 (v := .int .i64 (s'.claim t r : Nat)) ty_one3 rfl (c_sC hck2.A ht' hr' (by omega) st)) rfl rfl rfl ?_
            -- R10.27 57 := law.go:344 binOp
            refine WL.v (by first | exact r_neq rfl rfl (decide_eq_true (by omega)) | exact r_neq rfl rfl (decide_eq_false (by omega)) | exact r_neq rfl rfl rfl) rfl rfl rfl ?_
            -- R10.28 58 := law.go:344 move
            refine WL.v (by first | exact r_move (v := .bool _) rfl | exact r_move rfl) rfl rfl rfl ?_
            -- R10.29 59 := law.go:344 fieldAddr
            refine WL.no rfl rfl ?_
            -- R10.30 60 := law.go:344 load
            refine WL.no rfl rfl ?_
            -- R10.31 61 := law.go:344 move
            refine WL.no rfl rfl ?_
            -- R10.32 62 := law.go:344 nilCheck
            refine WL.no rfl rfl ?_
            -- R10.33 63 := law.go:344 fieldAddr
            refine WL.no rfl rfl ?_
            -- R10.34 64 := law.go:344 indexAddr
            refine WL.no rfl rfl ?_
            -- R10.35 65 := law.go:344 fieldAddr
            refine WL.no rfl rfl ?_
            -- R10.36 66 := law.go:344 load
            refine WL.no rfl rfl ?_
            -- R10.37 67 := law.go:344 unOp
            refine WL.no rfl rfl ?_
            -- R10.38 68 := law.go:344 pick
            refine WL.v (by first | exact r_pickT (v := .bool _) rfl rfl | exact r_pickF (v := .bool _) rfl rfl) rfl rfl rfl ?_
            -- R10.39 69 := law.go:344 pick
            refine WL.v (by first | exact r_pickT (v := .bool _) rfl rfl | exact r_pickF (v := .bool _) rfl rfl) rfl rfl rfl ?_
            refine WL.fin hK1712 (fun _ _ h => h) ?_
            refine WC.condF rfl rfl ?_
            refine WC.skipF hK1711 (fun _ _ h => h) ?_
            refine WC.seq fun K1713 hK1713 => ?_
            refine WC.seq fun K1714 hK1714 => ?_
            -- region 12
            refine WC.region ?_
            -- R12.0 70 := law.go:347 move
            refine WL.v (by first | exact r_move (v := .int _ _) rfl | exact r_move rfl) rfl rfl rfl ?_
            -- R12.1 71 := law.go:347 binOp
            refine WL.v (by first | exact r_geq rfl rfl (decide_eq_true (by omega)) | exact r_geq rfl rfl (decide_eq_false (by omega)) | exact r_geq rfl rfl rfl) rfl rfl rfl ?_
            -- R12.2 72 := law.go:347 move
            refine WL.v (by first | exact r_move (v := .bool _) rfl | exact r_move rfl) rfl rfl rfl ?_
            -- R12.3 73 := law.go:347 move
            refine WL.v (by first | exact r_move (v := .int _ _) rfl | exact r_move rfl) rfl rfl rfl ?_
            -- R12.4 74 := law.go:347 binOp
            refine WL.v (by first | exact r_neq rfl rfl (decide_eq_true (by omega)) | exact r_neq rfl rfl (decide_eq_false (by omega)) | exact r_neq rfl rfl rfl) rfl rfl rfl ?_
            -- R12.5 75 := law.go:347 pick
            refine WL.v (by first | exact r_pickT (v := .bool _) rfl rfl | exact r_pickF (v := .bool _) rfl rfl) rfl rfl rfl ?_
            -- R12.6 76 := law.go:347 move
            refine WL.v (by first | exact r_move (v := .bool _) rfl | exact r_move rfl) rfl rfl rfl ?_
            -- R12.7 77 := law.go:347 move
            refine WL.no rfl rfl ?_
            -- R12.8 78 := law.go:347 binOp
            refine WL.no rfl rfl ?_
            -- R12.9 79 := law.go:347 pick
            refine WL.v (by first | exact r_pickT (v := .bool _) rfl rfl | exact r_pickF (v := .bool _) rfl rfl) rfl rfl rfl ?_
            -- R12.10 80 := law.go:347 move
            refine WL.v (by first | exact r_move (v := .bool _) rfl | exact r_move rfl) rfl rfl rfl ?_
            -- R12.11 81 := law.go:347 move
            refine WL.no rfl rfl ?_
            -- R12.12 82 := law.go:347 binOp
            refine WL.no rfl rfl ?_
            -- R12.13 83 := law.go:347 pick
            refine WL.v (by first | exact r_pickT (v := .bool _) rfl rfl | exact r_pickF (v := .bool _) rfl rfl) rfl rfl rfl ?_
            refine WL.fin hK1714 (fun _ _ h => h) ?_
            refine WC.condF rfl rfl ?_
            refine WC.skipF hK1713 (fun _ _ h => h) ?_
            refine WC.seq fun K1715 hK1715 => ?_
            refine WC.seq fun K1716 hK1716 => ?_
            -- region 14
            refine WC.region ?_
            -- R14.0 84 := law.go:350 move
            refine WL.v (by first | exact r_move (v := .int _ _) rfl | exact r_move rfl) rfl rfl rfl ?_
            -- R14.1 85 := law.go:350 binOp
            refine WL.v (by first | exact r_gtr rfl rfl (decide_eq_true (by omega)) | exact r_gtr rfl rfl (decide_eq_false (by omega)) | exact r_gtr rfl rfl rfl) rfl rfl rfl ?_
            refine WL.fin hK1716 (fun _ _ h => h) ?_
            refine WC.condF rfl rfl ?_
            refine WC.skipF hK1715 (fun _ _ h => h) ?_
            -- region 16
            refine WC.region ?_
            -- R16.0 88 := law.go:353 move
            refine WL.v (by first | exact r_move (v := .int _ _) rfl | exact r_move rfl) rfl rfl rfl ?_
            -- R16.1 89 := law.go:353 move
            refine WL.v (by first | exact r_move (v := .int _ _) rfl | exact r_move rfl) rfl rfl rfl ?_
            -- R16.2 90 := law.go:353 binOp
            refine WL.v (by exact r_add (r := ((sumP (fun t => s'.held t r) (t + 1) : Nat) : Int)) rfl rfl ((wi64 (by omega) (by omega)).trans (by omega))) rfl rfl rfl ?_
            -- R16.3 5 := law.go:353 assign
            refine WL.v (by first | exact r_assign (v := .int _ _) rfl | exact r_assign rfl) rfl rfl rfl ?_
            refine WL.fin hK1708 (fun _ _ h => h) ?_
            -- region 17
            refine WC.region ?_
            -- R17.0 91 := law.go:342 binOp
            refine WL.v (by first | exact r_add rfl rfl (wi64 (by omega) (by omega)) | exact r_add rfl rfl rfl) rfl rfl rfl ?_
            -- R17.1 18 := law.go:342 move
            refine WL.v (by first | exact r_move (v := .int _ _) rfl | exact r_move rfl) rfl rfl rfl ?_
            refine WL.next hK2 (fun _ _ h => h) (t + 1) ⟨ht', st⟩ (by omega) (by rw [ec]; repeat (first | exact sub_nil _ | refine sub_cons rfl rfl ?_))
          · skip
            refine WC.seq fun K1717 hK1717 => ?_
            -- region 7
            refine WC.region ?_
            -- R7.0 19 := law.go:342 binOp
            refine WL.v (by first | exact r_lss rfl rfl (decide_eq_true (by omega)) | exact r_lss rfl rfl (decide_eq_false (by omega)) | exact r_lss rfl rfl rfl) rfl rfl rfl ?_
            refine WL.fin hK1717 (fun _ _ h => h) ?_
            refine WC.seq fun K1718 hK1718 => ?_
            refine WC.condT rfl rfl ?_
            refine WC.skipF hK1718 (fun _ _ h => h) ?_
            refine WC.seq fun K1719 hK1719 => ?_
            refine WC.block ?_
            refine WC.seq fun K1720 hK1720 => ?_
            -- region 8
            refine WC.region ?_
            -- R8.0 20 := law.go:342 move
            refine WL.v (by first | exact r_move (v := .int _ _) rfl | exact r_move rfl) rfl rfl rfl ?_
            -- R8.1 7 := law.go:342 assign
            refine WL.v (by first | exact r_assign (v := .int _ _) rfl | exact r_assign rfl) rfl rfl rfl ?_
            refine WL.fin hK1720 (fun _ _ h => h) ?_
            refine WC.seq fun K1721 hK1721 => ?_
            -- region 9
            refine WC.region ?_
            -- R9.0 21 := law.go:343 fieldAddr
            refine WL.v (by exact r_field ty_fld36_2 rfl) rfl rfl rfl ?_
            -- R9.1 22 := law.go:343 load
            refine WL.v (by exact r_load1 (v := .pointer (some ⟨bA, 0, none⟩)) ty_one29 rfl (by rw [← f6]; exact st.c1 (by decide))) rfl rfl rfl ?_
            -- R9.2 23 := law.go:343 move
            refine WL.v (by first | exact r_move (v := .int _ _) rfl | exact r_move rfl) rfl rfl rfl ?_
            -- R9.3 24 := law.go:343 move
            refine WL.v (by first | exact r_move (v := .int _ _) rfl | exact r_move rfl) rfl rfl rfl ?_
            -- R9.4 25 := law.go:343 nilCheck
            refine WL.v (by exact r_nilCheck rfl) rfl rfl rfl ?_
            -- R9.5 26 := law.go:343 fieldAddr
            refine WL.v (by exact r_field ty_fld50_4 rfl) rfl rfl rfl ?_
            -- R9.6 27 := law.go:343 indexAddr
            refine WL.v (by exact r_indexA (j := t) ty_ar45 rfl rfl rfl ht') rfl rfl rfl ?_
            -- R9.7 28 := law.go:343 indexAddr
            refine WL.v (by exact r_indexA (j := r) ty_ar44 rfl rfl rfl hr') rfl rfl rfl ?_
            -- R9.8 29 := law.go:343 load
            refine WL.v (by exact r_load1 (v := .int .i64 (s'.held t r : Nat)) ty_one3 rfl (c_sH hck2.A ht' hr' (by omega) st)) rfl rfl rfl ?_
            -- R9.9 8 := law.go:343 assign
            refine WL.v (by first | exact r_assign (v := .int _ _) rfl | exact r_assign rfl) rfl rfl rfl ?_
            refine WL.fin hK1721 (fun _ _ h => h) ?_
            refine WC.seq fun K1722 hK1722 => ?_
            refine WC.seq fun K1723 hK1723 => ?_
            -- region 10
            refine WC.region ?_
            -- R10.0 30 := law.go:344 move
            refine WL.v (by first | exact r_move (v := .int _ _) rfl | exact r_move rfl) rfl rfl rfl ?_
            -- R10.1 31 := law.go:344 binOp
            refine WL.v (by first | exact r_lss rfl rfl (decide_eq_true (by omega)) | exact r_lss rfl rfl (decide_eq_false (by omega)) | exact r_lss rfl rfl rfl) rfl rfl rfl ?_
            -- R10.2 32 := law.go:344 move
            refine WL.v (by first | exact r_move (v := .bool _) rfl | exact r_move rfl) rfl rfl rfl ?_
            -- R10.3 33 := law.go:344 move
            refine WL.v (by first | exact r_move (v := .int _ _) rfl | exact r_move rfl) rfl rfl rfl ?_
            -- R10.4 34 := law.go:344 binOp
            refine WL.v (by first | exact r_gtr rfl rfl (decide_eq_true (by omega)) | exact r_gtr rfl rfl (decide_eq_false (by omega)) | exact r_gtr rfl rfl rfl) rfl rfl rfl ?_
            -- R10.5 35 := law.go:344 move
            refine WL.v (by first | exact r_move (v := .bool _) rfl | exact r_move rfl) rfl rfl rfl ?_
            -- R10.6 36 := law.go:344 fieldAddr
            refine WL.no rfl rfl ?_
            -- R10.7 37 := law.go:344 load
            refine WL.no rfl rfl ?_
            -- R10.8 38 := law.go:344 move
            refine WL.no rfl rfl ?_
            -- R10.9 39 := law.go:344 nilCheck
            refine WL.no rfl rfl ?_
            -- R10.10 40 := law.go:344 fieldAddr
            refine WL.no rfl rfl ?_
            -- R10.11 41 := law.go:344 indexAddr
            refine WL.no rfl rfl ?_
            -- R10.12 42 := law.go:344 fieldAddr
            refine WL.no rfl rfl ?_
            -- R10.13 43 := law.go:344 load
            refine WL.no rfl rfl ?_
            -- R10.14 44 := law.go:344 unOp
            refine WL.no rfl rfl ?_
            -- R10.15 45 := law.go:344 pick
            refine WL.v (by first | exact r_pickT (v := .bool _) rfl rfl | exact r_pickF (v := .bool _) rfl rfl) rfl rfl rfl ?_
            -- R10.16 46 := law.go:344 pick
            refine WL.v (by first | exact r_pickT (v := .bool _) rfl rfl | exact r_pickF (v := .bool _) rfl rfl) rfl rfl rfl ?_
            -- R10.17 47 := law.go:344 move
            refine WL.v (by first | exact r_move (v := .bool _) rfl | exact r_move rfl) rfl rfl rfl ?_
            -- R10.18 48 := law.go:344 fieldAddr
            refine WL.v (by exact r_field ty_fld36_2 rfl) rfl rfl rfl ?_
            -- R10.19 49 := law.go:344 load
            refine WL.v (by exact r_load1 (v := .pointer (some ⟨bA, 0, none⟩)) ty_one29 rfl (by rw [← f6]; exact st.c1 (by decide))) rfl rfl rfl ?_
            -- R10.20 50 := law.go:344 move
            refine WL.v (by first | exact r_move (v := .int _ _) rfl | exact r_move rfl) rfl rfl rfl ?_
            -- R10.21 51 := law.go:344 move
            refine WL.v (by first | exact r_move (v := .int _ _) rfl | exact r_move rfl) rfl rfl rfl ?_
            -- R10.22 52 := law.go:344 nilCheck
            refine WL.v (by exact r_nilCheck rfl) rfl rfl rfl ?_
            -- R10.23 53 := law.go:344 fieldAddr
            refine WL.v (by exact r_field ty_fld50_5 rfl) rfl rfl rfl ?_
            -- R10.24 54 := law.go:344 indexAddr
            refine WL.v (by exact r_indexA (j := t) ty_ar45 rfl rfl rfl ht') rfl rfl rfl ?_
            -- R10.25 55 := law.go:344 indexAddr
            refine WL.v (by exact r_indexA (j := r) ty_ar44 rfl rfl rfl hr') rfl rfl rfl ?_
            -- R10.26 56 := law.go:344 load
            refine WL.v (by exact r_load1 (v := .int .i64 (s'.claim t r : Nat)) ty_one3 rfl (c_sC hck2.A ht' hr' (by omega) st)) rfl rfl rfl ?_
            -- R10.27 57 := law.go:344 binOp
            refine WL.v (by first | exact r_neq rfl rfl (decide_eq_true (by omega)) | exact r_neq rfl rfl (decide_eq_false (by omega)) | exact r_neq rfl rfl rfl) rfl rfl rfl ?_
            -- R10.28 58 := law.go:344 move
            refine WL.v (by first | exact r_move (v := .bool _) rfl | exact r_move rfl) rfl rfl rfl ?_
            -- R10.29 59 := law.go:344 fieldAddr
            refine WL.no rfl rfl ?_
            -- R10.30 60 := law.go:344 load
            refine WL.no rfl rfl ?_
            -- R10.31 61 := law.go:344 move
            refine WL.no rfl rfl ?_
            -- R10.32 62 := law.go:344 nilCheck
            refine WL.no rfl rfl ?_
            -- R10.33 63 := law.go:344 fieldAddr
            refine WL.no rfl rfl ?_
            -- R10.34 64 := law.go:344 indexAddr
            refine WL.no rfl rfl ?_
            -- R10.35 65 := law.go:344 fieldAddr
            refine WL.no rfl rfl ?_
            -- R10.36 66 := law.go:344 load
            refine WL.no rfl rfl ?_
            -- R10.37 67 := law.go:344 unOp
            refine WL.no rfl rfl ?_
            -- R10.38 68 := law.go:344 pick
            refine WL.v (by first | exact r_pickT (v := .bool _) rfl rfl | exact r_pickF (v := .bool _) rfl rfl) rfl rfl rfl ?_
            -- R10.39 69 := law.go:344 pick
            refine WL.v (by first | exact r_pickT (v := .bool _) rfl rfl | exact r_pickF (v := .bool _) rfl rfl) rfl rfl rfl ?_
            refine WL.fin hK1723 (fun _ _ h => h) ?_
            refine WC.condF rfl rfl ?_
            refine WC.skipF hK1722 (fun _ _ h => h) ?_
            refine WC.seq fun K1724 hK1724 => ?_
            refine WC.seq fun K1725 hK1725 => ?_
            -- region 12
            refine WC.region ?_
            -- R12.0 70 := law.go:347 move
            refine WL.v (by first | exact r_move (v := .int _ _) rfl | exact r_move rfl) rfl rfl rfl ?_
            -- R12.1 71 := law.go:347 binOp
            refine WL.v (by first | exact r_geq rfl rfl (decide_eq_true (by omega)) | exact r_geq rfl rfl (decide_eq_false (by omega)) | exact r_geq rfl rfl rfl) rfl rfl rfl ?_
            -- R12.2 72 := law.go:347 move
            refine WL.v (by first | exact r_move (v := .bool _) rfl | exact r_move rfl) rfl rfl rfl ?_
            -- R12.3 73 := law.go:347 move
            refine WL.no rfl rfl ?_
            -- R12.4 74 := law.go:347 binOp
            refine WL.no rfl rfl ?_
            -- R12.5 75 := law.go:347 pick
            refine WL.v (by first | exact r_pickT (v := .bool _) rfl rfl | exact r_pickF (v := .bool _) rfl rfl) rfl rfl rfl ?_
            -- R12.6 76 := law.go:347 move
            refine WL.v (by first | exact r_move (v := .bool _) rfl | exact r_move rfl) rfl rfl rfl ?_
            -- R12.7 77 := law.go:347 move
            refine WL.no rfl rfl ?_
            -- R12.8 78 := law.go:347 binOp
            refine WL.no rfl rfl ?_
            -- R12.9 79 := law.go:347 pick
            refine WL.v (by first | exact r_pickT (v := .bool _) rfl rfl | exact r_pickF (v := .bool _) rfl rfl) rfl rfl rfl ?_
            -- R12.10 80 := law.go:347 move
            refine WL.v (by first | exact r_move (v := .bool _) rfl | exact r_move rfl) rfl rfl rfl ?_
            -- R12.11 81 := law.go:347 move
            refine WL.no rfl rfl ?_
            -- R12.12 82 := law.go:347 binOp
            refine WL.no rfl rfl ?_
            -- R12.13 83 := law.go:347 pick
            refine WL.v (by first | exact r_pickT (v := .bool _) rfl rfl | exact r_pickF (v := .bool _) rfl rfl) rfl rfl rfl ?_
            refine WL.fin hK1725 (fun _ _ h => h) ?_
            refine WC.condF rfl rfl ?_
            refine WC.skipF hK1724 (fun _ _ h => h) ?_
            refine WC.seq fun K1726 hK1726 => ?_
            refine WC.seq fun K1727 hK1727 => ?_
            -- region 14
            refine WC.region ?_
            -- R14.0 84 := law.go:350 move
            refine WL.v (by first | exact r_move (v := .int _ _) rfl | exact r_move rfl) rfl rfl rfl ?_
            -- R14.1 85 := law.go:350 binOp
            refine WL.v (by first | exact r_gtr rfl rfl (decide_eq_true (by omega)) | exact r_gtr rfl rfl (decide_eq_false (by omega)) | exact r_gtr rfl rfl rfl) rfl rfl rfl ?_
            refine WL.fin hK1727 (fun _ _ h => h) ?_
            refine WC.condF rfl rfl ?_
            refine WC.skipF hK1726 (fun _ _ h => h) ?_
            -- region 16
            refine WC.region ?_
            -- R16.0 88 := law.go:353 move
            refine WL.v (by first | exact r_move (v := .int _ _) rfl | exact r_move rfl) rfl rfl rfl ?_
            -- R16.1 89 := law.go:353 move
            refine WL.v (by first | exact r_move (v := .int _ _) rfl | exact r_move rfl) rfl rfl rfl ?_
            -- R16.2 90 := law.go:353 binOp
            refine WL.v (by exact r_add (r := ((sumP (fun t => s'.held t r) (t + 1) : Nat) : Int)) rfl rfl ((wi64 (by omega) (by omega)).trans (by omega))) rfl rfl rfl ?_
            -- R16.3 5 := law.go:353 assign
            refine WL.v (by first | exact r_assign (v := .int _ _) rfl | exact r_assign rfl) rfl rfl rfl ?_
            refine WL.fin hK1719 (fun _ _ h => h) ?_
            -- region 17
            refine WC.region ?_
            -- R17.0 91 := law.go:342 binOp
            refine WL.v (by first | exact r_add rfl rfl (wi64 (by omega) (by omega)) | exact r_add rfl rfl rfl) rfl rfl rfl ?_
            -- R17.1 18 := law.go:342 move
            refine WL.v (by first | exact r_move (v := .int _ _) rfl | exact r_move rfl) rfl rfl rfl ?_
            refine WL.next hK2 (fun _ _ h => h) (t + 1) ⟨ht', st⟩ (by omega) (by rw [ec]; repeat (first | exact sub_nil _ | refine sub_cons rfl rfl ?_))
        · have hlv2 : (s'.tk t).live = true := hI.cl t r hcl
          by_cases h8 : 8 ≤ r
          · skip
            refine WC.seq fun K1728 hK1728 => ?_
            -- region 7
            refine WC.region ?_
            -- R7.0 19 := law.go:342 binOp
            refine WL.v (by first | exact r_lss rfl rfl (decide_eq_true (by omega)) | exact r_lss rfl rfl (decide_eq_false (by omega)) | exact r_lss rfl rfl rfl) rfl rfl rfl ?_
            refine WL.fin hK1728 (fun _ _ h => h) ?_
            refine WC.seq fun K1729 hK1729 => ?_
            refine WC.condT rfl rfl ?_
            refine WC.skipF hK1729 (fun _ _ h => h) ?_
            refine WC.seq fun K1730 hK1730 => ?_
            refine WC.block ?_
            refine WC.seq fun K1731 hK1731 => ?_
            -- region 8
            refine WC.region ?_
            -- R8.0 20 := law.go:342 move
            refine WL.v (by first | exact r_move (v := .int _ _) rfl | exact r_move rfl) rfl rfl rfl ?_
            -- R8.1 7 := law.go:342 assign
            refine WL.v (by first | exact r_assign (v := .int _ _) rfl | exact r_assign rfl) rfl rfl rfl ?_
            refine WL.fin hK1731 (fun _ _ h => h) ?_
            refine WC.seq fun K1732 hK1732 => ?_
            -- region 9
            refine WC.region ?_
            -- R9.0 21 := law.go:343 fieldAddr
            refine WL.v (by exact r_field ty_fld36_2 rfl) rfl rfl rfl ?_
            -- R9.1 22 := law.go:343 load
            refine WL.v (by exact r_load1 (v := .pointer (some ⟨bA, 0, none⟩)) ty_one29 rfl (by rw [← f6]; exact st.c1 (by decide))) rfl rfl rfl ?_
            -- R9.2 23 := law.go:343 move
            refine WL.v (by first | exact r_move (v := .int _ _) rfl | exact r_move rfl) rfl rfl rfl ?_
            -- R9.3 24 := law.go:343 move
            refine WL.v (by first | exact r_move (v := .int _ _) rfl | exact r_move rfl) rfl rfl rfl ?_
            -- R9.4 25 := law.go:343 nilCheck
            refine WL.v (by exact r_nilCheck rfl) rfl rfl rfl ?_
            -- R9.5 26 := law.go:343 fieldAddr
            refine WL.v (by exact r_field ty_fld50_4 rfl) rfl rfl rfl ?_
            -- R9.6 27 := law.go:343 indexAddr
            refine WL.v (by exact r_indexA (j := t) ty_ar45 rfl rfl rfl ht') rfl rfl rfl ?_
            -- R9.7 28 := law.go:343 indexAddr
            refine WL.v (by exact r_indexA (j := r) ty_ar44 rfl rfl rfl hr') rfl rfl rfl ?_
            -- R9.8 29 := law.go:343 load
            refine WL.v (by exact r_load1 (v := .int .i64 (s'.held t r : Nat)) ty_one3 rfl (c_sH hck2.A ht' hr' (by omega) st)) rfl rfl rfl ?_
            -- R9.9 8 := law.go:343 assign
            refine WL.v (by first | exact r_assign (v := .int _ _) rfl | exact r_assign rfl) rfl rfl rfl ?_
            refine WL.fin hK1732 (fun _ _ h => h) ?_
            refine WC.seq fun K1733 hK1733 => ?_
            refine WC.seq fun K1734 hK1734 => ?_
            -- region 10
            refine WC.region ?_
            -- R10.0 30 := law.go:344 move
            refine WL.v (by first | exact r_move (v := .int _ _) rfl | exact r_move rfl) rfl rfl rfl ?_
            -- R10.1 31 := law.go:344 binOp
            refine WL.v (by first | exact r_lss rfl rfl (decide_eq_true (by omega)) | exact r_lss rfl rfl (decide_eq_false (by omega)) | exact r_lss rfl rfl rfl) rfl rfl rfl ?_
            -- R10.2 32 := law.go:344 move
            refine WL.v (by first | exact r_move (v := .bool _) rfl | exact r_move rfl) rfl rfl rfl ?_
            -- R10.3 33 := law.go:344 move
            refine WL.v (by first | exact r_move (v := .int _ _) rfl | exact r_move rfl) rfl rfl rfl ?_
            -- R10.4 34 := law.go:344 binOp
            refine WL.v (by first | exact r_gtr rfl rfl (decide_eq_true (by omega)) | exact r_gtr rfl rfl (decide_eq_false (by omega)) | exact r_gtr rfl rfl rfl) rfl rfl rfl ?_
            -- R10.5 35 := law.go:344 move
            refine WL.v (by first | exact r_move (v := .bool _) rfl | exact r_move rfl) rfl rfl rfl ?_
            -- R10.6 36 := law.go:344 fieldAddr
            refine WL.no rfl rfl ?_
            -- R10.7 37 := law.go:344 load
            refine WL.no rfl rfl ?_
            -- R10.8 38 := law.go:344 move
            refine WL.no rfl rfl ?_
            -- R10.9 39 := law.go:344 nilCheck
            refine WL.no rfl rfl ?_
            -- R10.10 40 := law.go:344 fieldAddr
            refine WL.no rfl rfl ?_
            -- R10.11 41 := law.go:344 indexAddr
            refine WL.no rfl rfl ?_
            -- R10.12 42 := law.go:344 fieldAddr
            refine WL.no rfl rfl ?_
            -- R10.13 43 := law.go:344 load
            refine WL.no rfl rfl ?_
            -- R10.14 44 := law.go:344 unOp
            refine WL.no rfl rfl ?_
            -- R10.15 45 := law.go:344 pick
            refine WL.v (by first | exact r_pickT (v := .bool _) rfl rfl | exact r_pickF (v := .bool _) rfl rfl) rfl rfl rfl ?_
            -- R10.16 46 := law.go:344 pick
            refine WL.v (by first | exact r_pickT (v := .bool _) rfl rfl | exact r_pickF (v := .bool _) rfl rfl) rfl rfl rfl ?_
            -- R10.17 47 := law.go:344 move
            refine WL.v (by first | exact r_move (v := .bool _) rfl | exact r_move rfl) rfl rfl rfl ?_
            -- R10.18 48 := law.go:344 fieldAddr
            refine WL.v (by exact r_field ty_fld36_2 rfl) rfl rfl rfl ?_
            -- R10.19 49 := law.go:344 load
            refine WL.v (by exact r_load1 (v := .pointer (some ⟨bA, 0, none⟩)) ty_one29 rfl (by rw [← f6]; exact st.c1 (by decide))) rfl rfl rfl ?_
            -- R10.20 50 := law.go:344 move
            refine WL.v (by first | exact r_move (v := .int _ _) rfl | exact r_move rfl) rfl rfl rfl ?_
            -- R10.21 51 := law.go:344 move
            refine WL.v (by first | exact r_move (v := .int _ _) rfl | exact r_move rfl) rfl rfl rfl ?_
            -- R10.22 52 := law.go:344 nilCheck
            refine WL.v (by exact r_nilCheck rfl) rfl rfl rfl ?_
            -- R10.23 53 := law.go:344 fieldAddr
            refine WL.v (by exact r_field ty_fld50_5 rfl) rfl rfl rfl ?_
            -- R10.24 54 := law.go:344 indexAddr
            refine WL.v (by exact r_indexA (j := t) ty_ar45 rfl rfl rfl ht') rfl rfl rfl ?_
            -- R10.25 55 := law.go:344 indexAddr
            refine WL.v (by exact r_indexA (j := r) ty_ar44 rfl rfl rfl hr') rfl rfl rfl ?_
            -- R10.26 56 := law.go:344 load
            refine WL.v (by exact r_load1 (v := .int .i64 (s'.claim t r : Nat)) ty_one3 rfl (c_sC hck2.A ht' hr' (by omega) st)) rfl rfl rfl ?_
            -- R10.27 57 := law.go:344 binOp
            refine WL.v (by first | exact r_neq rfl rfl (decide_eq_true (by omega)) | exact r_neq rfl rfl (decide_eq_false (by omega)) | exact r_neq rfl rfl rfl) rfl rfl rfl ?_
            -- R10.28 58 := law.go:344 move
            refine WL.v (by first | exact r_move (v := .bool _) rfl | exact r_move rfl) rfl rfl rfl ?_
            -- R10.29 59 := law.go:344 fieldAddr
            refine WL.v (by exact r_field ty_fld36_2 rfl) rfl rfl rfl ?_
            -- R10.30 60 := law.go:344 load
            refine WL.v (by exact r_load1 (v := .pointer (some ⟨bA, 0, none⟩)) ty_one29 rfl (by rw [← f6]; exact st.c1 (by decide))) rfl rfl rfl ?_
            -- R10.31 61 := law.go:344 move
            refine WL.v (by first | exact r_move (v := .int _ _) rfl | exact r_move rfl) rfl rfl rfl ?_
            -- R10.32 62 := law.go:344 nilCheck
            refine WL.v (by exact r_nilCheck rfl) rfl rfl rfl ?_
            -- R10.33 63 := law.go:344 fieldAddr
            refine WL.v (by exact r_field ty_fld50_3 rfl) rfl rfl rfl ?_
            -- R10.34 64 := law.go:344 indexAddr
            refine WL.v (by exact r_indexA (j := t) ty_ar43 rfl rfl rfl ht') rfl rfl rfl ?_
            -- R10.35 65 := law.go:344 fieldAddr
            refine WL.v (by exact r_field ty_fld42_0 rfl) rfl rfl rfl ?_
            -- R10.36 66 := law.go:344 load
            refine WL.v (by exact r_load1 (v := .bool true) ty_one4 rfl (by rw [← hlv2]; exact c_sT hck2.A ht' (j := 0) (by decide) (by omega) st)) rfl rfl rfl ?_
            -- R10.37 67 := law.go:344 unOp
            refine WL.v (by first | exact r_notT rfl | exact r_notF rfl | exact r_not rfl) rfl rfl rfl ?_
            -- R10.38 68 := law.go:344 pick
            refine WL.v (by first | exact r_pickT (v := .bool _) rfl rfl | exact r_pickF (v := .bool _) rfl rfl) rfl rfl rfl ?_
            -- R10.39 69 := law.go:344 pick
            refine WL.v (by first | exact r_pickT (v := .bool _) rfl rfl | exact r_pickF (v := .bool _) rfl rfl) rfl rfl rfl ?_
            refine WL.fin hK1734 (fun _ _ h => h) ?_
            refine WC.condF rfl rfl ?_
            refine WC.skipF hK1733 (fun _ _ h => h) ?_
            refine WC.seq fun K1735 hK1735 => ?_
            refine WC.seq fun K1736 hK1736 => ?_
            -- region 12
            refine WC.region ?_
            -- R12.0 70 := law.go:347 move
            refine WL.v (by first | exact r_move (v := .int _ _) rfl | exact r_move rfl) rfl rfl rfl ?_
            -- R12.1 71 := law.go:347 binOp
            refine WL.v (by first | exact r_geq rfl rfl (decide_eq_true (by omega)) | exact r_geq rfl rfl (decide_eq_false (by omega)) | exact r_geq rfl rfl rfl) rfl rfl rfl ?_
            -- R12.2 72 := law.go:347 move
            refine WL.v (by first | exact r_move (v := .bool _) rfl | exact r_move rfl) rfl rfl rfl ?_
            -- R12.3 73 := law.go:347 move
            refine WL.v (by first | exact r_move (v := .int _ _) rfl | exact r_move rfl) rfl rfl rfl ?_
            -- R12.4 74 := law.go:347 binOp
            refine WL.v (by first | exact r_neq rfl rfl (decide_eq_true (by omega)) | exact r_neq rfl rfl (decide_eq_false (by omega)) | exact r_neq rfl rfl rfl) rfl rfl rfl ?_
            -- R12.5 75 := law.go:347 pick
            refine WL.v (by first | exact r_pickT (v := .bool _) rfl rfl | exact r_pickF (v := .bool _) rfl rfl) rfl rfl rfl ?_
            -- R12.6 76 := law.go:347 move
            refine WL.v (by first | exact r_move (v := .bool _) rfl | exact r_move rfl) rfl rfl rfl ?_
            -- R12.7 77 := law.go:347 move
            refine WL.no rfl rfl ?_
            -- R12.8 78 := law.go:347 binOp
            refine WL.no rfl rfl ?_
            -- R12.9 79 := law.go:347 pick
            refine WL.v (by first | exact r_pickT (v := .bool _) rfl rfl | exact r_pickF (v := .bool _) rfl rfl) rfl rfl rfl ?_
            -- R12.10 80 := law.go:347 move
            refine WL.v (by first | exact r_move (v := .bool _) rfl | exact r_move rfl) rfl rfl rfl ?_
            -- R12.11 81 := law.go:347 move
            refine WL.no rfl rfl ?_
            -- R12.12 82 := law.go:347 binOp
            refine WL.no rfl rfl ?_
            -- R12.13 83 := law.go:347 pick
            refine WL.v (by first | exact r_pickT (v := .bool _) rfl rfl | exact r_pickF (v := .bool _) rfl rfl) rfl rfl rfl ?_
            refine WL.fin hK1736 (fun _ _ h => h) ?_
            refine WC.condF rfl rfl ?_
            refine WC.skipF hK1735 (fun _ _ h => h) ?_
            refine WC.seq fun K1737 hK1737 => ?_
            refine WC.seq fun K1738 hK1738 => ?_
            -- region 14
            refine WC.region ?_
            -- R14.0 84 := law.go:350 move
            refine WL.v (by first | exact r_move (v := .int _ _) rfl | exact r_move rfl) rfl rfl rfl ?_
            -- R14.1 85 := law.go:350 binOp
            refine WL.v (by first | exact r_gtr rfl rfl (decide_eq_true (by omega)) | exact r_gtr rfl rfl (decide_eq_false (by omega)) | exact r_gtr rfl rfl rfl) rfl rfl rfl ?_
            refine WL.fin hK1738 (fun _ _ h => h) ?_
            refine WC.condF rfl rfl ?_
            refine WC.skipF hK1737 (fun _ _ h => h) ?_
            -- region 16
            refine WC.region ?_
            -- R16.0 88 := law.go:353 move
            refine WL.v (by first | exact r_move (v := .int _ _) rfl | exact r_move rfl) rfl rfl rfl ?_
            -- R16.1 89 := law.go:353 move
            refine WL.v (by first | exact r_move (v := .int _ _) rfl | exact r_move rfl) rfl rfl rfl ?_
            -- R16.2 90 := law.go:353 binOp
            refine WL.v (by exact r_add (r := ((sumP (fun t => s'.held t r) (t + 1) : Nat) : Int)) rfl rfl ((wi64 (by omega) (by omega)).trans (by omega))) rfl rfl rfl ?_
            -- R16.3 5 := law.go:353 assign
            refine WL.v (by first | exact r_assign (v := .int _ _) rfl | exact r_assign rfl) rfl rfl rfl ?_
            refine WL.fin hK1730 (fun _ _ h => h) ?_
            -- region 17
            refine WC.region ?_
            -- R17.0 91 := law.go:342 binOp
            refine WL.v (by first | exact r_add rfl rfl (wi64 (by omega) (by omega)) | exact r_add rfl rfl rfl) rfl rfl rfl ?_
            -- R17.1 18 := law.go:342 move
            refine WL.v (by first | exact r_move (v := .int _ _) rfl | exact r_move rfl) rfl rfl rfl ?_
            refine WL.next hK2 (fun _ _ h => h) (t + 1) ⟨ht', st⟩ (by omega) (by rw [ec]; repeat (first | exact sub_nil _ | refine sub_cons rfl rfl ?_))
          · skip
            refine WC.seq fun K1739 hK1739 => ?_
            -- region 7
            refine WC.region ?_
            -- R7.0 19 := law.go:342 binOp
            refine WL.v (by first | exact r_lss rfl rfl (decide_eq_true (by omega)) | exact r_lss rfl rfl (decide_eq_false (by omega)) | exact r_lss rfl rfl rfl) rfl rfl rfl ?_
            refine WL.fin hK1739 (fun _ _ h => h) ?_
            refine WC.seq fun K1740 hK1740 => ?_
            refine WC.condT rfl rfl ?_
            refine WC.skipF hK1740 (fun _ _ h => h) ?_
            refine WC.seq fun K1741 hK1741 => ?_
            refine WC.block ?_
            refine WC.seq fun K1742 hK1742 => ?_
            -- region 8
            refine WC.region ?_
            -- R8.0 20 := law.go:342 move
            refine WL.v (by first | exact r_move (v := .int _ _) rfl | exact r_move rfl) rfl rfl rfl ?_
            -- R8.1 7 := law.go:342 assign
            refine WL.v (by first | exact r_assign (v := .int _ _) rfl | exact r_assign rfl) rfl rfl rfl ?_
            refine WL.fin hK1742 (fun _ _ h => h) ?_
            refine WC.seq fun K1743 hK1743 => ?_
            -- region 9
            refine WC.region ?_
            -- R9.0 21 := law.go:343 fieldAddr
            refine WL.v (by exact r_field ty_fld36_2 rfl) rfl rfl rfl ?_
            -- R9.1 22 := law.go:343 load
            refine WL.v (by exact r_load1 (v := .pointer (some ⟨bA, 0, none⟩)) ty_one29 rfl (by rw [← f6]; exact st.c1 (by decide))) rfl rfl rfl ?_
            -- R9.2 23 := law.go:343 move
            refine WL.v (by first | exact r_move (v := .int _ _) rfl | exact r_move rfl) rfl rfl rfl ?_
            -- R9.3 24 := law.go:343 move
            refine WL.v (by first | exact r_move (v := .int _ _) rfl | exact r_move rfl) rfl rfl rfl ?_
            -- R9.4 25 := law.go:343 nilCheck
            refine WL.v (by exact r_nilCheck rfl) rfl rfl rfl ?_
            -- R9.5 26 := law.go:343 fieldAddr
            refine WL.v (by exact r_field ty_fld50_4 rfl) rfl rfl rfl ?_
            -- R9.6 27 := law.go:343 indexAddr
            refine WL.v (by exact r_indexA (j := t) ty_ar45 rfl rfl rfl ht') rfl rfl rfl ?_
            -- R9.7 28 := law.go:343 indexAddr
            refine WL.v (by exact r_indexA (j := r) ty_ar44 rfl rfl rfl hr') rfl rfl rfl ?_
            -- R9.8 29 := law.go:343 load
            refine WL.v (by exact r_load1 (v := .int .i64 (s'.held t r : Nat)) ty_one3 rfl (c_sH hck2.A ht' hr' (by omega) st)) rfl rfl rfl ?_
            -- R9.9 8 := law.go:343 assign
            refine WL.v (by first | exact r_assign (v := .int _ _) rfl | exact r_assign rfl) rfl rfl rfl ?_
            refine WL.fin hK1743 (fun _ _ h => h) ?_
            refine WC.seq fun K1744 hK1744 => ?_
            refine WC.seq fun K1745 hK1745 => ?_
            -- region 10
            refine WC.region ?_
            -- R10.0 30 := law.go:344 move
            refine WL.v (by first | exact r_move (v := .int _ _) rfl | exact r_move rfl) rfl rfl rfl ?_
            -- R10.1 31 := law.go:344 binOp
            refine WL.v (by first | exact r_lss rfl rfl (decide_eq_true (by omega)) | exact r_lss rfl rfl (decide_eq_false (by omega)) | exact r_lss rfl rfl rfl) rfl rfl rfl ?_
            -- R10.2 32 := law.go:344 move
            refine WL.v (by first | exact r_move (v := .bool _) rfl | exact r_move rfl) rfl rfl rfl ?_
            -- R10.3 33 := law.go:344 move
            refine WL.v (by first | exact r_move (v := .int _ _) rfl | exact r_move rfl) rfl rfl rfl ?_
            -- R10.4 34 := law.go:344 binOp
            refine WL.v (by first | exact r_gtr rfl rfl (decide_eq_true (by omega)) | exact r_gtr rfl rfl (decide_eq_false (by omega)) | exact r_gtr rfl rfl rfl) rfl rfl rfl ?_
            -- R10.5 35 := law.go:344 move
            refine WL.v (by first | exact r_move (v := .bool _) rfl | exact r_move rfl) rfl rfl rfl ?_
            -- R10.6 36 := law.go:344 fieldAddr
            refine WL.no rfl rfl ?_
            -- R10.7 37 := law.go:344 load
            refine WL.no rfl rfl ?_
            -- R10.8 38 := law.go:344 move
            refine WL.no rfl rfl ?_
            -- R10.9 39 := law.go:344 nilCheck
            refine WL.no rfl rfl ?_
            -- R10.10 40 := law.go:344 fieldAddr
            refine WL.no rfl rfl ?_
            -- R10.11 41 := law.go:344 indexAddr
            refine WL.no rfl rfl ?_
            -- R10.12 42 := law.go:344 fieldAddr
            refine WL.no rfl rfl ?_
            -- R10.13 43 := law.go:344 load
            refine WL.no rfl rfl ?_
            -- R10.14 44 := law.go:344 unOp
            refine WL.no rfl rfl ?_
            -- R10.15 45 := law.go:344 pick
            refine WL.v (by first | exact r_pickT (v := .bool _) rfl rfl | exact r_pickF (v := .bool _) rfl rfl) rfl rfl rfl ?_
            -- R10.16 46 := law.go:344 pick
            refine WL.v (by first | exact r_pickT (v := .bool _) rfl rfl | exact r_pickF (v := .bool _) rfl rfl) rfl rfl rfl ?_
            -- R10.17 47 := law.go:344 move
            refine WL.v (by first | exact r_move (v := .bool _) rfl | exact r_move rfl) rfl rfl rfl ?_
            -- R10.18 48 := law.go:344 fieldAddr
            refine WL.v (by exact r_field ty_fld36_2 rfl) rfl rfl rfl ?_
            -- R10.19 49 := law.go:344 load
            refine WL.v (by exact r_load1 (v := .pointer (some ⟨bA, 0, none⟩)) ty_one29 rfl (by rw [← f6]; exact st.c1 (by decide))) rfl rfl rfl ?_
            -- R10.20 50 := law.go:344 move
            refine WL.v (by first | exact r_move (v := .int _ _) rfl | exact r_move rfl) rfl rfl rfl ?_
            -- R10.21 51 := law.go:344 move
            refine WL.v (by first | exact r_move (v := .int _ _) rfl | exact r_move rfl) rfl rfl rfl ?_
            -- R10.22 52 := law.go:344 nilCheck
            refine WL.v (by exact r_nilCheck rfl) rfl rfl rfl ?_
            -- R10.23 53 := law.go:344 fieldAddr
            refine WL.v (by exact r_field ty_fld50_5 rfl) rfl rfl rfl ?_
            -- R10.24 54 := law.go:344 indexAddr
            refine WL.v (by exact r_indexA (j := t) ty_ar45 rfl rfl rfl ht') rfl rfl rfl ?_
            -- R10.25 55 := law.go:344 indexAddr
            refine WL.v (by exact r_indexA (j := r) ty_ar44 rfl rfl rfl hr') rfl rfl rfl ?_
            -- R10.26 56 := law.go:344 load
            refine WL.v (by exact r_load1 (v := .int .i64 (s'.claim t r : Nat)) ty_one3 rfl (c_sC hck2.A ht' hr' (by omega) st)) rfl rfl rfl ?_
            -- R10.27 57 := law.go:344 binOp
            refine WL.v (by first | exact r_neq rfl rfl (decide_eq_true (by omega)) | exact r_neq rfl rfl (decide_eq_false (by omega)) | exact r_neq rfl rfl rfl) rfl rfl rfl ?_
            -- R10.28 58 := law.go:344 move
            refine WL.v (by first | exact r_move (v := .bool _) rfl | exact r_move rfl) rfl rfl rfl ?_
            -- R10.29 59 := law.go:344 fieldAddr
            refine WL.v (by exact r_field ty_fld36_2 rfl) rfl rfl rfl ?_
            -- R10.30 60 := law.go:344 load
            refine WL.v (by exact r_load1 (v := .pointer (some ⟨bA, 0, none⟩)) ty_one29 rfl (by rw [← f6]; exact st.c1 (by decide))) rfl rfl rfl ?_
            -- R10.31 61 := law.go:344 move
            refine WL.v (by first | exact r_move (v := .int _ _) rfl | exact r_move rfl) rfl rfl rfl ?_
            -- R10.32 62 := law.go:344 nilCheck
            refine WL.v (by exact r_nilCheck rfl) rfl rfl rfl ?_
            -- R10.33 63 := law.go:344 fieldAddr
            refine WL.v (by exact r_field ty_fld50_3 rfl) rfl rfl rfl ?_
            -- R10.34 64 := law.go:344 indexAddr
            refine WL.v (by exact r_indexA (j := t) ty_ar43 rfl rfl rfl ht') rfl rfl rfl ?_
            -- R10.35 65 := law.go:344 fieldAddr
            refine WL.v (by exact r_field ty_fld42_0 rfl) rfl rfl rfl ?_
            -- R10.36 66 := law.go:344 load
            refine WL.v (by exact r_load1 (v := .bool true) ty_one4 rfl (by rw [← hlv2]; exact c_sT hck2.A ht' (j := 0) (by decide) (by omega) st)) rfl rfl rfl ?_
            -- R10.37 67 := law.go:344 unOp
            refine WL.v (by first | exact r_notT rfl | exact r_notF rfl | exact r_not rfl) rfl rfl rfl ?_
            -- R10.38 68 := law.go:344 pick
            refine WL.v (by first | exact r_pickT (v := .bool _) rfl rfl | exact r_pickF (v := .bool _) rfl rfl) rfl rfl rfl ?_
            -- R10.39 69 := law.go:344 pick
            refine WL.v (by first | exact r_pickT (v := .bool _) rfl rfl | exact r_pickF (v := .bool _) rfl rfl) rfl rfl rfl ?_
            refine WL.fin hK1745 (fun _ _ h => h) ?_
            refine WC.condF rfl rfl ?_
            refine WC.skipF hK1744 (fun _ _ h => h) ?_
            refine WC.seq fun K1746 hK1746 => ?_
            refine WC.seq fun K1747 hK1747 => ?_
            -- region 12
            refine WC.region ?_
            -- R12.0 70 := law.go:347 move
            refine WL.v (by first | exact r_move (v := .int _ _) rfl | exact r_move rfl) rfl rfl rfl ?_
            -- R12.1 71 := law.go:347 binOp
            refine WL.v (by first | exact r_geq rfl rfl (decide_eq_true (by omega)) | exact r_geq rfl rfl (decide_eq_false (by omega)) | exact r_geq rfl rfl rfl) rfl rfl rfl ?_
            -- R12.2 72 := law.go:347 move
            refine WL.v (by first | exact r_move (v := .bool _) rfl | exact r_move rfl) rfl rfl rfl ?_
            -- R12.3 73 := law.go:347 move
            refine WL.no rfl rfl ?_
            -- R12.4 74 := law.go:347 binOp
            refine WL.no rfl rfl ?_
            -- R12.5 75 := law.go:347 pick
            refine WL.v (by first | exact r_pickT (v := .bool _) rfl rfl | exact r_pickF (v := .bool _) rfl rfl) rfl rfl rfl ?_
            -- R12.6 76 := law.go:347 move
            refine WL.v (by first | exact r_move (v := .bool _) rfl | exact r_move rfl) rfl rfl rfl ?_
            -- R12.7 77 := law.go:347 move
            refine WL.no rfl rfl ?_
            -- R12.8 78 := law.go:347 binOp
            refine WL.no rfl rfl ?_
            -- R12.9 79 := law.go:347 pick
            refine WL.v (by first | exact r_pickT (v := .bool _) rfl rfl | exact r_pickF (v := .bool _) rfl rfl) rfl rfl rfl ?_
            -- R12.10 80 := law.go:347 move
            refine WL.v (by first | exact r_move (v := .bool _) rfl | exact r_move rfl) rfl rfl rfl ?_
            -- R12.11 81 := law.go:347 move
            refine WL.no rfl rfl ?_
            -- R12.12 82 := law.go:347 binOp
            refine WL.no rfl rfl ?_
            -- R12.13 83 := law.go:347 pick
            refine WL.v (by first | exact r_pickT (v := .bool _) rfl rfl | exact r_pickF (v := .bool _) rfl rfl) rfl rfl rfl ?_
            refine WL.fin hK1747 (fun _ _ h => h) ?_
            refine WC.condF rfl rfl ?_
            refine WC.skipF hK1746 (fun _ _ h => h) ?_
            refine WC.seq fun K1748 hK1748 => ?_
            refine WC.seq fun K1749 hK1749 => ?_
            -- region 14
            refine WC.region ?_
            -- R14.0 84 := law.go:350 move
            refine WL.v (by first | exact r_move (v := .int _ _) rfl | exact r_move rfl) rfl rfl rfl ?_
            -- R14.1 85 := law.go:350 binOp
            refine WL.v (by first | exact r_gtr rfl rfl (decide_eq_true (by omega)) | exact r_gtr rfl rfl (decide_eq_false (by omega)) | exact r_gtr rfl rfl rfl) rfl rfl rfl ?_
            refine WL.fin hK1749 (fun _ _ h => h) ?_
            refine WC.condF rfl rfl ?_
            refine WC.skipF hK1748 (fun _ _ h => h) ?_
            -- region 16
            refine WC.region ?_
            -- R16.0 88 := law.go:353 move
            refine WL.v (by first | exact r_move (v := .int _ _) rfl | exact r_move rfl) rfl rfl rfl ?_
            -- R16.1 89 := law.go:353 move
            refine WL.v (by first | exact r_move (v := .int _ _) rfl | exact r_move rfl) rfl rfl rfl ?_
            -- R16.2 90 := law.go:353 binOp
            refine WL.v (by exact r_add (r := ((sumP (fun t => s'.held t r) (t + 1) : Nat) : Int)) rfl rfl ((wi64 (by omega) (by omega)).trans (by omega))) rfl rfl rfl ?_
            -- R16.3 5 := law.go:353 assign
            refine WL.v (by first | exact r_assign (v := .int _ _) rfl | exact r_assign rfl) rfl rfl rfl ?_
            refine WL.fin hK1741 (fun _ _ h => h) ?_
            -- region 17
            refine WC.region ?_
            -- R17.0 91 := law.go:342 binOp
            refine WL.v (by first | exact r_add rfl rfl (wi64 (by omega) (by omega)) | exact r_add rfl rfl rfl) rfl rfl rfl ?_
            -- R17.1 18 := law.go:342 move
            refine WL.v (by first | exact r_move (v := .int _ _) rfl | exact r_move rfl) rfl rfl rfl ?_
            refine WL.next hK2 (fun _ _ h => h) (t + 1) ⟨ht', st⟩ (by omega) (by rw [ec]; repeat (first | exact sub_nil _ | refine sub_cons rfl rfl ?_))
    subst h16
    obtain ⟨X1, hX1, hXs⟩ := hck.q' r hr'
    obtain ⟨aq, cq, bq, hvq, hq1, hq2, hqa, hqcell⟩ := hX1.form
    obtain ⟨Q, hQ⟩ : ∃ Q, Q = s'.queue r := ⟨_, rfl⟩
    rw [← hQ] at hvq hq1 hqa hqcell
    have hQlen : cqP s'.queue (r + 1) 0 ≤ 100000 := by
      have h1 := cq_le (queue := s'.queue) (t := 0) (r + 1)
      have h2 := sum_le_n (f := fun r => (s'.queue r).length) hr'
      have h3 := hB.nn
      have h4 : sumP (fun r => (s'.queue r).length) 20 = qsum s'.queue := rfl
      omega
    have hcqb : ∀ k t, cqK s'.queue r k t ≤ 100000 ∧ 0 ≤ cqK s'.queue r k t := fun k t => by
      have h1 := cq_le (queue := s'.queue) (t := t) r
      have h2 := sum_le_n (f := fun r => (s'.queue r).length) hr'
      have h3 := hB.nn
      have h4 : sumP (fun r => (s'.queue r).length) 20 = qsum s'.queue := rfl
      have h5 : sumP (fun r => (s'.queue r).length) (r + 1) = sumP (fun r => (s'.queue r).length) r + (s'.queue r).length := rfl
      have h6 : ((s'.queue r).take k).countP (fun p => p.1 == t) ≤ (s'.queue r).length := Nat.le_trans List.countP_le_length (by rw [List.length_take]; omega)
      unfold cqK
      omega
    have st : S0 w0 ((b3, Row 76 16 (iF (cqK s'.queue r 0))) :: (b1, Row 36 10 fs) :: l) w := by rw [cqK_zero]; exact st
    by_cases h8 : 8 ≤ r
    · by_cases hgt : hcP s'.held r 16 < sumP (fun t => s'.held t r) 16
      · have hle := hc_one (k := 0) (fun t => hI.lk t r h8) (by omega) hgt
        refine WC.seq fun K1750 hK1750 => ?_
        -- region 7
        refine WC.region ?_
        -- R7.0 19 := law.go:342 binOp
        refine WL.v (by first | exact r_lss rfl rfl (decide_eq_true (by omega)) | exact r_lss rfl rfl (decide_eq_false (by omega)) | exact r_lss rfl rfl rfl) rfl rfl rfl ?_
        refine WL.fin hK1750 (fun _ _ h => h) ?_
        refine WC.seq fun K1751 hK1751 => ?_
        refine WC.condF rfl rfl ?_
        refine WC.exitF hK1638 (fun _ _ h => h) ?_
        refine WC.seq fun K1752 hK1752 => ?_
        refine WC.seq fun K1753 hK1753 => ?_
        -- region 18
        refine WC.region ?_
        -- R18.0 92 := law.go:355 move
        refine WL.v (by first | exact r_move (v := .int _ _) rfl | exact r_move rfl) rfl rfl rfl ?_
        -- R18.1 93 := law.go:355 move
        refine WL.v (by first | exact r_move (v := .int _ _) rfl | exact r_move rfl) rfl rfl rfl ?_
        -- R18.2 94 := law.go:355 call
        refine WL.call (r_call ty_call58 rfl) rfl rfl rfl (total_ok st) ?_
        rintro _ w ⟨rfl, st⟩
        -- R18.3 95 := law.go:355 binOp
        refine WL.v (by first | exact r_gtr rfl rfl (decide_eq_true (by omega)) | exact r_gtr rfl rfl (decide_eq_false (by omega)) | exact r_gtr rfl rfl rfl) rfl rfl rfl ?_
        -- R18.4 96 := law.go:355 move
        refine WL.v (by first | exact r_move (v := .bool _) rfl | exact r_move rfl) rfl rfl rfl ?_
        -- R18.5 97 := law.go:355 move
        refine WL.v (by first | exact r_move (v := .int _ _) rfl | exact r_move rfl) rfl rfl rfl ?_
        -- R18.6 98 := law.go:355 binOp
        refine WL.v (by first | exact r_geq rfl rfl (decide_eq_true (by omega)) | exact r_geq rfl rfl (decide_eq_false (by omega)) | exact r_geq rfl rfl rfl) rfl rfl rfl ?_
        -- R18.7 99 := law.go:355 move
        refine WL.v (by first | exact r_move (v := .bool _) rfl | exact r_move rfl) rfl rfl rfl ?_
        -- R18.8 100 := law.go:355 move
        refine WL.v (by first | exact r_move (v := .int _ _) rfl | exact r_move rfl) rfl rfl rfl ?_
        -- R18.9 101 := law.go:355 move
        refine WL.v (by first | exact r_move (v := .int _ _) rfl | exact r_move rfl) rfl rfl rfl ?_
        -- R18.10 102 := law.go:355 binOp
        refine WL.v (by first | exact r_gtr rfl rfl (decide_eq_true (by omega)) | exact r_gtr rfl rfl (decide_eq_false (by omega)) | exact r_gtr rfl rfl rfl) rfl rfl rfl ?_
        -- R18.11 103 := law.go:355 pick
        refine WL.v (by first | exact r_pickT (v := .bool _) rfl rfl | exact r_pickF (v := .bool _) rfl rfl) rfl rfl rfl ?_
        -- R18.12 104 := law.go:355 move
        refine WL.v (by first | exact r_move (v := .bool _) rfl | exact r_move rfl) rfl rfl rfl ?_
        -- R18.13 105 := law.go:355 move
        refine WL.v (by first | exact r_move (v := .int _ _) rfl | exact r_move rfl) rfl rfl rfl ?_
        -- R18.14 106 := law.go:355 binOp
        refine WL.v (by first | exact r_gtr rfl rfl (decide_eq_true (by omega)) | exact r_gtr rfl rfl (decide_eq_false (by omega)) | exact r_gtr rfl rfl rfl) rfl rfl rfl ?_
        -- R18.15 107 := law.go:355 pick
        refine WL.v (by first | exact r_pickT (v := .bool _) rfl rfl | exact r_pickF (v := .bool _) rfl rfl) rfl rfl rfl ?_
        -- R18.16 108 := law.go:355 pick
        refine WL.v (by first | exact r_pickT (v := .bool _) rfl rfl | exact r_pickF (v := .bool _) rfl rfl) rfl rfl rfl ?_
        refine WL.fin hK1753 (fun _ _ h => h) ?_
        refine WC.condF rfl rfl ?_
        refine WC.skipF hK1752 (fun _ _ h => h) ?_
        refine WC.seq fun K1754 hK1754 => ?_
        -- region 20
        refine WC.region ?_
        -- R20.0 109 := law.go:358 fieldAddr
        refine WL.v (by exact r_field ty_fld36_2 rfl) rfl rfl rfl ?_
        -- R20.1 110 := law.go:358 load
        refine WL.v (by exact r_load1 (v := .pointer (some ⟨bA, 0, none⟩)) ty_one29 rfl (by rw [← f6]; exact st.c1 (by decide))) rfl rfl rfl ?_
        -- R20.2 111 := law.go:358 move
        refine WL.v (by first | exact r_move (v := .int _ _) rfl | exact r_move rfl) rfl rfl rfl ?_
        -- R20.3 112 := law.go:358 nilCheck
        refine WL.v (by exact r_nilCheck rfl) rfl rfl rfl ?_
        -- R20.4 113 := law.go:358 fieldAddr
        refine WL.v (by exact r_field ty_fld50_6 rfl) rfl rfl rfl ?_
        -- R20.5 114 := law.go:358 indexAddr
        refine WL.v (by exact r_indexA (j := r) ty_ar47 rfl rfl rfl hr') rfl rfl rfl ?_
        -- R20.6 115 := law.go:358 load
        refine WL.v (by exact r_load1 (v := .slice aq Q.length cq) ty_one46 rfl (by rw [← hvq]; exact c_sQ (List.mem_cons_of_mem _ (List.mem_cons_of_mem _ hck.A)) hr' (by omega) st)) rfl rfl rfl ?_
        -- R20.7 116 := law.go:358 call
        refine WL.v (by exact r_len ty_usl46 rfl) rfl rfl rfl ?_
        -- R20.8 117 := law.go:358 move
        refine WL.v (by first | exact r_move (v := .int _ _) rfl | exact r_move rfl) rfl rfl rfl ?_
        refine WL.fin hK1754 (fun _ _ h => h) ?_
        refine WC.block ?_
        refine WC.loop (ι := Nat) (fun k => [(1, .pointer (some ⟨b1, 0, none⟩)), (3, .pointer (some ⟨b3, 0, none⟩)), (4, .int .i64 (r : Nat)), (115, .slice aq Q.length cq), (116, .int .i64 (Q.length : Nat)), (117, .int .i64 (k : Nat))])
          (fun k w' => k ≤ Q.length ∧ S0 w0 ((b3, Row 76 16 (iF (cqK s'.queue r k))) :: (b1, Row 36 10 fs) :: l) w') (fun k => Q.length - k) 0 ⟨Nat.zero_le _, st⟩ ?_ ?_
        · skip
          repeat (first | exact sub_nil _ | refine sub_cons rfl rfl ?_)
        clear st
        rintro k w ⟨hk, st⟩ K3 hK3
        by_cases hkl : k = Q.length
        · subst hkl
          rw [hQ, cqK_end] at st
          refine WC.seq fun K1755 hK1755 => ?_
          -- region 21
          refine WC.region ?_
          -- R21.0 118 := law.go:358 binOp
          refine WL.v (by first | exact r_lss rfl rfl (decide_eq_true (by omega)) | exact r_lss rfl rfl (decide_eq_false (by omega)) | exact r_lss rfl rfl rfl) rfl rfl rfl ?_
          refine WL.fin hK1755 (fun _ _ h => h) ?_
          refine WC.seq fun K1756 hK1756 => ?_
          refine WC.condF rfl rfl ?_
          refine WC.exitF hK1636 (fun _ _ h => h) ?_
          -- region 4
          refine WC.region ?_
          -- R4.0 16 := law.go:340 move
          refine WL.v (by first | exact r_move (v := .int _ _) rfl | exact r_move rfl) rfl rfl rfl ?_
          -- R4.1 17 := law.go:340 binOp
          refine WL.v (by first | exact r_add rfl rfl (wi64 (by omega) (by omega)) | exact r_add rfl rfl rfl) rfl rfl rfl ?_
          -- R4.2 4 := law.go:340 assign
          refine WL.v (by first | exact r_assign (v := .int _ _) rfl | exact r_assign rfl) rfl rfl rfl ?_
          refine WL.next hK1 (fun _ _ h => h) (r + 1) ⟨hr', st⟩ (by omega) (by repeat (first | exact sub_nil _ | refine sub_cons rfl rfl ?_))
        have hkl' : k < Q.length := by omega
        obtain ⟨e, he⟩ : ∃ e, Q[k]? = some e := ⟨Q[k], List.getElem?_eq_getElem hkl'⟩
        have he16 : e.1 < 16 := (hI.qt r e (by rw [← hQ]; exact List.mem_of_getElem? he)).2.1
        have hstep := cqK_step (queue := s'.queue) (r := r) (k := k) (e := e) (by rw [← hQ]; exact he)
        have hb := hcqb k e.1
        obtain ⟨F, hF⟩ : ∃ F, F = cqK s'.queue r k := ⟨_, rfl⟩
        rw [← hF] at st hstep hb
        have hae := hqa (by omega)
        have hce := fun j hj => hqcell st (fun x hx => List.mem_cons_of_mem _ (List.mem_cons_of_mem _ (hXs hx))) k e he j hj
        refine WC.seq fun K1757 hK1757 => ?_
        -- region 21
        refine WC.region ?_
        -- R21.0 118 := law.go:358 binOp
        refine WL.v (by first | exact r_lss rfl rfl (decide_eq_true (by omega)) | exact r_lss rfl rfl (decide_eq_false (by omega)) | exact r_lss rfl rfl rfl) rfl rfl rfl ?_
        refine WL.fin hK1757 (fun _ _ h => h) ?_
        refine WC.seq fun K1758 hK1758 => ?_
        refine WC.condT rfl rfl ?_
        refine WC.skipF hK1758 (fun _ _ h => h) ?_
        refine WC.seq fun K1759 hK1759 => ?_
        refine WC.block ?_
        refine WC.seq fun K1760 hK1760 => ?_
        -- region 22
        refine WC.region ?_
        -- R22.0 119 := law.go:358 indexAddr
        refine WL.v (by exact r_indexS (j := k) ty_sl46 (congrArg (fun q => Value.slice q Q.length cq) hae) rfl rfl (by omega)) rfl rfl rfl ?_
        -- R22.1 120 := law.go:358 load
        refine WL.v (by exact r_loadL (vs := [.int .i64 (e.1 : Nat), .int .i64 (e.2 : Nat)]) ty_agg61 rfl ⟨by rw [Nat.zero_add]; exact hce 0 (by decide), by rw [Nat.zero_add]; exact hce 1 (by decide), trivial⟩) rfl rfl rfl ?_
        -- R22.2 10 := law.go:358 alloc
        refine WL.alloc (m := 2) st ty_zero61 rfl rfl rfl ?_
        intro b10 w st
        -- R22.3 None := law.go:358 store
        first | refine WL.storeW (vs := [_, _]) st ty_agg61 rfl rfl rfl rfl rfl rfl ?_ | refine WL.storeL (vs := [_, _]) st ty_agg61 rfl rfl rfl rfl (by first | decide | omega) rfl rfl ?_ | refine WL.storeW (vs := [_, _]) st.front1 ty_agg61 rfl rfl rfl rfl rfl rfl ?_ | refine WL.storeL (vs := [_, _]) st.front1 ty_agg61 rfl rfl rfl rfl (by first | decide | omega) rfl rfl ?_ | refine WL.storeW (vs := [_, _]) st.front2 ty_agg61 rfl rfl rfl rfl rfl rfl ?_ | refine WL.storeL (vs := [_, _]) st.front2 ty_agg61 rfl rfl rfl rfl (by first | decide | omega) rfl rfl ?_ | refine WL.storeW (vs := [_, _]) st.front3 ty_agg61 rfl rfl rfl rfl rfl rfl ?_ | refine WL.storeL (vs := [_, _]) st.front3 ty_agg61 rfl rfl rfl rfl (by first | decide | omega) rfl rfl ?_ | refine WL.storeW (vs := [_, _]) st.front4 ty_agg61 rfl rfl rfl rfl rfl rfl ?_ | refine WL.storeL (vs := [_, _]) st.front4 ty_agg61 rfl rfl rfl rfl (by first | decide | omega) rfl rfl ?_ | refine WL.storeW (vs := [_, _]) st.front5 ty_agg61 rfl rfl rfl rfl rfl rfl ?_ | refine WL.storeL (vs := [_, _]) st.front5 ty_agg61 rfl rfl rfl rfl (by first | decide | omega) rfl rfl ?_ | refine WL.storeW (vs := [_, _]) st.front6 ty_agg61 rfl rfl rfl rfl rfl rfl ?_ | refine WL.storeL (vs := [_, _]) st.front6 ty_agg61 rfl rfl rfl rfl (by first | decide | omega) rfl rfl ?_ | refine WL.storeW (vs := [_, _]) st.front7 ty_agg61 rfl rfl rfl rfl rfl rfl ?_ | refine WL.storeL (vs := [_, _]) st.front7 ty_agg61 rfl rfl rfl rfl (by first | decide | omega) rfl rfl ?_ | refine WL.storeW (vs := [_, _]) st.front8 ty_agg61 rfl rfl rfl rfl rfl rfl ?_ | refine WL.storeL (vs := [_, _]) st.front8 ty_agg61 rfl rfl rfl rfl (by first | decide | omega) rfl rfl ?_
        intro w st
        refine WL.fin hK1760 (fun _ _ h => h) ?_
        -- region 23
        refine WC.region ?_
        -- R23.0 121 := law.go:359 fieldAddr
        refine WL.v (by exact r_field ty_fld61_0 rfl) rfl rfl rfl ?_
        -- R23.1 122 := law.go:359 load
        refine WL.v (by exact r_load1 ty_one31 rfl (by first | assumption | exact st.c0 (by first | decide | omega) | exact st.c1 (by first | decide | omega) | exact st.c2 (by first | decide | omega) | exact st.c3 (by first | decide | omega) | exact st.c4 (by first | decide | omega) | exact st.c5 (by first | decide | omega) | exact st.c6 (by first | decide | omega) | exact st.c7 (by first | decide | omega) | exact st.c8 (by first | decide | omega))) rfl rfl rfl ?_
        -- R23.2 123 := law.go:359 indexAddr
        refine WL.v (by exact r_indexA (j := e.1) ty_ar76 rfl rfl rfl he16) rfl rfl rfl ?_
        -- R23.3 124 := law.go:359 load
        refine WL.v (by exact r_load1 (v := .int .i64 (F e.1)) ty_one3 rfl (c_iF (F := F) (List.mem_cons_of_mem _ List.mem_cons_self) he16 st)) rfl rfl rfl ?_
        -- R23.4 125 := law.go:359 binOp
        refine WL.v (by exact r_add (r := F e.1 + 1) rfl rfl (wi64 (by omega) (by omega))) rfl rfl rfl ?_
        -- R23.5 126 := law.go:359 indexAddr
        refine WL.v (by exact r_indexA (j := e.1) ty_ar76 rfl rfl rfl he16) rfl rfl rfl ?_
        -- R23.6 None := law.go:359 store
        first | refine WL.store (v := .int _ _) st ty_one3 rfl rfl rfl (by first | decide | omega) rfl rfl ?_ | refine WL.store (v := _) st ty_one3 rfl rfl rfl (by first | decide | omega) rfl rfl ?_ | refine WL.store (v := .int _ _) st.front1 ty_one3 rfl rfl rfl (by first | decide | omega) rfl rfl ?_ | refine WL.store (v := _) st.front1 ty_one3 rfl rfl rfl (by first | decide | omega) rfl rfl ?_ | refine WL.store (v := .int _ _) st.front2 ty_one3 rfl rfl rfl (by first | decide | omega) rfl rfl ?_ | refine WL.store (v := _) st.front2 ty_one3 rfl rfl rfl (by first | decide | omega) rfl rfl ?_ | refine WL.store (v := .int _ _) st.front3 ty_one3 rfl rfl rfl (by first | decide | omega) rfl rfl ?_ | refine WL.store (v := _) st.front3 ty_one3 rfl rfl rfl (by first | decide | omega) rfl rfl ?_ | refine WL.store (v := .int _ _) st.front4 ty_one3 rfl rfl rfl (by first | decide | omega) rfl rfl ?_ | refine WL.store (v := _) st.front4 ty_one3 rfl rfl rfl (by first | decide | omega) rfl rfl ?_ | refine WL.store (v := .int _ _) st.front5 ty_one3 rfl rfl rfl (by first | decide | omega) rfl rfl ?_ | refine WL.store (v := _) st.front5 ty_one3 rfl rfl rfl (by first | decide | omega) rfl rfl ?_ | refine WL.store (v := .int _ _) st.front6 ty_one3 rfl rfl rfl (by first | decide | omega) rfl rfl ?_ | refine WL.store (v := _) st.front6 ty_one3 rfl rfl rfl (by first | decide | omega) rfl rfl ?_ | refine WL.store (v := .int _ _) st.front7 ty_one3 rfl rfl rfl (by first | decide | omega) rfl rfl ?_ | refine WL.store (v := _) st.front7 ty_one3 rfl rfl rfl (by first | decide | omega) rfl rfl ?_ | refine WL.store (v := .int _ _) st.front8 ty_one3 rfl rfl rfl (by first | decide | omega) rfl rfl ?_ | refine WL.store (v := _) st.front8 ty_one3 rfl rfl rfl (by first | decide | omega) rfl rfl ?_
        intro w st
        refine WL.fin hK1759 (fun _ _ h => h) ?_
        -- region 24
        refine WC.region ?_
        -- R24.0 127 := law.go:358 binOp
        refine WL.v (by first | exact r_add rfl rfl (wi64 (by omega) (by omega)) | exact r_add rfl rfl rfl) rfl rfl rfl ?_
        -- R24.1 117 := law.go:358 move
        refine WL.v (by first | exact r_move (v := .int _ _) rfl | exact r_move rfl) rfl rfl rfl ?_
        refine WL.next hK3 (fun _ _ h => h) (k + 1) ⟨hkl', by rw [hstep]; exact (stE (iF_set (n := 16)) st).drop1⟩ (by omega) (by repeat (first | exact sub_nil _ | refine sub_cons rfl rfl ?_))
      · skip
        refine WC.seq fun K1761 hK1761 => ?_
        -- region 7
        refine WC.region ?_
        -- R7.0 19 := law.go:342 binOp
        refine WL.v (by first | exact r_lss rfl rfl (decide_eq_true (by omega)) | exact r_lss rfl rfl (decide_eq_false (by omega)) | exact r_lss rfl rfl rfl) rfl rfl rfl ?_
        refine WL.fin hK1761 (fun _ _ h => h) ?_
        refine WC.seq fun K1762 hK1762 => ?_
        refine WC.condF rfl rfl ?_
        refine WC.exitF hK1638 (fun _ _ h => h) ?_
        refine WC.seq fun K1763 hK1763 => ?_
        refine WC.seq fun K1764 hK1764 => ?_
        -- region 18
        refine WC.region ?_
        -- R18.0 92 := law.go:355 move
        refine WL.v (by first | exact r_move (v := .int _ _) rfl | exact r_move rfl) rfl rfl rfl ?_
        -- R18.1 93 := law.go:355 move
        refine WL.v (by first | exact r_move (v := .int _ _) rfl | exact r_move rfl) rfl rfl rfl ?_
        -- R18.2 94 := law.go:355 call
        refine WL.call (r_call ty_call58 rfl) rfl rfl rfl (total_ok st) ?_
        rintro _ w ⟨rfl, st⟩
        -- R18.3 95 := law.go:355 binOp
        refine WL.v (by first | exact r_gtr rfl rfl (decide_eq_true (by omega)) | exact r_gtr rfl rfl (decide_eq_false (by omega)) | exact r_gtr rfl rfl rfl) rfl rfl rfl ?_
        -- R18.4 96 := law.go:355 move
        refine WL.v (by first | exact r_move (v := .bool _) rfl | exact r_move rfl) rfl rfl rfl ?_
        -- R18.5 97 := law.go:355 move
        refine WL.v (by first | exact r_move (v := .int _ _) rfl | exact r_move rfl) rfl rfl rfl ?_
        -- R18.6 98 := law.go:355 binOp
        refine WL.v (by first | exact r_geq rfl rfl (decide_eq_true (by omega)) | exact r_geq rfl rfl (decide_eq_false (by omega)) | exact r_geq rfl rfl rfl) rfl rfl rfl ?_
        -- R18.7 99 := law.go:355 move
        refine WL.v (by first | exact r_move (v := .bool _) rfl | exact r_move rfl) rfl rfl rfl ?_
        -- R18.8 100 := law.go:355 move
        refine WL.v (by first | exact r_move (v := .int _ _) rfl | exact r_move rfl) rfl rfl rfl ?_
        -- R18.9 101 := law.go:355 move
        refine WL.v (by first | exact r_move (v := .int _ _) rfl | exact r_move rfl) rfl rfl rfl ?_
        -- R18.10 102 := law.go:355 binOp
        refine WL.v (by first | exact r_gtr rfl rfl (decide_eq_true (by omega)) | exact r_gtr rfl rfl (decide_eq_false (by omega)) | exact r_gtr rfl rfl rfl) rfl rfl rfl ?_
        -- R18.11 103 := law.go:355 pick
        refine WL.v (by first | exact r_pickT (v := .bool _) rfl rfl | exact r_pickF (v := .bool _) rfl rfl) rfl rfl rfl ?_
        -- R18.12 104 := law.go:355 move
        refine WL.v (by first | exact r_move (v := .bool _) rfl | exact r_move rfl) rfl rfl rfl ?_
        -- R18.13 105 := law.go:355 move
        refine WL.no rfl rfl ?_
        -- R18.14 106 := law.go:355 binOp
        refine WL.no rfl rfl ?_
        -- R18.15 107 := law.go:355 pick
        refine WL.v (by first | exact r_pickT (v := .bool _) rfl rfl | exact r_pickF (v := .bool _) rfl rfl) rfl rfl rfl ?_
        -- R18.16 108 := law.go:355 pick
        refine WL.v (by first | exact r_pickT (v := .bool _) rfl rfl | exact r_pickF (v := .bool _) rfl rfl) rfl rfl rfl ?_
        refine WL.fin hK1764 (fun _ _ h => h) ?_
        refine WC.condF rfl rfl ?_
        refine WC.skipF hK1763 (fun _ _ h => h) ?_
        refine WC.seq fun K1765 hK1765 => ?_
        -- region 20
        refine WC.region ?_
        -- R20.0 109 := law.go:358 fieldAddr
        refine WL.v (by exact r_field ty_fld36_2 rfl) rfl rfl rfl ?_
        -- R20.1 110 := law.go:358 load
        refine WL.v (by exact r_load1 (v := .pointer (some ⟨bA, 0, none⟩)) ty_one29 rfl (by rw [← f6]; exact st.c1 (by decide))) rfl rfl rfl ?_
        -- R20.2 111 := law.go:358 move
        refine WL.v (by first | exact r_move (v := .int _ _) rfl | exact r_move rfl) rfl rfl rfl ?_
        -- R20.3 112 := law.go:358 nilCheck
        refine WL.v (by exact r_nilCheck rfl) rfl rfl rfl ?_
        -- R20.4 113 := law.go:358 fieldAddr
        refine WL.v (by exact r_field ty_fld50_6 rfl) rfl rfl rfl ?_
        -- R20.5 114 := law.go:358 indexAddr
        refine WL.v (by exact r_indexA (j := r) ty_ar47 rfl rfl rfl hr') rfl rfl rfl ?_
        -- R20.6 115 := law.go:358 load
        refine WL.v (by exact r_load1 (v := .slice aq Q.length cq) ty_one46 rfl (by rw [← hvq]; exact c_sQ (List.mem_cons_of_mem _ (List.mem_cons_of_mem _ hck.A)) hr' (by omega) st)) rfl rfl rfl ?_
        -- R20.7 116 := law.go:358 call
        refine WL.v (by exact r_len ty_usl46 rfl) rfl rfl rfl ?_
        -- R20.8 117 := law.go:358 move
        refine WL.v (by first | exact r_move (v := .int _ _) rfl | exact r_move rfl) rfl rfl rfl ?_
        refine WL.fin hK1765 (fun _ _ h => h) ?_
        refine WC.block ?_
        refine WC.loop (ι := Nat) (fun k => [(1, .pointer (some ⟨b1, 0, none⟩)), (3, .pointer (some ⟨b3, 0, none⟩)), (4, .int .i64 (r : Nat)), (115, .slice aq Q.length cq), (116, .int .i64 (Q.length : Nat)), (117, .int .i64 (k : Nat))])
          (fun k w' => k ≤ Q.length ∧ S0 w0 ((b3, Row 76 16 (iF (cqK s'.queue r k))) :: (b1, Row 36 10 fs) :: l) w') (fun k => Q.length - k) 0 ⟨Nat.zero_le _, st⟩ ?_ ?_
        · skip
          repeat (first | exact sub_nil _ | refine sub_cons rfl rfl ?_)
        clear st
        rintro k w ⟨hk, st⟩ K3 hK3
        by_cases hkl : k = Q.length
        · subst hkl
          rw [hQ, cqK_end] at st
          refine WC.seq fun K1766 hK1766 => ?_
          -- region 21
          refine WC.region ?_
          -- R21.0 118 := law.go:358 binOp
          refine WL.v (by first | exact r_lss rfl rfl (decide_eq_true (by omega)) | exact r_lss rfl rfl (decide_eq_false (by omega)) | exact r_lss rfl rfl rfl) rfl rfl rfl ?_
          refine WL.fin hK1766 (fun _ _ h => h) ?_
          refine WC.seq fun K1767 hK1767 => ?_
          refine WC.condF rfl rfl ?_
          refine WC.exitF hK1636 (fun _ _ h => h) ?_
          -- region 4
          refine WC.region ?_
          -- R4.0 16 := law.go:340 move
          refine WL.v (by first | exact r_move (v := .int _ _) rfl | exact r_move rfl) rfl rfl rfl ?_
          -- R4.1 17 := law.go:340 binOp
          refine WL.v (by first | exact r_add rfl rfl (wi64 (by omega) (by omega)) | exact r_add rfl rfl rfl) rfl rfl rfl ?_
          -- R4.2 4 := law.go:340 assign
          refine WL.v (by first | exact r_assign (v := .int _ _) rfl | exact r_assign rfl) rfl rfl rfl ?_
          refine WL.next hK1 (fun _ _ h => h) (r + 1) ⟨hr', st⟩ (by omega) (by repeat (first | exact sub_nil _ | refine sub_cons rfl rfl ?_))
        have hkl' : k < Q.length := by omega
        obtain ⟨e, he⟩ : ∃ e, Q[k]? = some e := ⟨Q[k], List.getElem?_eq_getElem hkl'⟩
        have he16 : e.1 < 16 := (hI.qt r e (by rw [← hQ]; exact List.mem_of_getElem? he)).2.1
        have hstep := cqK_step (queue := s'.queue) (r := r) (k := k) (e := e) (by rw [← hQ]; exact he)
        have hb := hcqb k e.1
        obtain ⟨F, hF⟩ : ∃ F, F = cqK s'.queue r k := ⟨_, rfl⟩
        rw [← hF] at st hstep hb
        have hae := hqa (by omega)
        have hce := fun j hj => hqcell st (fun x hx => List.mem_cons_of_mem _ (List.mem_cons_of_mem _ (hXs hx))) k e he j hj
        refine WC.seq fun K1768 hK1768 => ?_
        -- region 21
        refine WC.region ?_
        -- R21.0 118 := law.go:358 binOp
        refine WL.v (by first | exact r_lss rfl rfl (decide_eq_true (by omega)) | exact r_lss rfl rfl (decide_eq_false (by omega)) | exact r_lss rfl rfl rfl) rfl rfl rfl ?_
        refine WL.fin hK1768 (fun _ _ h => h) ?_
        refine WC.seq fun K1769 hK1769 => ?_
        refine WC.condT rfl rfl ?_
        refine WC.skipF hK1769 (fun _ _ h => h) ?_
        refine WC.seq fun K1770 hK1770 => ?_
        refine WC.block ?_
        refine WC.seq fun K1771 hK1771 => ?_
        -- region 22
        refine WC.region ?_
        -- R22.0 119 := law.go:358 indexAddr
        refine WL.v (by exact r_indexS (j := k) ty_sl46 (congrArg (fun q => Value.slice q Q.length cq) hae) rfl rfl (by omega)) rfl rfl rfl ?_
        -- R22.1 120 := law.go:358 load
        refine WL.v (by exact r_loadL (vs := [.int .i64 (e.1 : Nat), .int .i64 (e.2 : Nat)]) ty_agg61 rfl ⟨by rw [Nat.zero_add]; exact hce 0 (by decide), by rw [Nat.zero_add]; exact hce 1 (by decide), trivial⟩) rfl rfl rfl ?_
        -- R22.2 10 := law.go:358 alloc
        refine WL.alloc (m := 2) st ty_zero61 rfl rfl rfl ?_
        intro b10 w st
        -- R22.3 None := law.go:358 store
        first | refine WL.storeW (vs := [_, _]) st ty_agg61 rfl rfl rfl rfl rfl rfl ?_ | refine WL.storeL (vs := [_, _]) st ty_agg61 rfl rfl rfl rfl (by first | decide | omega) rfl rfl ?_ | refine WL.storeW (vs := [_, _]) st.front1 ty_agg61 rfl rfl rfl rfl rfl rfl ?_ | refine WL.storeL (vs := [_, _]) st.front1 ty_agg61 rfl rfl rfl rfl (by first | decide | omega) rfl rfl ?_ | refine WL.storeW (vs := [_, _]) st.front2 ty_agg61 rfl rfl rfl rfl rfl rfl ?_ | refine WL.storeL (vs := [_, _]) st.front2 ty_agg61 rfl rfl rfl rfl (by first | decide | omega) rfl rfl ?_ | refine WL.storeW (vs := [_, _]) st.front3 ty_agg61 rfl rfl rfl rfl rfl rfl ?_ | refine WL.storeL (vs := [_, _]) st.front3 ty_agg61 rfl rfl rfl rfl (by first | decide | omega) rfl rfl ?_ | refine WL.storeW (vs := [_, _]) st.front4 ty_agg61 rfl rfl rfl rfl rfl rfl ?_ | refine WL.storeL (vs := [_, _]) st.front4 ty_agg61 rfl rfl rfl rfl (by first | decide | omega) rfl rfl ?_ | refine WL.storeW (vs := [_, _]) st.front5 ty_agg61 rfl rfl rfl rfl rfl rfl ?_ | refine WL.storeL (vs := [_, _]) st.front5 ty_agg61 rfl rfl rfl rfl (by first | decide | omega) rfl rfl ?_ | refine WL.storeW (vs := [_, _]) st.front6 ty_agg61 rfl rfl rfl rfl rfl rfl ?_ | refine WL.storeL (vs := [_, _]) st.front6 ty_agg61 rfl rfl rfl rfl (by first | decide | omega) rfl rfl ?_ | refine WL.storeW (vs := [_, _]) st.front7 ty_agg61 rfl rfl rfl rfl rfl rfl ?_ | refine WL.storeL (vs := [_, _]) st.front7 ty_agg61 rfl rfl rfl rfl (by first | decide | omega) rfl rfl ?_ | refine WL.storeW (vs := [_, _]) st.front8 ty_agg61 rfl rfl rfl rfl rfl rfl ?_ | refine WL.storeL (vs := [_, _]) st.front8 ty_agg61 rfl rfl rfl rfl (by first | decide | omega) rfl rfl ?_
        intro w st
        refine WL.fin hK1771 (fun _ _ h => h) ?_
        -- region 23
        refine WC.region ?_
        -- R23.0 121 := law.go:359 fieldAddr
        refine WL.v (by exact r_field ty_fld61_0 rfl) rfl rfl rfl ?_
        -- R23.1 122 := law.go:359 load
        refine WL.v (by exact r_load1 ty_one31 rfl (by first | assumption | exact st.c0 (by first | decide | omega) | exact st.c1 (by first | decide | omega) | exact st.c2 (by first | decide | omega) | exact st.c3 (by first | decide | omega) | exact st.c4 (by first | decide | omega) | exact st.c5 (by first | decide | omega) | exact st.c6 (by first | decide | omega) | exact st.c7 (by first | decide | omega) | exact st.c8 (by first | decide | omega))) rfl rfl rfl ?_
        -- R23.2 123 := law.go:359 indexAddr
        refine WL.v (by exact r_indexA (j := e.1) ty_ar76 rfl rfl rfl he16) rfl rfl rfl ?_
        -- R23.3 124 := law.go:359 load
        refine WL.v (by exact r_load1 (v := .int .i64 (F e.1)) ty_one3 rfl (c_iF (F := F) (List.mem_cons_of_mem _ List.mem_cons_self) he16 st)) rfl rfl rfl ?_
        -- R23.4 125 := law.go:359 binOp
        refine WL.v (by exact r_add (r := F e.1 + 1) rfl rfl (wi64 (by omega) (by omega))) rfl rfl rfl ?_
        -- R23.5 126 := law.go:359 indexAddr
        refine WL.v (by exact r_indexA (j := e.1) ty_ar76 rfl rfl rfl he16) rfl rfl rfl ?_
        -- R23.6 None := law.go:359 store
        first | refine WL.store (v := .int _ _) st ty_one3 rfl rfl rfl (by first | decide | omega) rfl rfl ?_ | refine WL.store (v := _) st ty_one3 rfl rfl rfl (by first | decide | omega) rfl rfl ?_ | refine WL.store (v := .int _ _) st.front1 ty_one3 rfl rfl rfl (by first | decide | omega) rfl rfl ?_ | refine WL.store (v := _) st.front1 ty_one3 rfl rfl rfl (by first | decide | omega) rfl rfl ?_ | refine WL.store (v := .int _ _) st.front2 ty_one3 rfl rfl rfl (by first | decide | omega) rfl rfl ?_ | refine WL.store (v := _) st.front2 ty_one3 rfl rfl rfl (by first | decide | omega) rfl rfl ?_ | refine WL.store (v := .int _ _) st.front3 ty_one3 rfl rfl rfl (by first | decide | omega) rfl rfl ?_ | refine WL.store (v := _) st.front3 ty_one3 rfl rfl rfl (by first | decide | omega) rfl rfl ?_ | refine WL.store (v := .int _ _) st.front4 ty_one3 rfl rfl rfl (by first | decide | omega) rfl rfl ?_ | refine WL.store (v := _) st.front4 ty_one3 rfl rfl rfl (by first | decide | omega) rfl rfl ?_ | refine WL.store (v := .int _ _) st.front5 ty_one3 rfl rfl rfl (by first | decide | omega) rfl rfl ?_ | refine WL.store (v := _) st.front5 ty_one3 rfl rfl rfl (by first | decide | omega) rfl rfl ?_ | refine WL.store (v := .int _ _) st.front6 ty_one3 rfl rfl rfl (by first | decide | omega) rfl rfl ?_ | refine WL.store (v := _) st.front6 ty_one3 rfl rfl rfl (by first | decide | omega) rfl rfl ?_ | refine WL.store (v := .int _ _) st.front7 ty_one3 rfl rfl rfl (by first | decide | omega) rfl rfl ?_ | refine WL.store (v := _) st.front7 ty_one3 rfl rfl rfl (by first | decide | omega) rfl rfl ?_ | refine WL.store (v := .int _ _) st.front8 ty_one3 rfl rfl rfl (by first | decide | omega) rfl rfl ?_ | refine WL.store (v := _) st.front8 ty_one3 rfl rfl rfl (by first | decide | omega) rfl rfl ?_
        intro w st
        refine WL.fin hK1770 (fun _ _ h => h) ?_
        -- region 24
        refine WC.region ?_
        -- R24.0 127 := law.go:358 binOp
        refine WL.v (by first | exact r_add rfl rfl (wi64 (by omega) (by omega)) | exact r_add rfl rfl rfl) rfl rfl rfl ?_
        -- R24.1 117 := law.go:358 move
        refine WL.v (by first | exact r_move (v := .int _ _) rfl | exact r_move rfl) rfl rfl rfl ?_
        refine WL.next hK3 (fun _ _ h => h) (k + 1) ⟨hkl', by rw [hstep]; exact (stE (iF_set (n := 16)) st).drop1⟩ (by omega) (by repeat (first | exact sub_nil _ | refine sub_cons rfl rfl ?_))
    · skip
      refine WC.seq fun K1772 hK1772 => ?_
      -- region 7
      refine WC.region ?_
      -- R7.0 19 := law.go:342 binOp
      refine WL.v (by first | exact r_lss rfl rfl (decide_eq_true (by omega)) | exact r_lss rfl rfl (decide_eq_false (by omega)) | exact r_lss rfl rfl rfl) rfl rfl rfl ?_
      refine WL.fin hK1772 (fun _ _ h => h) ?_
      refine WC.seq fun K1773 hK1773 => ?_
      refine WC.condF rfl rfl ?_
      refine WC.exitF hK1638 (fun _ _ h => h) ?_
      refine WC.seq fun K1774 hK1774 => ?_
      refine WC.seq fun K1775 hK1775 => ?_
      -- region 18
      refine WC.region ?_
      -- R18.0 92 := law.go:355 move
      refine WL.v (by first | exact r_move (v := .int _ _) rfl | exact r_move rfl) rfl rfl rfl ?_
      -- R18.1 93 := law.go:355 move
      refine WL.v (by first | exact r_move (v := .int _ _) rfl | exact r_move rfl) rfl rfl rfl ?_
      -- R18.2 94 := law.go:355 call
      refine WL.call (r_call ty_call58 rfl) rfl rfl rfl (total_ok st) ?_
      rintro _ w ⟨rfl, st⟩
      -- R18.3 95 := law.go:355 binOp
      refine WL.v (by first | exact r_gtr rfl rfl (decide_eq_true (by omega)) | exact r_gtr rfl rfl (decide_eq_false (by omega)) | exact r_gtr rfl rfl rfl) rfl rfl rfl ?_
      -- R18.4 96 := law.go:355 move
      refine WL.v (by first | exact r_move (v := .bool _) rfl | exact r_move rfl) rfl rfl rfl ?_
      -- R18.5 97 := law.go:355 move
      refine WL.v (by first | exact r_move (v := .int _ _) rfl | exact r_move rfl) rfl rfl rfl ?_
      -- R18.6 98 := law.go:355 binOp
      refine WL.v (by first | exact r_geq rfl rfl (decide_eq_true (by omega)) | exact r_geq rfl rfl (decide_eq_false (by omega)) | exact r_geq rfl rfl rfl) rfl rfl rfl ?_
      -- R18.7 99 := law.go:355 move
      refine WL.v (by first | exact r_move (v := .bool _) rfl | exact r_move rfl) rfl rfl rfl ?_
      -- R18.8 100 := law.go:355 move
      refine WL.no rfl rfl ?_
      -- R18.9 101 := law.go:355 move
      refine WL.no rfl rfl ?_
      -- R18.10 102 := law.go:355 binOp
      refine WL.no rfl rfl ?_
      -- R18.11 103 := law.go:355 pick
      refine WL.v (by first | exact r_pickT (v := .bool _) rfl rfl | exact r_pickF (v := .bool _) rfl rfl) rfl rfl rfl ?_
      -- R18.12 104 := law.go:355 move
      refine WL.v (by first | exact r_move (v := .bool _) rfl | exact r_move rfl) rfl rfl rfl ?_
      -- R18.13 105 := law.go:355 move
      refine WL.no rfl rfl ?_
      -- R18.14 106 := law.go:355 binOp
      refine WL.no rfl rfl ?_
      -- R18.15 107 := law.go:355 pick
      refine WL.v (by first | exact r_pickT (v := .bool _) rfl rfl | exact r_pickF (v := .bool _) rfl rfl) rfl rfl rfl ?_
      -- R18.16 108 := law.go:355 pick
      refine WL.v (by first | exact r_pickT (v := .bool _) rfl rfl | exact r_pickF (v := .bool _) rfl rfl) rfl rfl rfl ?_
      refine WL.fin hK1775 (fun _ _ h => h) ?_
      refine WC.condF rfl rfl ?_
      refine WC.skipF hK1774 (fun _ _ h => h) ?_
      refine WC.seq fun K1776 hK1776 => ?_
      -- region 20
      refine WC.region ?_
      -- R20.0 109 := law.go:358 fieldAddr
      refine WL.v (by exact r_field ty_fld36_2 rfl) rfl rfl rfl ?_
      -- R20.1 110 := law.go:358 load
      refine WL.v (by exact r_load1 (v := .pointer (some ⟨bA, 0, none⟩)) ty_one29 rfl (by rw [← f6]; exact st.c1 (by decide))) rfl rfl rfl ?_
      -- R20.2 111 := law.go:358 move
      refine WL.v (by first | exact r_move (v := .int _ _) rfl | exact r_move rfl) rfl rfl rfl ?_
      -- R20.3 112 := law.go:358 nilCheck
      refine WL.v (by exact r_nilCheck rfl) rfl rfl rfl ?_
      -- R20.4 113 := law.go:358 fieldAddr
      refine WL.v (by exact r_field ty_fld50_6 rfl) rfl rfl rfl ?_
      -- R20.5 114 := law.go:358 indexAddr
      refine WL.v (by exact r_indexA (j := r) ty_ar47 rfl rfl rfl hr') rfl rfl rfl ?_
      -- R20.6 115 := law.go:358 load
      refine WL.v (by exact r_load1 (v := .slice aq Q.length cq) ty_one46 rfl (by rw [← hvq]; exact c_sQ (List.mem_cons_of_mem _ (List.mem_cons_of_mem _ hck.A)) hr' (by omega) st)) rfl rfl rfl ?_
      -- R20.7 116 := law.go:358 call
      refine WL.v (by exact r_len ty_usl46 rfl) rfl rfl rfl ?_
      -- R20.8 117 := law.go:358 move
      refine WL.v (by first | exact r_move (v := .int _ _) rfl | exact r_move rfl) rfl rfl rfl ?_
      refine WL.fin hK1776 (fun _ _ h => h) ?_
      refine WC.block ?_
      refine WC.loop (ι := Nat) (fun k => [(1, .pointer (some ⟨b1, 0, none⟩)), (3, .pointer (some ⟨b3, 0, none⟩)), (4, .int .i64 (r : Nat)), (115, .slice aq Q.length cq), (116, .int .i64 (Q.length : Nat)), (117, .int .i64 (k : Nat))])
        (fun k w' => k ≤ Q.length ∧ S0 w0 ((b3, Row 76 16 (iF (cqK s'.queue r k))) :: (b1, Row 36 10 fs) :: l) w') (fun k => Q.length - k) 0 ⟨Nat.zero_le _, st⟩ ?_ ?_
      · skip
        repeat (first | exact sub_nil _ | refine sub_cons rfl rfl ?_)
      clear st
      rintro k w ⟨hk, st⟩ K3 hK3
      by_cases hkl : k = Q.length
      · subst hkl
        rw [hQ, cqK_end] at st
        refine WC.seq fun K1777 hK1777 => ?_
        -- region 21
        refine WC.region ?_
        -- R21.0 118 := law.go:358 binOp
        refine WL.v (by first | exact r_lss rfl rfl (decide_eq_true (by omega)) | exact r_lss rfl rfl (decide_eq_false (by omega)) | exact r_lss rfl rfl rfl) rfl rfl rfl ?_
        refine WL.fin hK1777 (fun _ _ h => h) ?_
        refine WC.seq fun K1778 hK1778 => ?_
        refine WC.condF rfl rfl ?_
        refine WC.exitF hK1636 (fun _ _ h => h) ?_
        -- region 4
        refine WC.region ?_
        -- R4.0 16 := law.go:340 move
        refine WL.v (by first | exact r_move (v := .int _ _) rfl | exact r_move rfl) rfl rfl rfl ?_
        -- R4.1 17 := law.go:340 binOp
        refine WL.v (by first | exact r_add rfl rfl (wi64 (by omega) (by omega)) | exact r_add rfl rfl rfl) rfl rfl rfl ?_
        -- R4.2 4 := law.go:340 assign
        refine WL.v (by first | exact r_assign (v := .int _ _) rfl | exact r_assign rfl) rfl rfl rfl ?_
        refine WL.next hK1 (fun _ _ h => h) (r + 1) ⟨hr', st⟩ (by omega) (by repeat (first | exact sub_nil _ | refine sub_cons rfl rfl ?_))
      have hkl' : k < Q.length := by omega
      obtain ⟨e, he⟩ : ∃ e, Q[k]? = some e := ⟨Q[k], List.getElem?_eq_getElem hkl'⟩
      have he16 : e.1 < 16 := (hI.qt r e (by rw [← hQ]; exact List.mem_of_getElem? he)).2.1
      have hstep := cqK_step (queue := s'.queue) (r := r) (k := k) (e := e) (by rw [← hQ]; exact he)
      have hb := hcqb k e.1
      obtain ⟨F, hF⟩ : ∃ F, F = cqK s'.queue r k := ⟨_, rfl⟩
      rw [← hF] at st hstep hb
      have hae := hqa (by omega)
      have hce := fun j hj => hqcell st (fun x hx => List.mem_cons_of_mem _ (List.mem_cons_of_mem _ (hXs hx))) k e he j hj
      refine WC.seq fun K1779 hK1779 => ?_
      -- region 21
      refine WC.region ?_
      -- R21.0 118 := law.go:358 binOp
      refine WL.v (by first | exact r_lss rfl rfl (decide_eq_true (by omega)) | exact r_lss rfl rfl (decide_eq_false (by omega)) | exact r_lss rfl rfl rfl) rfl rfl rfl ?_
      refine WL.fin hK1779 (fun _ _ h => h) ?_
      refine WC.seq fun K1780 hK1780 => ?_
      refine WC.condT rfl rfl ?_
      refine WC.skipF hK1780 (fun _ _ h => h) ?_
      refine WC.seq fun K1781 hK1781 => ?_
      refine WC.block ?_
      refine WC.seq fun K1782 hK1782 => ?_
      -- region 22
      refine WC.region ?_
      -- R22.0 119 := law.go:358 indexAddr
      refine WL.v (by exact r_indexS (j := k) ty_sl46 (congrArg (fun q => Value.slice q Q.length cq) hae) rfl rfl (by omega)) rfl rfl rfl ?_
      -- R22.1 120 := law.go:358 load
      refine WL.v (by exact r_loadL (vs := [.int .i64 (e.1 : Nat), .int .i64 (e.2 : Nat)]) ty_agg61 rfl ⟨by rw [Nat.zero_add]; exact hce 0 (by decide), by rw [Nat.zero_add]; exact hce 1 (by decide), trivial⟩) rfl rfl rfl ?_
      -- R22.2 10 := law.go:358 alloc
      refine WL.alloc (m := 2) st ty_zero61 rfl rfl rfl ?_
      intro b10 w st
      -- R22.3 None := law.go:358 store
      first | refine WL.storeW (vs := [_, _]) st ty_agg61 rfl rfl rfl rfl rfl rfl ?_ | refine WL.storeL (vs := [_, _]) st ty_agg61 rfl rfl rfl rfl (by first | decide | omega) rfl rfl ?_ | refine WL.storeW (vs := [_, _]) st.front1 ty_agg61 rfl rfl rfl rfl rfl rfl ?_ | refine WL.storeL (vs := [_, _]) st.front1 ty_agg61 rfl rfl rfl rfl (by first | decide | omega) rfl rfl ?_ | refine WL.storeW (vs := [_, _]) st.front2 ty_agg61 rfl rfl rfl rfl rfl rfl ?_ | refine WL.storeL (vs := [_, _]) st.front2 ty_agg61 rfl rfl rfl rfl (by first | decide | omega) rfl rfl ?_ | refine WL.storeW (vs := [_, _]) st.front3 ty_agg61 rfl rfl rfl rfl rfl rfl ?_ | refine WL.storeL (vs := [_, _]) st.front3 ty_agg61 rfl rfl rfl rfl (by first | decide | omega) rfl rfl ?_ | refine WL.storeW (vs := [_, _]) st.front4 ty_agg61 rfl rfl rfl rfl rfl rfl ?_ | refine WL.storeL (vs := [_, _]) st.front4 ty_agg61 rfl rfl rfl rfl (by first | decide | omega) rfl rfl ?_ | refine WL.storeW (vs := [_, _]) st.front5 ty_agg61 rfl rfl rfl rfl rfl rfl ?_ | refine WL.storeL (vs := [_, _]) st.front5 ty_agg61 rfl rfl rfl rfl (by first | decide | omega) rfl rfl ?_ | refine WL.storeW (vs := [_, _]) st.front6 ty_agg61 rfl rfl rfl rfl rfl rfl ?_ | refine WL.storeL (vs := [_, _]) st.front6 ty_agg61 rfl rfl rfl rfl (by first | decide | omega) rfl rfl ?_ | refine WL.storeW (vs := [_, _]) st.front7 ty_agg61 rfl rfl rfl rfl rfl rfl ?_ | refine WL.storeL (vs := [_, _]) st.front7 ty_agg61 rfl rfl rfl rfl (by first | decide | omega) rfl rfl ?_ | refine WL.storeW (vs := [_, _]) st.front8 ty_agg61 rfl rfl rfl rfl rfl rfl ?_ | refine WL.storeL (vs := [_, _]) st.front8 ty_agg61 rfl rfl rfl rfl (by first | decide | omega) rfl rfl ?_
      intro w st
      refine WL.fin hK1782 (fun _ _ h => h) ?_
      -- region 23
      refine WC.region ?_
      -- R23.0 121 := law.go:359 fieldAddr
      refine WL.v (by exact r_field ty_fld61_0 rfl) rfl rfl rfl ?_
      -- R23.1 122 := law.go:359 load
      refine WL.v (by exact r_load1 ty_one31 rfl (by first | assumption | exact st.c0 (by first | decide | omega) | exact st.c1 (by first | decide | omega) | exact st.c2 (by first | decide | omega) | exact st.c3 (by first | decide | omega) | exact st.c4 (by first | decide | omega) | exact st.c5 (by first | decide | omega) | exact st.c6 (by first | decide | omega) | exact st.c7 (by first | decide | omega) | exact st.c8 (by first | decide | omega))) rfl rfl rfl ?_
      -- R23.2 123 := law.go:359 indexAddr
      refine WL.v (by exact r_indexA (j := e.1) ty_ar76 rfl rfl rfl he16) rfl rfl rfl ?_
      -- R23.3 124 := law.go:359 load
      refine WL.v (by exact r_load1 (v := .int .i64 (F e.1)) ty_one3 rfl (c_iF (F := F) (List.mem_cons_of_mem _ List.mem_cons_self) he16 st)) rfl rfl rfl ?_
      -- R23.4 125 := law.go:359 binOp
      refine WL.v (by exact r_add (r := F e.1 + 1) rfl rfl (wi64 (by omega) (by omega))) rfl rfl rfl ?_
      -- R23.5 126 := law.go:359 indexAddr
      refine WL.v (by exact r_indexA (j := e.1) ty_ar76 rfl rfl rfl he16) rfl rfl rfl ?_
      -- R23.6 None := law.go:359 store
      first | refine WL.store (v := .int _ _) st ty_one3 rfl rfl rfl (by first | decide | omega) rfl rfl ?_ | refine WL.store (v := _) st ty_one3 rfl rfl rfl (by first | decide | omega) rfl rfl ?_ | refine WL.store (v := .int _ _) st.front1 ty_one3 rfl rfl rfl (by first | decide | omega) rfl rfl ?_ | refine WL.store (v := _) st.front1 ty_one3 rfl rfl rfl (by first | decide | omega) rfl rfl ?_ | refine WL.store (v := .int _ _) st.front2 ty_one3 rfl rfl rfl (by first | decide | omega) rfl rfl ?_ | refine WL.store (v := _) st.front2 ty_one3 rfl rfl rfl (by first | decide | omega) rfl rfl ?_ | refine WL.store (v := .int _ _) st.front3 ty_one3 rfl rfl rfl (by first | decide | omega) rfl rfl ?_ | refine WL.store (v := _) st.front3 ty_one3 rfl rfl rfl (by first | decide | omega) rfl rfl ?_ | refine WL.store (v := .int _ _) st.front4 ty_one3 rfl rfl rfl (by first | decide | omega) rfl rfl ?_ | refine WL.store (v := _) st.front4 ty_one3 rfl rfl rfl (by first | decide | omega) rfl rfl ?_ | refine WL.store (v := .int _ _) st.front5 ty_one3 rfl rfl rfl (by first | decide | omega) rfl rfl ?_ | refine WL.store (v := _) st.front5 ty_one3 rfl rfl rfl (by first | decide | omega) rfl rfl ?_ | refine WL.store (v := .int _ _) st.front6 ty_one3 rfl rfl rfl (by first | decide | omega) rfl rfl ?_ | refine WL.store (v := _) st.front6 ty_one3 rfl rfl rfl (by first | decide | omega) rfl rfl ?_ | refine WL.store (v := .int _ _) st.front7 ty_one3 rfl rfl rfl (by first | decide | omega) rfl rfl ?_ | refine WL.store (v := _) st.front7 ty_one3 rfl rfl rfl (by first | decide | omega) rfl rfl ?_ | refine WL.store (v := .int _ _) st.front8 ty_one3 rfl rfl rfl (by first | decide | omega) rfl rfl ?_ | refine WL.store (v := _) st.front8 ty_one3 rfl rfl rfl (by first | decide | omega) rfl rfl ?_
      intro w st
      refine WL.fin hK1781 (fun _ _ h => h) ?_
      -- region 24
      refine WC.region ?_
      -- R24.0 127 := law.go:358 binOp
      refine WL.v (by first | exact r_add rfl rfl (wi64 (by omega) (by omega)) | exact r_add rfl rfl rfl) rfl rfl rfl ?_
      -- R24.1 117 := law.go:358 move
      refine WL.v (by first | exact r_move (v := .int _ _) rfl | exact r_move rfl) rfl rfl rfl ?_
      refine WL.next hK3 (fun _ _ h => h) (k + 1) ⟨hkl', by rw [hstep]; exact (stE (iF_set (n := 16)) st).drop1⟩ (by omega) (by repeat (first | exact sub_nil _ | refine sub_cons rfl rfl ?_))
  subst h20
  have hcnt : ∀ t, t < 16 → cqP s'.queue 20 t = if (s'.tk t).waiting then 1 else 0 := hI.q
  refine WC.seq fun K1783 hK1783 => ?_
  refine WC.seq fun K1784 hK1784 => ?_
  -- region 3
  refine WC.region ?_
  -- R3.0 14 := law.go:340 move
  refine WL.v (by first | exact r_move (v := .int _ _) rfl | exact r_move rfl) rfl rfl rfl ?_
  -- R3.1 15 := law.go:340 binOp
  refine WL.v (by first | exact r_lss rfl rfl (decide_eq_true (by omega)) | exact r_lss rfl rfl (decide_eq_false (by omega)) | exact r_lss rfl rfl rfl) rfl rfl rfl ?_
  refine WL.fin hK1784 (fun _ _ h => h) ?_
  refine WC.condF rfl rfl ?_
  refine WC.exitF hK1632 (fun _ _ h => h) ?_
  refine WC.seq fun K1785 hK1785 => ?_
  refine WC.seq fun K1786 hK1786 => ?_
  -- region 25
  refine WC.region ?_
  -- R25.0 128 := law.go:362 load
  refine WL.v (by exact r_loadN (f := (iF fun t => (cqP s'.queue 20 t : Int))) ty_agg76 rfl (fun k hk => by rw [Nat.zero_add]; exact st.c0 hk)) rfl rfl rfl ?_
  -- R25.1 129 := law.go:362 move
  refine WL.v (by first | exact r_move (v := .int _ _) rfl | exact r_move rfl) rfl rfl rfl ?_
  refine WL.fin hK1786 (fun _ _ h => h) ?_
  refine WC.block ?_
  refine WC.loop (ι := Nat) (fun t => [(1, .pointer (some ⟨b1, 0, none⟩)), (128, .agg (mkA 16 (iF fun t => (cqP s'.queue 20 t : Int)))), (129, .int .i64 (t : Nat))])
    (fun t w' => t ≤ 16 ∧ S0 w0 ((b3, Row 76 16 (iF fun t => (cqP s'.queue 20 t : Int))) :: (b1, Row 36 10 fs) :: l) w') (fun t => 16 - t) 0 ⟨Nat.zero_le _, st⟩ ?_ ?_
  · skip
    repeat (first | exact sub_nil _ | refine sub_cons rfl rfl ?_)
  clear st
  rintro t w ⟨ht, st⟩ K4 hK4
  by_cases h16 : t = 16
  · skip
    refine WC.seq fun K1787 hK1787 => ?_
    -- region 26
    refine WC.region ?_
    -- R26.0 130 := law.go:362 binOp
    refine WL.v (by first | exact r_lss rfl rfl (decide_eq_true (by omega)) | exact r_lss rfl rfl (decide_eq_false (by omega)) | exact r_lss rfl rfl rfl) rfl rfl rfl ?_
    refine WL.fin hK1787 (fun _ _ h => h) ?_
    refine WC.seq fun K1788 hK1788 => ?_
    refine WC.condF rfl rfl ?_
    refine WC.exitF hK1785 (fun _ _ h => h) ?_
    refine WC.seq fun K1789 hK1789 => ?_
    -- region 32
    refine WC.region ?_
    -- R32.0 2 := law.go:368 assign
    refine WL.v (by first | exact r_assign (v := .bool _) rfl | exact r_assign rfl) rfl rfl rfl ?_
    refine WL.fin hK1789 (fun _ _ h => h) ?_
    refine WC.ret1 Tryz.results57 (fun _ _ h => h) rfl ?_
    exact ⟨_, rfl, rfl, st.drop.drop⟩
  have ht' : t < 16 := by omega
  have hct := hcnt t ht'
  rcases hw : (s'.tk t).waiting with _ | _
  · rw [hw] at hct
    have hct : cqP s'.queue 20 t = 0 := hct
    refine WC.seq fun K1790 hK1790 => ?_
    -- region 26
    refine WC.region ?_
    -- R26.0 130 := law.go:362 binOp
    refine WL.v (by first | exact r_lss rfl rfl (decide_eq_true (by omega)) | exact r_lss rfl rfl (decide_eq_false (by omega)) | exact r_lss rfl rfl rfl) rfl rfl rfl ?_
    refine WL.fin hK1790 (fun _ _ h => h) ?_
    refine WC.seq fun K1791 hK1791 => ?_
    refine WC.condT rfl rfl ?_
    refine WC.skipF hK1791 (fun _ _ h => h) ?_
    refine WC.seq fun K1792 hK1792 => ?_
    refine WC.block ?_
    refine WC.seq fun K1793 hK1793 => ?_
    -- region 27
    refine WC.region ?_
    -- R27.0 131 := law.go:362 move
    refine WL.v (by first | exact r_move (v := .int _ _) rfl | exact r_move rfl) rfl rfl rfl ?_
    -- R27.1 132 := law.go:362 index
    refine WL.v (by exact r_indexV (k := 0) (cs := mkA 16 (iF fun t => (cqP s'.queue 20 t : Int))) (v := .int .i64 (cqP s'.queue 20 t : Nat)) ty_ar76 ty_one3 rfl rfl rfl (by omega) (mkA_get ht')) rfl rfl rfl ?_
    -- R27.2 11 := law.go:362 assign
    refine WL.v (by first | exact r_assign (v := .int _ _) rfl | exact r_assign rfl) rfl rfl rfl ?_
    -- R27.3 12 := law.go:362 assign
    refine WL.v (by first | exact r_assign (v := .int _ _) rfl | exact r_assign rfl) rfl rfl rfl ?_
    refine WL.fin hK1793 (fun _ _ h => h) ?_
    refine WC.seq fun K1794 hK1794 => ?_
    -- region 28
    refine WC.region ?_
    -- R28.0 133 := law.go:363 fieldAddr
    refine WL.v (by exact r_field ty_fld36_2 rfl) rfl rfl rfl ?_
    -- R28.1 134 := law.go:363 load
    refine WL.v (by exact r_load1 (v := .pointer (some ⟨bA, 0, none⟩)) ty_one29 rfl (by rw [← f6]; exact st.c1 (by decide))) rfl rfl rfl ?_
    -- R28.2 135 := law.go:363 move
    refine WL.v (by first | exact r_move (v := .int _ _) rfl | exact r_move rfl) rfl rfl rfl ?_
    -- R28.3 136 := law.go:363 nilCheck
    refine WL.v (by exact r_nilCheck rfl) rfl rfl rfl ?_
    -- R28.4 137 := law.go:363 fieldAddr
    refine WL.v (by exact r_field ty_fld50_3 rfl) rfl rfl rfl ?_
    -- R28.5 138 := law.go:363 indexAddr
    refine WL.v (by exact r_indexA (j := t) ty_ar43 rfl rfl rfl ht') rfl rfl rfl ?_
    -- R28.6 139 := law.go:363 load
    refine WL.v (by exact r_loadL (vs := [.bool (s'.tk t).live, .int .u64 ((s'.tk t).birth : Nat), .int .u64 ((s'.tk t).epoch : Nat), .bool false, .int .u64 ((s'.tk t).deadline : Nat), .int .i64 ((s'.tk t).n : Nat)]) ty_agg42 rfl ⟨c_sT hck2.A ht' (j := 0) (by decide) (by omega) st, c_sT hck2.A ht' (j := 1) (by decide) (by omega) st, c_sT hck2.A ht' (j := 2) (by decide) (by omega) st, (by rw [← hw]; exact c_sT hck2.A ht' (j := 3) (by decide) (by omega) st), c_sT hck2.A ht' (j := 4) (by decide) (by omega) st, c_sT hck2.A ht' (j := 5) (by decide) (by omega) st, trivial⟩) rfl rfl rfl ?_
    -- R28.7 13 := law.go:363 alloc
    refine WL.alloc (m := 6) st ty_zero42 rfl rfl rfl ?_
    intro b13 w st
    -- R28.8 None := law.go:363 store
    first | refine WL.storeW (vs := [_, _, _, _, _, _]) st ty_agg42 rfl rfl rfl rfl rfl rfl ?_ | refine WL.storeL (vs := [_, _, _, _, _, _]) st ty_agg42 rfl rfl rfl rfl (by first | decide | omega) rfl rfl ?_ | refine WL.storeW (vs := [_, _, _, _, _, _]) st.front1 ty_agg42 rfl rfl rfl rfl rfl rfl ?_ | refine WL.storeL (vs := [_, _, _, _, _, _]) st.front1 ty_agg42 rfl rfl rfl rfl (by first | decide | omega) rfl rfl ?_ | refine WL.storeW (vs := [_, _, _, _, _, _]) st.front2 ty_agg42 rfl rfl rfl rfl rfl rfl ?_ | refine WL.storeL (vs := [_, _, _, _, _, _]) st.front2 ty_agg42 rfl rfl rfl rfl (by first | decide | omega) rfl rfl ?_ | refine WL.storeW (vs := [_, _, _, _, _, _]) st.front3 ty_agg42 rfl rfl rfl rfl rfl rfl ?_ | refine WL.storeL (vs := [_, _, _, _, _, _]) st.front3 ty_agg42 rfl rfl rfl rfl (by first | decide | omega) rfl rfl ?_ | refine WL.storeW (vs := [_, _, _, _, _, _]) st.front4 ty_agg42 rfl rfl rfl rfl rfl rfl ?_ | refine WL.storeL (vs := [_, _, _, _, _, _]) st.front4 ty_agg42 rfl rfl rfl rfl (by first | decide | omega) rfl rfl ?_ | refine WL.storeW (vs := [_, _, _, _, _, _]) st.front5 ty_agg42 rfl rfl rfl rfl rfl rfl ?_ | refine WL.storeL (vs := [_, _, _, _, _, _]) st.front5 ty_agg42 rfl rfl rfl rfl (by first | decide | omega) rfl rfl ?_ | refine WL.storeW (vs := [_, _, _, _, _, _]) st.front6 ty_agg42 rfl rfl rfl rfl rfl rfl ?_ | refine WL.storeL (vs := [_, _, _, _, _, _]) st.front6 ty_agg42 rfl rfl rfl rfl (by first | decide | omega) rfl rfl ?_ | refine WL.storeW (vs := [_, _, _, _, _, _]) st.front7 ty_agg42 rfl rfl rfl rfl rfl rfl ?_ | refine WL.storeL (vs := [_, _, _, _, _, _]) st.front7 ty_agg42 rfl rfl rfl rfl (by first | decide | omega) rfl rfl ?_ | refine WL.storeW (vs := [_, _, _, _, _, _]) st.front8 ty_agg42 rfl rfl rfl rfl rfl rfl ?_ | refine WL.storeL (vs := [_, _, _, _, _, _]) st.front8 ty_agg42 rfl rfl rfl rfl (by first | decide | omega) rfl rfl ?_
    intro w st
    refine WL.fin hK1794 (fun _ _ h => h) ?_
    refine WC.seq fun K1795 hK1795 => ?_
    -- region 29
    refine WC.region ?_
    -- R29.0 140 := law.go:364 fieldAddr
    refine WL.v (by exact r_field ty_fld42_3 rfl) rfl rfl rfl ?_
    -- R29.1 141 := law.go:364 load
    refine WL.v (by exact r_load1 ty_one4 rfl (by first | assumption | exact st.c0 (by first | decide | omega) | exact st.c1 (by first | decide | omega) | exact st.c2 (by first | decide | omega) | exact st.c3 (by first | decide | omega) | exact st.c4 (by first | decide | omega) | exact st.c5 (by first | decide | omega) | exact st.c6 (by first | decide | omega) | exact st.c7 (by first | decide | omega) | exact st.c8 (by first | decide | omega))) rfl rfl rfl ?_
    -- R29.2 142 := law.go:364 move
    refine WL.v (by first | exact r_move (v := .bool _) rfl | exact r_move rfl) rfl rfl rfl ?_
    -- R29.3 143 := law.go:364 move
    refine WL.no rfl rfl ?_
    -- R29.4 144 := law.go:364 binOp
    refine WL.no rfl rfl ?_
    -- R29.5 145 := law.go:364 move
    refine WL.no rfl rfl ?_
    -- R29.6 146 := law.go:364 fieldAddr
    refine WL.no rfl rfl ?_
    -- R29.7 147 := law.go:364 load
    refine WL.no rfl rfl ?_
    -- R29.8 148 := law.go:364 unOp
    refine WL.no rfl rfl ?_
    -- R29.9 149 := law.go:364 pick
    refine WL.no rfl rfl ?_
    -- R29.10 150 := law.go:364 pick
    refine WL.v (by first | exact r_pickT (v := .bool _) rfl rfl | exact r_pickF (v := .bool _) rfl rfl) rfl rfl rfl ?_
    -- R29.11 151 := law.go:364 move
    refine WL.v (by first | exact r_move (v := .bool _) rfl | exact r_move rfl) rfl rfl rfl ?_
    -- R29.12 152 := law.go:364 fieldAddr
    refine WL.v (by exact r_field ty_fld42_3 rfl) rfl rfl rfl ?_
    -- R29.13 153 := law.go:364 load
    refine WL.v (by exact r_load1 ty_one4 rfl (by first | assumption | exact st.c0 (by first | decide | omega) | exact st.c1 (by first | decide | omega) | exact st.c2 (by first | decide | omega) | exact st.c3 (by first | decide | omega) | exact st.c4 (by first | decide | omega) | exact st.c5 (by first | decide | omega) | exact st.c6 (by first | decide | omega) | exact st.c7 (by first | decide | omega) | exact st.c8 (by first | decide | omega))) rfl rfl rfl ?_
    -- R29.14 154 := law.go:364 unOp
    refine WL.v (by first | exact r_notT rfl | exact r_notF rfl | exact r_not rfl) rfl rfl rfl ?_
    -- R29.15 155 := law.go:364 move
    refine WL.v (by first | exact r_move (v := .bool _) rfl | exact r_move rfl) rfl rfl rfl ?_
    -- R29.16 156 := law.go:364 move
    refine WL.v (by first | exact r_move (v := .int _ _) rfl | exact r_move rfl) rfl rfl rfl ?_
    -- R29.17 157 := law.go:364 binOp
    refine WL.v (by first | exact r_neq rfl rfl (decide_eq_true (by omega)) | exact r_neq rfl rfl (decide_eq_false (by omega)) | exact r_neq rfl rfl rfl) rfl rfl rfl ?_
    -- R29.18 158 := law.go:364 pick
    refine WL.v (by first | exact r_pickT (v := .bool _) rfl rfl | exact r_pickF (v := .bool _) rfl rfl) rfl rfl rfl ?_
    -- R29.19 159 := law.go:364 pick
    refine WL.v (by first | exact r_pickT (v := .bool _) rfl rfl | exact r_pickF (v := .bool _) rfl rfl) rfl rfl rfl ?_
    refine WL.fin hK1795 (fun _ _ h => h) ?_
    refine WC.condF rfl rfl ?_
    refine WC.skipF hK1792 (fun _ _ h => h) ?_
    -- region 31
    refine WC.region ?_
    -- R31.0 160 := law.go:362 binOp
    refine WL.v (by first | exact r_add rfl rfl (wi64 (by omega) (by omega)) | exact r_add rfl rfl rfl) rfl rfl rfl ?_
    -- R31.1 129 := law.go:362 move
    refine WL.v (by first | exact r_move (v := .int _ _) rfl | exact r_move rfl) rfl rfl rfl ?_
    refine WL.next hK4 (fun _ _ h => h) (t + 1) ⟨ht', st.drop⟩ (by omega) (by repeat (first | exact sub_nil _ | refine sub_cons rfl rfl ?_))
  · rw [hw] at hct
    have hct : cqP s'.queue 20 t = 1 := hct
    have hl := hI.wl t hw
    refine WC.seq fun K1796 hK1796 => ?_
    -- region 26
    refine WC.region ?_
    -- R26.0 130 := law.go:362 binOp
    refine WL.v (by first | exact r_lss rfl rfl (decide_eq_true (by omega)) | exact r_lss rfl rfl (decide_eq_false (by omega)) | exact r_lss rfl rfl rfl) rfl rfl rfl ?_
    refine WL.fin hK1796 (fun _ _ h => h) ?_
    refine WC.seq fun K1797 hK1797 => ?_
    refine WC.condT rfl rfl ?_
    refine WC.skipF hK1797 (fun _ _ h => h) ?_
    refine WC.seq fun K1798 hK1798 => ?_
    refine WC.block ?_
    refine WC.seq fun K1799 hK1799 => ?_
    -- region 27
    refine WC.region ?_
    -- R27.0 131 := law.go:362 move
    refine WL.v (by first | exact r_move (v := .int _ _) rfl | exact r_move rfl) rfl rfl rfl ?_
    -- R27.1 132 := law.go:362 index
    refine WL.v (by exact r_indexV (k := 0) (cs := mkA 16 (iF fun t => (cqP s'.queue 20 t : Int))) (v := .int .i64 (cqP s'.queue 20 t : Nat)) ty_ar76 ty_one3 rfl rfl rfl (by omega) (mkA_get ht')) rfl rfl rfl ?_
    -- R27.2 11 := law.go:362 assign
    refine WL.v (by first | exact r_assign (v := .int _ _) rfl | exact r_assign rfl) rfl rfl rfl ?_
    -- R27.3 12 := law.go:362 assign
    refine WL.v (by first | exact r_assign (v := .int _ _) rfl | exact r_assign rfl) rfl rfl rfl ?_
    refine WL.fin hK1799 (fun _ _ h => h) ?_
    refine WC.seq fun K1800 hK1800 => ?_
    -- region 28
    refine WC.region ?_
    -- R28.0 133 := law.go:363 fieldAddr
    refine WL.v (by exact r_field ty_fld36_2 rfl) rfl rfl rfl ?_
    -- R28.1 134 := law.go:363 load
    refine WL.v (by exact r_load1 (v := .pointer (some ⟨bA, 0, none⟩)) ty_one29 rfl (by rw [← f6]; exact st.c1 (by decide))) rfl rfl rfl ?_
    -- R28.2 135 := law.go:363 move
    refine WL.v (by first | exact r_move (v := .int _ _) rfl | exact r_move rfl) rfl rfl rfl ?_
    -- R28.3 136 := law.go:363 nilCheck
    refine WL.v (by exact r_nilCheck rfl) rfl rfl rfl ?_
    -- R28.4 137 := law.go:363 fieldAddr
    refine WL.v (by exact r_field ty_fld50_3 rfl) rfl rfl rfl ?_
    -- R28.5 138 := law.go:363 indexAddr
    refine WL.v (by exact r_indexA (j := t) ty_ar43 rfl rfl rfl ht') rfl rfl rfl ?_
    -- R28.6 139 := law.go:363 load
    refine WL.v (by exact r_loadL (vs := [.bool true, .int .u64 ((s'.tk t).birth : Nat), .int .u64 ((s'.tk t).epoch : Nat), .bool true, .int .u64 ((s'.tk t).deadline : Nat), .int .i64 ((s'.tk t).n : Nat)]) ty_agg42 rfl ⟨(by rw [← hl]; exact c_sT hck2.A ht' (j := 0) (by decide) (by omega) st), c_sT hck2.A ht' (j := 1) (by decide) (by omega) st, c_sT hck2.A ht' (j := 2) (by decide) (by omega) st, (by rw [← hw]; exact c_sT hck2.A ht' (j := 3) (by decide) (by omega) st), c_sT hck2.A ht' (j := 4) (by decide) (by omega) st, c_sT hck2.A ht' (j := 5) (by decide) (by omega) st, trivial⟩) rfl rfl rfl ?_
    -- R28.7 13 := law.go:363 alloc
    refine WL.alloc (m := 6) st ty_zero42 rfl rfl rfl ?_
    intro b13 w st
    -- R28.8 None := law.go:363 store
    first | refine WL.storeW (vs := [_, _, _, _, _, _]) st ty_agg42 rfl rfl rfl rfl rfl rfl ?_ | refine WL.storeL (vs := [_, _, _, _, _, _]) st ty_agg42 rfl rfl rfl rfl (by first | decide | omega) rfl rfl ?_ | refine WL.storeW (vs := [_, _, _, _, _, _]) st.front1 ty_agg42 rfl rfl rfl rfl rfl rfl ?_ | refine WL.storeL (vs := [_, _, _, _, _, _]) st.front1 ty_agg42 rfl rfl rfl rfl (by first | decide | omega) rfl rfl ?_ | refine WL.storeW (vs := [_, _, _, _, _, _]) st.front2 ty_agg42 rfl rfl rfl rfl rfl rfl ?_ | refine WL.storeL (vs := [_, _, _, _, _, _]) st.front2 ty_agg42 rfl rfl rfl rfl (by first | decide | omega) rfl rfl ?_ | refine WL.storeW (vs := [_, _, _, _, _, _]) st.front3 ty_agg42 rfl rfl rfl rfl rfl rfl ?_ | refine WL.storeL (vs := [_, _, _, _, _, _]) st.front3 ty_agg42 rfl rfl rfl rfl (by first | decide | omega) rfl rfl ?_ | refine WL.storeW (vs := [_, _, _, _, _, _]) st.front4 ty_agg42 rfl rfl rfl rfl rfl rfl ?_ | refine WL.storeL (vs := [_, _, _, _, _, _]) st.front4 ty_agg42 rfl rfl rfl rfl (by first | decide | omega) rfl rfl ?_ | refine WL.storeW (vs := [_, _, _, _, _, _]) st.front5 ty_agg42 rfl rfl rfl rfl rfl rfl ?_ | refine WL.storeL (vs := [_, _, _, _, _, _]) st.front5 ty_agg42 rfl rfl rfl rfl (by first | decide | omega) rfl rfl ?_ | refine WL.storeW (vs := [_, _, _, _, _, _]) st.front6 ty_agg42 rfl rfl rfl rfl rfl rfl ?_ | refine WL.storeL (vs := [_, _, _, _, _, _]) st.front6 ty_agg42 rfl rfl rfl rfl (by first | decide | omega) rfl rfl ?_ | refine WL.storeW (vs := [_, _, _, _, _, _]) st.front7 ty_agg42 rfl rfl rfl rfl rfl rfl ?_ | refine WL.storeL (vs := [_, _, _, _, _, _]) st.front7 ty_agg42 rfl rfl rfl rfl (by first | decide | omega) rfl rfl ?_ | refine WL.storeW (vs := [_, _, _, _, _, _]) st.front8 ty_agg42 rfl rfl rfl rfl rfl rfl ?_ | refine WL.storeL (vs := [_, _, _, _, _, _]) st.front8 ty_agg42 rfl rfl rfl rfl (by first | decide | omega) rfl rfl ?_
    intro w st
    refine WL.fin hK1800 (fun _ _ h => h) ?_
    refine WC.seq fun K1801 hK1801 => ?_
    -- region 29
    refine WC.region ?_
    -- R29.0 140 := law.go:364 fieldAddr
    refine WL.v (by exact r_field ty_fld42_3 rfl) rfl rfl rfl ?_
    -- R29.1 141 := law.go:364 load
    refine WL.v (by exact r_load1 ty_one4 rfl (by first | assumption | exact st.c0 (by first | decide | omega) | exact st.c1 (by first | decide | omega) | exact st.c2 (by first | decide | omega) | exact st.c3 (by first | decide | omega) | exact st.c4 (by first | decide | omega) | exact st.c5 (by first | decide | omega) | exact st.c6 (by first | decide | omega) | exact st.c7 (by first | decide | omega) | exact st.c8 (by first | decide | omega))) rfl rfl rfl ?_
    -- R29.2 142 := law.go:364 move
    refine WL.v (by first | exact r_move (v := .bool _) rfl | exact r_move rfl) rfl rfl rfl ?_
    -- R29.3 143 := law.go:364 move
    refine WL.v (by first | exact r_move (v := .int _ _) rfl | exact r_move rfl) rfl rfl rfl ?_
    -- R29.4 144 := law.go:364 binOp
    refine WL.v (by first | exact r_neq rfl rfl (decide_eq_true (by omega)) | exact r_neq rfl rfl (decide_eq_false (by omega)) | exact r_neq rfl rfl rfl) rfl rfl rfl ?_
    -- R29.5 145 := law.go:364 move
    refine WL.v (by first | exact r_move (v := .bool _) rfl | exact r_move rfl) rfl rfl rfl ?_
    -- R29.6 146 := law.go:364 fieldAddr
    refine WL.v (by exact r_field ty_fld42_0 rfl) rfl rfl rfl ?_
    -- R29.7 147 := law.go:364 load
    refine WL.v (by exact r_load1 ty_one4 rfl (by first | assumption | exact st.c0 (by first | decide | omega) | exact st.c1 (by first | decide | omega) | exact st.c2 (by first | decide | omega) | exact st.c3 (by first | decide | omega) | exact st.c4 (by first | decide | omega) | exact st.c5 (by first | decide | omega) | exact st.c6 (by first | decide | omega) | exact st.c7 (by first | decide | omega) | exact st.c8 (by first | decide | omega))) rfl rfl rfl ?_
    -- R29.8 148 := law.go:364 unOp
    refine WL.v (by first | exact r_notT rfl | exact r_notF rfl | exact r_not rfl) rfl rfl rfl ?_
    -- R29.9 149 := law.go:364 pick
    refine WL.v (by first | exact r_pickT (v := .bool _) rfl rfl | exact r_pickF (v := .bool _) rfl rfl) rfl rfl rfl ?_
    -- R29.10 150 := law.go:364 pick
    refine WL.v (by first | exact r_pickT (v := .bool _) rfl rfl | exact r_pickF (v := .bool _) rfl rfl) rfl rfl rfl ?_
    -- R29.11 151 := law.go:364 move
    refine WL.v (by first | exact r_move (v := .bool _) rfl | exact r_move rfl) rfl rfl rfl ?_
    -- R29.12 152 := law.go:364 fieldAddr
    refine WL.v (by exact r_field ty_fld42_3 rfl) rfl rfl rfl ?_
    -- R29.13 153 := law.go:364 load
    refine WL.v (by exact r_load1 ty_one4 rfl (by first | assumption | exact st.c0 (by first | decide | omega) | exact st.c1 (by first | decide | omega) | exact st.c2 (by first | decide | omega) | exact st.c3 (by first | decide | omega) | exact st.c4 (by first | decide | omega) | exact st.c5 (by first | decide | omega) | exact st.c6 (by first | decide | omega) | exact st.c7 (by first | decide | omega) | exact st.c8 (by first | decide | omega))) rfl rfl rfl ?_
    -- R29.14 154 := law.go:364 unOp
    refine WL.v (by first | exact r_notT rfl | exact r_notF rfl | exact r_not rfl) rfl rfl rfl ?_
    -- R29.15 155 := law.go:364 move
    refine WL.v (by first | exact r_move (v := .bool _) rfl | exact r_move rfl) rfl rfl rfl ?_
    -- R29.16 156 := law.go:364 move
    refine WL.no rfl rfl ?_
    -- R29.17 157 := law.go:364 binOp
    refine WL.no rfl rfl ?_
    -- R29.18 158 := law.go:364 pick
    refine WL.v (by first | exact r_pickT (v := .bool _) rfl rfl | exact r_pickF (v := .bool _) rfl rfl) rfl rfl rfl ?_
    -- R29.19 159 := law.go:364 pick
    refine WL.v (by first | exact r_pickT (v := .bool _) rfl rfl | exact r_pickF (v := .bool _) rfl rfl) rfl rfl rfl ?_
    refine WL.fin hK1801 (fun _ _ h => h) ?_
    refine WC.condF rfl rfl ?_
    refine WC.skipF hK1798 (fun _ _ h => h) ?_
    -- region 31
    refine WC.region ?_
    -- R31.0 160 := law.go:362 binOp
    refine WL.v (by first | exact r_add rfl rfl (wi64 (by omega) (by omega)) | exact r_add rfl rfl rfl) rfl rfl rfl ?_
    -- R31.1 129 := law.go:362 move
    refine WL.v (by first | exact r_move (v := .int _ _) rfl | exact r_move rfl) rfl rfl rfl ?_
    refine WL.next hK4 (fun _ _ h => h) (t + 1) ⟨ht', st.drop⟩ (by omega) (by repeat (first | exact sub_nil _ | refine sub_cons rfl rfl ?_))
theorem units_ok (a : Option Addr) (sb so n c : Nat) (op : Nat → Kern.Op) (hD : gD w) (hS : Scr w sb so n op) (hn63 : n ≤ 140737488355328) (ha : 0 < n → a = some ⟨sb, so, none⟩) :
    Calls Tryz.prog 15 #[.slice a n c] w (Ret fun v w' => v = .bool true ∧ S0 w [] w') := by
  have st : S0 w [] w := St.init w _
  by_cases hn : n ≤ 65536
  · have hC : CheckOK w 57 #[] op n fun _ LI => LI = [] := by
      refine check_pure fun i hi bB bA qv qv' ov l w' hck st' => ?_
      have hK := run_KI op i
      have hI := run_INV op i
      have hK' := run_KI op (i + 1)
      exact units1_ok (run_INV op (i + 1)) hK'.b (by omega) hck st'
    refine enter [.slice a n c] Tryz.func15 rfl Tryz.ntmps15 rfl ?_
    show WC _ _ _ 8 [] [(0, .slice a n c)] _
    refine WC.seq fun K1802 hK1802 => ?_
    -- region 0
    refine WC.region ?_
    -- R0.0 2 := law.go:333 assign
    refine WL.v (by first | exact r_assign (v := .bool _) rfl | exact r_assign rfl) rfl rfl rfl ?_
    refine WL.fin hK1802 (fun _ _ h => h) ?_
    refine WC.seq fun K1803 hK1803 => ?_
    refine WC.seq fun K1804 hK1804 => ?_
    -- region 1
    refine WC.region ?_
    -- R1.0 3 := law.go:334 move
    refine WL.v (by first | exact r_move (v := .slice _ _ _) rfl | exact r_move rfl) rfl rfl rfl ?_
    -- R1.1 4 := law.go:334 call
    refine WL.call (r_call ty_call23 rfl) rfl rfl rfl (zzSmall1_ok a n c st) ?_
    rintro _ w' ⟨he, st⟩
    rw [decide_eq_true hn] at he
    subst he
    -- R1.2 5 := law.go:334 unOp
    refine WL.v (by first | exact r_notT rfl | exact r_notF rfl | exact r_not rfl) rfl rfl rfl ?_
    refine WL.fin hK1804 (fun _ _ h => h) ?_
    refine WC.condF rfl rfl ?_
    refine WC.skipF hK1803 (fun _ _ h => h) ?_
    refine WC.seq fun K1805 hK1805 => ?_
    -- region 3
    refine WC.region ?_
    -- R3.0 6 := law.go:338 move
    refine WL.v (by first | exact r_move (v := .slice _ _ _) rfl | exact r_move rfl) rfl rfl rfl ?_
    -- R3.1 7 := law.go:338 call
    refine WL.call (r_call ty_call24 rfl) rfl rfl rfl (play_ok (LI := []) (l := []) ty_call57 hD hS hn ha hC rfl st) ?_
    rintro _ w'' ⟨rfl, LI', rfl, st⟩
    -- R3.2 2 := law.go:338 assign
    refine WL.v (by first | exact r_assign (v := .bool _) rfl | exact r_assign rfl) rfl rfl rfl ?_
    refine WL.fin hK1805 (fun _ _ h => h) ?_
    refine WC.ret1 Tryz.results15 (fun _ _ h => h) rfl ?_
    exact ⟨_, rfl, rfl, st⟩
  · skip
    refine enter [.slice a n c] Tryz.func15 rfl Tryz.ntmps15 rfl ?_
    show WC _ _ _ 8 [] [(0, .slice a n c)] _
    refine WC.seq fun K1806 hK1806 => ?_
    -- region 0
    refine WC.region ?_
    -- R0.0 2 := law.go:333 assign
    refine WL.v (by first | exact r_assign (v := .bool _) rfl | exact r_assign rfl) rfl rfl rfl ?_
    refine WL.fin hK1806 (fun _ _ h => h) ?_
    refine WC.seq fun K1807 hK1807 => ?_
    refine WC.seq fun K1808 hK1808 => ?_
    -- region 1
    refine WC.region ?_
    -- R1.0 3 := law.go:334 move
    refine WL.v (by first | exact r_move (v := .slice _ _ _) rfl | exact r_move rfl) rfl rfl rfl ?_
    -- R1.1 4 := law.go:334 call
    refine WL.call (r_call ty_call23 rfl) rfl rfl rfl (zzSmall1_ok a n c st) ?_
    rintro _ w' ⟨he, st⟩
    rw [decide_eq_false hn] at he
    subst he
    -- R1.2 5 := law.go:334 unOp
    refine WL.v (by first | exact r_notT rfl | exact r_notF rfl | exact r_not rfl) rfl rfl rfl ?_
    refine WL.fin hK1808 (fun _ _ h => h) ?_
    refine WC.condT rfl rfl ?_
    refine WC.seq fun K1809 hK1809 => ?_
    -- region 2
    refine WC.region ?_
    -- R2.0 2 := law.go:335 assign
    refine WL.v (by first | exact r_assign (v := .bool _) rfl | exact r_assign rfl) rfl rfl rfl ?_
    refine WL.fin hK1809 (fun _ _ h => h) ?_
    refine WC.ret1 Tryz.results15 (fun _ _ h => h) rfl ?_
    exact ⟨_, rfl, rfl, st⟩
end Go.Proofs.Qxb6500834aGreatDoor

