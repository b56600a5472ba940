import Derived.Test.Qxb6500834aGreatDoorK4
set_option linter.unusedVariables false
set_option linter.unusedSimpArgs false
set_option maxRecDepth 20000
namespace Go.Proofs.Qxb6500834aGreatDoor
open Go.RowKit Go.E1 Go.Kern
variable {w0 : World} {L L' l I J K K' X : List HI} {w : World} {M : KM} {s : KS}
variable {br bp bm mode now armed t r : Nat} {held claim : Nat → Nat → Nat} {qv : Nat → Value} {tk : Nat → TK} {cells : Nat → Nat} {births : Nat} {ov v : Value} {Q : List (Nat × Nat)}

/-! Reading the tables. -/
def sumP (f : Nat → Nat) : Nat → Nat
  | 0 => 0
  | n + 1 => sumP f n + f n
theorem sumP_le {f : Nat → Nat} {b : Nat} (h : ∀ i, f i ≤ b) : ∀ n, sumP f n ≤ b * n
  | 0 => Nat.le_refl _
  | n + 1 => by have := sumP_le h n; have := h n; show sumP f n + f n ≤ b * (n + 1); rw [Nat.mul_succ]; omega
def freeP (held : Nat → Nat → Nat) (r : Nat) : Int := (totP r : Int) - (sumP (fun t => held t r) 16 : Nat)
def maskP (p : Nat → Bool) : Nat → Nat
  | 0 => 0
  | n + 1 => if p n then maskP p n ||| 2 ^ n else maskP p n
theorem pow16 {t : Nat} (h : t < 16) : 2 ^ t < 65536 := Nat.lt_of_lt_of_le (Nat.pow_lt_pow_right (by decide) h) (by decide)
theorem maskP_lt (p : Nat → Bool) : ∀ n, n ≤ 16 → maskP p n < 65536
  | 0, _ => by show 0 < 65536; decide
  | n + 1, h => by
    show (if p n then maskP p n ||| 2 ^ n else maskP p n) < 65536
    split
    · exact orlt (maskP_lt p n (by omega)) (pow16 (by omega))
    · exact maskP_lt p n (by omega)
theorem maskP_bit (p : Nat → Bool) (i : Nat) : ∀ n, (maskP p n).testBit i = (decide (i < n) && p i)
  | 0 => by simp [maskP]
  | n + 1 => by
    show (if p n then maskP p n ||| 2 ^ n else maskP p n).testBit i = _
    have h := maskP_bit p i n
    by_cases hi : i = n
    · subst hi
      cases hp : p i <;> simp [hp, h, Nat.testBit_or, Nat.testBit_two_pow]
    · have : decide (i < n + 1) = decide (i < n) := by rw [decide_eq_decide]; omega
      rw [this]
      split
      · rw [Nat.testBit_or, h, Nat.testBit_two_pow]; simp [show n ≠ i from fun e => hi e.symm]
      · exact h
def holdersP (held : Nat → Nat → Nat) (r : Nat) : Nat := maskP (fun t => decide (0 < held t r)) 16
def queuedF (m : Nat) (Q : List (Nat × Nat)) : Nat := Q.foldl (fun m q => m ||| 2 ^ q.1) m
def queuedP (Q : List (Nat × Nat)) : Nat := queuedF 0 Q
theorem queuedF_lt : ∀ {Q : List (Nat × Nat)} {m : Nat}, m < 65536 → (∀ p, p ∈ Q → p.1 < 16) → queuedF m Q < 65536
  | [], m, hm, _ => hm
  | q :: Q, m, hm, h => queuedF_lt (Q := Q) (orlt hm (pow16 (h q List.mem_cons_self))) fun p hp => h p (List.mem_cons_of_mem _ hp)
theorem queuedF_bit (i : Nat) : ∀ {Q : List (Nat × Nat)} {m : Nat}, (queuedF m Q).testBit i = (m.testBit i || Q.any fun p => p.1 == i)
  | [], m => by simp [queuedF]
  | q :: Q, m => by
    show (queuedF (m ||| 2 ^ q.1) Q).testBit i = _
    rw [queuedF_bit i, Nat.testBit_or, Nat.testBit_two_pow, List.any_cons, Bool.or_assoc]
    congr 1
theorem queuedP_lt (h : ∀ p, p ∈ Q → p.1 < 16) : queuedP Q < 65536 := queuedF_lt (by decide) h
def heldByP (held : Nat → Nat → Nat) (t : Nat) : List Nat := (List.range 20).filter fun r => decide (0 < held t r)

theorem c_one {b el a : Nat} {f : Nat → Value} (st : S0 w0 ((b, Row el 1 f) :: l) w) (h : f 0 = iE a 0) : ∀ k, k < 1 → w.cell? ⟨b, 0 + k, none⟩ = some (iE a k) := fun k hk => by
  rw [st.c0 (by omega), show 0 + k = 0 by omega, h]; rfl

theorem free_ok (hh : ∀ t r, held t r ≤ 16) (hr : r < 20) (hm : rI br held qv ∈ l) (st : S0 w0 l w) :
    Calls Tryz.prog 161 #[.pointer (some ⟨br, 0, none⟩), .int .i64 (r : Nat)] w (Ret fun u w' => u = .int .i64 (freeP held r) ∧ S0 w0 l w') := by
  have hT := totP_le r
  refine enter [.pointer (some ⟨br, 0, none⟩), .int .i64 (r : Nat)] Tryz.func161 rfl Tryz.ntmps161 rfl ?_
  show WC _ _ _ 24 [] [(0, .pointer (some ⟨br, 0, none⟩)), (1, .int .i64 (r : Nat))] _
  refine WC.seq fun K48 hK48 => ?_
  -- region 0
  refine WC.region ?_
  -- R0.0 4 := resourcem.go:49 assign
  refine WL.v (by first | exact r_assign (v := .int _ _) rfl | exact r_assign rfl) rfl rfl rfl ?_
  refine WL.fin hK48 (fun _ _ h => h) ?_
  refine WC.seq fun K49 hK49 => ?_
  -- region 1
  refine WC.region ?_
  -- R1.0 7 := resourcem.go:50 move
  refine WL.v (by first | exact r_move (v := .int _ _) rfl | exact r_move rfl) rfl rfl rfl ?_
  -- R1.1 8 := resourcem.go:50 call
  refine WL.call (r_call ty_call58 rfl) rfl rfl rfl (total_ok st) ?_
  rintro _ w ⟨rfl, st⟩
  -- R1.2 5 := resourcem.go:50 assign
  refine WL.v (by first | exact r_assign (v := .int _ _) rfl | exact r_assign rfl) rfl rfl rfl ?_
  refine WL.fin hK49 (fun _ _ h => h) ?_
  refine WC.seq fun K50 hK50 => ?_
  refine WC.seq fun K51 hK51 => ?_
  -- region 2
  refine WC.region ?_
  -- R2.0 9 := resourcem.go:51 move
  refine WL.v (by first | exact r_move (v := .int _ _) rfl | exact r_move rfl) rfl rfl rfl ?_
  refine WL.fin hK51 (fun _ _ h => h) ?_
  refine WC.block ?_
  refine WC.loop (ι := Nat) (fun i => [(0, .pointer (some ⟨br, 0, none⟩)), (1, .int .i64 (r : Nat)), (5, .int .i64 ((totP r : Int) - (sumP (fun t => held t r) i : Nat))), (9, .int .i64 (i : Nat))])
    (fun i w' => i ≤ 16 ∧ S0 w0 l w') (fun i => 16 - i) 0 ⟨Nat.zero_le _, st⟩ (by rw [show ((totP r : Int) - (sumP (fun t => held t r) 0 : Nat)) = (totP r : Int) by simp [sumP]]; repeat (first | exact sub_nil _ | refine sub_cons rfl rfl ?_)) ?_
  rintro i w ⟨hi, st⟩ K1 hK1
  by_cases h16 : i = 16
  · subst h16
    refine WC.seq fun K52 hK52 => ?_
    -- region 3
    refine WC.region ?_
    -- R3.0 10 := resourcem.go:51 binOp
    refine WL.v (by first | exact r_lss rfl rfl (decide_eq_true (by omega)) | exact r_lss rfl rfl (decide_eq_false (by omega)) | exact r_lss rfl rfl rfl) rfl rfl rfl ?_
    refine WL.fin hK52 (fun _ _ h => h) ?_
    refine WC.seq fun K53 hK53 => ?_
    refine WC.condF rfl rfl ?_
    refine WC.exitF hK50 (fun _ _ h => h) ?_
    refine WC.seq fun K54 hK54 => ?_
    -- region 7
    refine WC.region ?_
    -- R7.0 23 := resourcem.go:54 move
    refine WL.v (by first | exact r_move (v := .int _ _) rfl | exact r_move rfl) rfl rfl rfl ?_
    -- R7.1 4 := resourcem.go:54 assign
    refine WL.v (by first | exact r_assign (v := .int _ _) rfl | exact r_assign rfl) rfl rfl rfl ?_
    refine WL.fin hK54 (fun _ _ h => h) ?_
    refine WC.ret1 Tryz.results161 (fun _ _ h => h) rfl ?_
    exact ⟨_, rfl, rfl, st⟩
  have hs := sumP_le (f := fun t => held t r) (fun t => hh t r) i
  have hb := hh i r
  refine WC.seq fun K55 hK55 => ?_
  -- region 3
  refine WC.region ?_
  -- R3.0 10 := resourcem.go:51 binOp
  refine WL.v (by first | exact r_lss rfl rfl (decide_eq_true (by omega)) | exact r_lss rfl rfl (decide_eq_false (by omega)) | exact r_lss rfl rfl rfl) rfl rfl rfl ?_
  refine WL.fin hK55 (fun _ _ h => h) ?_
  refine WC.seq fun K56 hK56 => ?_
  refine WC.condT rfl rfl ?_
  refine WC.skipF hK56 (fun _ _ h => h) ?_
  refine WC.seq fun K57 hK57 => ?_
  refine WC.block ?_
  refine WC.seq fun K58 hK58 => ?_
  -- region 4
  refine WC.region ?_
  -- R4.0 11 := resourcem.go:51 move
  refine WL.v (by first | exact r_move (v := .int _ _) rfl | exact r_move rfl) rfl rfl rfl ?_
  -- R4.1 6 := resourcem.go:51 assign
  refine WL.v (by first | exact r_assign (v := .int _ _) rfl | exact r_assign rfl) rfl rfl rfl ?_
  refine WL.fin hK58 (fun _ _ h => h) ?_
  -- region 5
  refine WC.region ?_
  -- R5.0 12 := resourcem.go:52 move
  refine WL.v (by first | exact r_move (v := .int _ _) rfl | exact r_move rfl) rfl rfl rfl ?_
  -- R5.1 13 := resourcem.go:52 move
  refine WL.v (by first | exact r_move (v := .pointer _) rfl | exact r_move rfl) rfl rfl rfl ?_
  -- R5.2 14 := resourcem.go:52 move
  refine WL.v (by first | exact r_move (v := .int _ _) rfl | exact r_move rfl) rfl rfl rfl ?_
  -- R5.3 15 := resourcem.go:52 move
  refine WL.v (by first | exact r_move (v := .int _ _) rfl | exact r_move rfl) rfl rfl rfl ?_
  -- R5.4 16 := resourcem.go:52 nilCheck
  refine WL.v (by exact r_nilCheck rfl) rfl rfl rfl ?_
  -- R5.5 17 := resourcem.go:52 fieldAddr
  refine WL.v (by exact r_field ty_fld149_0 rfl) rfl rfl rfl ?_
  -- R5.6 18 := resourcem.go:52 indexAddr
  refine WL.v (by exact r_indexA ty_ar45 rfl rfl rfl (by omega)) rfl rfl rfl ?_
  -- R5.7 19 := resourcem.go:52 indexAddr
  refine WL.v (by exact r_indexA ty_ar44 rfl rfl rfl (by omega)) rfl rfl rfl ?_
  -- R5.8 20 := resourcem.go:52 load
  refine WL.v (by exact r_load1 (v := .int .i64 (held i r : Nat)) ty_one3 rfl (c_held st hm (by omega) hr)) rfl rfl rfl ?_
  -- R5.9 21 := resourcem.go:52 binOp
  refine WL.v (by exact r_sub (r := ((totP r : Int) - (sumP (fun t => held t r) (i + 1) : Nat))) rfl rfl ((wi64 (by omega) (by omega)).trans (by show _ = (totP r : Int) - ((sumP (fun t => held t r) i + held i r : Nat) : Int); omega))) rfl rfl rfl ?_
  -- R5.10 5 := resourcem.go:52 assign
  refine WL.v (by first | exact r_assign (v := .int _ _) rfl | exact r_assign rfl) rfl rfl rfl ?_
  refine WL.fin hK57 (fun _ _ h => h) ?_
  -- region 6
  refine WC.region ?_
  -- R6.0 22 := resourcem.go:51 binOp
  refine WL.v (by first | exact r_add rfl rfl (wi64 (by omega) (by omega)) | exact r_add rfl rfl rfl) rfl rfl rfl ?_
  -- R6.1 9 := resourcem.go:51 move
  refine WL.v (by first | exact r_move (v := .int _ _) rfl | exact r_move rfl) rfl rfl rfl ?_
  refine WL.next hK1 (fun _ _ h => h) (i + 1) ⟨by omega, st⟩ (by omega) (by repeat (first | exact sub_nil _ | refine sub_cons rfl rfl ?_))

theorem holders_ok (hr : r < 20) (hm : rI br held qv ∈ l) (st : S0 w0 l w) :
    Calls Tryz.prog 134 #[.pointer (some ⟨br, 0, none⟩), .int .i64 (r : Nat)] w (Ret fun u w' => u = .int .u16 (holdersP held r : Nat) ∧ S0 w0 l w') := by
  refine enter [.pointer (some ⟨br, 0, none⟩), .int .i64 (r : Nat)] Tryz.func134 rfl Tryz.ntmps134 rfl ?_
  show WC _ _ _ 25 [] [(0, .pointer (some ⟨br, 0, none⟩)), (1, .int .i64 (r : Nat))] _
  refine WC.seq fun K59 hK59 => ?_
  -- region 0
  refine WC.region ?_
  -- R0.0 4 := resourcem.go:58 assign
  refine WL.v (by first | exact r_assign (v := .int _ _) rfl | exact r_assign rfl) rfl rfl rfl ?_
  refine WL.fin hK59 (fun _ _ h => h) ?_
  refine WC.seq fun K60 hK60 => ?_
  -- region 1
  refine WC.region ?_
  -- R1.0 5 := resourcem.go:59 assign
  refine WL.v (by first | exact r_assign (v := .int _ _) rfl | exact r_assign rfl) rfl rfl rfl ?_
  refine WL.fin hK60 (fun _ _ h => h) ?_
  refine WC.seq fun K61 hK61 => ?_
  refine WC.seq fun K62 hK62 => ?_
  -- region 2
  refine WC.region ?_
  -- R2.0 7 := resourcem.go:60 move
  refine WL.v (by first | exact r_move (v := .int _ _) rfl | exact r_move rfl) rfl rfl rfl ?_
  refine WL.fin hK62 (fun _ _ h => h) ?_
  refine WC.block ?_
  refine WC.loop (ι := Nat) (fun i => [(0, .pointer (some ⟨br, 0, none⟩)), (1, .int .i64 (r : Nat)), (5, .int .u16 (maskP (fun t => decide (0 < held t r)) i : Nat)), (7, .int .i64 (i : Nat))])
    (fun i w' => i ≤ 16 ∧ S0 w0 l w') (fun i => 16 - i) 0 ⟨Nat.zero_le _, st⟩ ?_ ?_
  · skip
    repeat (first | exact sub_nil _ | refine sub_cons rfl rfl ?_)
  rintro i w ⟨hi, st⟩ K1 hK1
  by_cases h16 : i = 16
  · subst h16
    refine WC.seq fun K63 hK63 => ?_
    -- region 3
    refine WC.region ?_
    -- R3.0 8 := resourcem.go:60 binOp
    refine WL.v (by first | exact r_lss rfl rfl (decide_eq_true (by omega)) | exact r_lss rfl rfl (decide_eq_false (by omega)) | exact r_lss rfl rfl rfl) rfl rfl rfl ?_
    refine WL.fin hK63 (fun _ _ h => h) ?_
    refine WC.seq fun K64 hK64 => ?_
    refine WC.condF rfl rfl ?_
    refine WC.exitF hK61 (fun _ _ h => h) ?_
    refine WC.seq fun K65 hK65 => ?_
    -- region 8
    refine WC.region ?_
    -- R8.0 24 := resourcem.go:65 move
    refine WL.v (by first | exact r_move (v := .int _ _) rfl | exact r_move rfl) rfl rfl rfl ?_
    -- R8.1 4 := resourcem.go:65 assign
    refine WL.v (by first | exact r_assign (v := .int _ _) rfl | exact r_assign rfl) rfl rfl rfl ?_
    refine WL.fin hK65 (fun _ _ h => h) ?_
    refine WC.ret1 Tryz.results134 (fun _ _ h => h) rfl ?_
    exact ⟨_, rfl, rfl, st⟩
  by_cases hp : 0 < held i r
  · have e : maskP (fun t => decide (0 < held t r)) (i + 1) = maskP (fun t => decide (0 < held t r)) i ||| 2 ^ i := if_pos (decide_eq_true hp)
    refine WC.seq fun K66 hK66 => ?_
    -- region 3
    refine WC.region ?_
    -- R3.0 8 := resourcem.go:60 binOp
    refine WL.v (by first | exact r_lss rfl rfl (decide_eq_true (by omega)) | exact r_lss rfl rfl (decide_eq_false (by omega)) | exact r_lss rfl rfl rfl) rfl rfl rfl ?_
    refine WL.fin hK66 (fun _ _ h => h) ?_
    refine WC.seq fun K67 hK67 => ?_
    refine WC.condT rfl rfl ?_
    refine WC.skipF hK67 (fun _ _ h => h) ?_
    refine WC.seq fun K68 hK68 => ?_
    refine WC.block ?_
    refine WC.seq fun K69 hK69 => ?_
    -- region 4
    refine WC.region ?_
    -- R4.0 9 := resourcem.go:60 move
    refine WL.v (by first | exact r_move (v := .int _ _) rfl | exact r_move rfl) rfl rfl rfl ?_
    -- R4.1 6 := resourcem.go:60 assign
    refine WL.v (by first | exact r_assign (v := .int _ _) rfl | exact r_assign rfl) rfl rfl rfl ?_
    refine WL.fin hK69 (fun _ _ h => h) ?_
    refine WC.seq fun K70 hK70 => ?_
    -- region 5
    refine WC.region ?_
    -- R5.0 10 := resourcem.go:61 move
    refine WL.v (by first | exact r_move (v := .pointer _) rfl | exact r_move rfl) rfl rfl rfl ?_
    -- R5.1 11 := resourcem.go:61 move
    refine WL.v (by first | exact r_move (v := .int _ _) rfl | exact r_move rfl) rfl rfl rfl ?_
    -- R5.2 12 := resourcem.go:61 move
    refine WL.v (by first | exact r_move (v := .int _ _) rfl | exact r_move rfl) rfl rfl rfl ?_
    -- R5.3 13 := resourcem.go:61 nilCheck
    refine WL.v (by exact r_nilCheck rfl) rfl rfl rfl ?_
    -- R5.4 14 := resourcem.go:61 fieldAddr
    refine WL.v (by exact r_field ty_fld149_0 rfl) rfl rfl rfl ?_
    -- R5.5 15 := resourcem.go:61 indexAddr
    refine WL.v (by exact r_indexA ty_ar45 rfl rfl rfl (by omega)) rfl rfl rfl ?_
    -- R5.6 16 := resourcem.go:61 indexAddr
    refine WL.v (by exact r_indexA ty_ar44 rfl rfl rfl (by omega)) rfl rfl rfl ?_
    -- R5.7 17 := resourcem.go:61 load
    refine WL.v (by exact r_load1 (v := .int .i64 (held i r : Nat)) ty_one3 rfl (c_held st hm (by omega) hr)) rfl rfl rfl ?_
    -- R5.8 18 := resourcem.go:61 binOp
    refine WL.v (by first | exact r_gtr rfl rfl (decide_eq_true (by omega)) | exact r_gtr rfl rfl (decide_eq_false (by omega)) | exact r_gtr rfl rfl rfl) rfl rfl rfl ?_
    refine WL.fin hK70 (fun _ _ h => h) ?_
    refine WC.condT rfl rfl ?_
    -- region 6
    refine WC.region ?_
    -- R6.0 19 := resourcem.go:62 move
    refine WL.v (by first | exact r_move (v := .int _ _) rfl | exact r_move rfl) rfl rfl rfl ?_
    -- R6.1 20 := resourcem.go:62 move
    refine WL.v (by first | exact r_move (v := .int _ _) rfl | exact r_move rfl) rfl rfl rfl ?_
    -- R6.2 21 := resourcem.go:62 call
    refine WL.call (r_call ty_call30 rfl) rfl rfl rfl (bit_ok (t := i) (by omega) st) ?_
    rintro _ w ⟨rfl, st⟩
    -- R6.3 22 := resourcem.go:62 binOp
    refine WL.v (by exact r_or (r := ((maskP (fun t => decide (0 < held t r)) (i + 1) : Nat) : Int)) rfl rfl (by rw [or16 (maskP_lt _ i hi) (pow16 (by omega)), e])) rfl rfl rfl ?_
    -- R6.4 5 := resourcem.go:62 assign
    refine WL.v (by first | exact r_assign (v := .int _ _) rfl | exact r_assign rfl) rfl rfl rfl ?_
    refine WL.fin hK68 (fun _ _ h => h) ?_
    -- region 7
    refine WC.region ?_
    -- R7.0 23 := resourcem.go:60 binOp
    refine WL.v (by first | exact r_add rfl rfl (wi64 (by omega) (by omega)) | exact r_add rfl rfl rfl) rfl rfl rfl ?_
    -- R7.1 7 := resourcem.go:60 move
    refine WL.v (by first | exact r_move (v := .int _ _) rfl | exact r_move rfl) rfl rfl rfl ?_
    refine WL.next hK1 (fun _ _ h => h) (i + 1) ⟨by omega, st⟩ (by omega) (by repeat (first | exact sub_nil _ | refine sub_cons rfl rfl ?_))
  · have e : maskP (fun t => decide (0 < held t r)) (i + 1) = maskP (fun t => decide (0 < held t r)) i := if_neg (by rw [decide_eq_true_eq]; exact hp)
    refine WC.seq fun K71 hK71 => ?_
    -- region 3
    refine WC.region ?_
    -- R3.0 8 := resourcem.go:60 binOp
    refine WL.v (by first | exact r_lss rfl rfl (decide_eq_true (by omega)) | exact r_lss rfl rfl (decide_eq_false (by omega)) | exact r_lss rfl rfl rfl) rfl rfl rfl ?_
    refine WL.fin hK71 (fun _ _ h => h) ?_
    refine WC.seq fun K72 hK72 => ?_
    refine WC.condT rfl rfl ?_
    refine WC.skipF hK72 (fun _ _ h => h) ?_
    refine WC.seq fun K73 hK73 => ?_
    refine WC.block ?_
    refine WC.seq fun K74 hK74 => ?_
    -- region 4
    refine WC.region ?_
    -- R4.0 9 := resourcem.go:60 move
    refine WL.v (by first | exact r_move (v := .int _ _) rfl | exact r_move rfl) rfl rfl rfl ?_
    -- R4.1 6 := resourcem.go:60 assign
    refine WL.v (by first | exact r_assign (v := .int _ _) rfl | exact r_assign rfl) rfl rfl rfl ?_
    refine WL.fin hK74 (fun _ _ h => h) ?_
    refine WC.seq fun K75 hK75 => ?_
    -- region 5
    refine WC.region ?_
    -- R5.0 10 := resourcem.go:61 move
    refine WL.v (by first | exact r_move (v := .pointer _) rfl | exact r_move rfl) rfl rfl rfl ?_
    -- R5.1 11 := resourcem.go:61 move
    refine WL.v (by first | exact r_move (v := .int _ _) rfl | exact r_move rfl) rfl rfl rfl ?_
    -- R5.2 12 := resourcem.go:61 move
    refine WL.v (by first | exact r_move (v := .int _ _) rfl | exact r_move rfl) rfl rfl rfl ?_
    -- R5.3 13 := resourcem.go:61 nilCheck
    refine WL.v (by exact r_nilCheck rfl) rfl rfl rfl ?_
    -- R5.4 14 := resourcem.go:61 fieldAddr
    refine WL.v (by exact r_field ty_fld149_0 rfl) rfl rfl rfl ?_
    -- R5.5 15 := resourcem.go:61 indexAddr
    refine WL.v (by exact r_indexA ty_ar45 rfl rfl rfl (by omega)) rfl rfl rfl ?_
    -- R5.6 16 := resourcem.go:61 indexAddr
    refine WL.v (by exact r_indexA ty_ar44 rfl rfl rfl (by omega)) rfl rfl rfl ?_
    -- R5.7 17 := resourcem.go:61 load
    refine WL.v (by exact r_load1 (v := .int .i64 (held i r : Nat)) ty_one3 rfl (c_held st hm (by omega) hr)) rfl rfl rfl ?_
    -- R5.8 18 := resourcem.go:61 binOp
    refine WL.v (by first | exact r_gtr rfl rfl (decide_eq_true (by omega)) | exact r_gtr rfl rfl (decide_eq_false (by omega)) | exact r_gtr rfl rfl rfl) rfl rfl rfl ?_
    refine WL.fin hK75 (fun _ _ h => h) ?_
    refine WC.condF rfl rfl ?_
    refine WC.skipF hK73 (fun _ _ h => h) ?_
    -- region 7
    refine WC.region ?_
    -- R7.0 23 := resourcem.go:60 binOp
    refine WL.v (by first | exact r_add rfl rfl (wi64 (by omega) (by omega)) | exact r_add rfl rfl rfl) rfl rfl rfl ?_
    -- R7.1 7 := resourcem.go:60 move
    refine WL.v (by first | exact r_move (v := .int _ _) rfl | exact r_move rfl) rfl rfl rfl ?_
    refine WL.next hK1 (fun _ _ h => h) (i + 1) ⟨by omega, st⟩ (by omega) (by rw [e]; repeat (first | exact sub_nil _ | refine sub_cons rfl rfl ?_))

theorem heldBy_ok (ht : t < 16) (hm : rI br held qv ∈ l) (st : S0 w0 l w) :
    Calls Tryz.prog 102 #[.pointer (some ⟨br, 0, none⟩), .int .i64 (t : Nat)] w (Ret fun v w' => ∃ XI, LO 77 1 iE v (heldByP held t) XI ∧ S0 w0 (XI ++ l) w') := by
  refine enter [.pointer (some ⟨br, 0, none⟩), .int .i64 (t : Nat)] Tryz.func102 rfl Tryz.ntmps102 rfl ?_
  show WC _ _ _ 26 [] [(0, .pointer (some ⟨br, 0, none⟩)), (1, .int .i64 (t : Nat))] _
  refine WC.seq fun K76 hK76 => ?_
  -- region 0
  refine WC.region ?_
  -- R0.0 4 := resourcem.go:69 assign
  refine WL.v (by first | exact r_assign (v := .slice _ _ _) rfl | exact r_assign rfl) rfl rfl rfl ?_
  refine WL.fin hK76 (fun _ _ h => h) ?_
  refine WC.seq fun K77 hK77 => ?_
  -- region 1
  refine WC.region ?_
  -- R1.0 5 := resourcem.go:70 assign
  refine WL.v (by first | exact r_assign (v := .slice _ _ _) rfl | exact r_assign rfl) rfl rfl rfl ?_
  refine WL.fin hK77 (fun _ _ h => h) ?_
  refine WC.seq fun K78 hK78 => ?_
  refine WC.seq fun K79 hK79 => ?_
  -- region 2
  refine WC.region ?_
  -- R2.0 8 := resourcem.go:71 move
  refine WL.v (by first | exact r_move (v := .pointer _) rfl | exact r_move rfl) rfl rfl rfl ?_
  -- R2.1 9 := resourcem.go:71 move
  refine WL.v (by first | exact r_move (v := .int _ _) rfl | exact r_move rfl) rfl rfl rfl ?_
  -- R2.2 10 := resourcem.go:71 nilCheck
  refine WL.v (by exact r_nilCheck rfl) rfl rfl rfl ?_
  -- R2.3 11 := resourcem.go:71 fieldAddr
  refine WL.v (by exact r_field ty_fld149_0 rfl) rfl rfl rfl ?_
  -- R2.4 12 := resourcem.go:71 indexAddr
  refine WL.v (by exact r_indexA ty_ar45 rfl rfl rfl (by omega)) rfl rfl rfl ?_
  -- R2.5 13 := resourcem.go:71 load
  refine WL.v (by exact r_loadN (f := fun i => .int .i64 (held t i : Nat)) ty_agg44 rfl (fun i hi => by have := c_held (t := t) (r := i) st hm ht hi; rw [Nat.mul_one] at this; exact this)) rfl rfl rfl ?_
  -- R2.6 14 := resourcem.go:71 move
  refine WL.v (by first | exact r_move (v := .int _ _) rfl | exact r_move rfl) rfl rfl rfl ?_
  refine WL.fin hK79 (fun _ _ h => h) ?_
  refine WC.block ?_
  refine WC.loop (ι := Nat × Value × List HI) (fun y => [(5, y.2.1), (13, .agg (mkA 20 (fun i => .int .i64 (held t i : Nat)))), (14, .int .i64 (y.1 : Nat))])
    (fun y w' => y.1 ≤ 20 ∧ LO 77 1 iE y.2.1 ((List.range y.1).filter fun r => decide (0 < held t r)) y.2.2 ∧ S0 w0 (y.2.2 ++ l) w') (fun y => 20 - y.1) (0, .slice none 0 0, []) ⟨Nat.zero_le _, LO.nil, st⟩ ?_ ?_
  · skip
    repeat (first | exact sub_nil _ | refine sub_cons rfl rfl ?_)
  rintro ⟨i, v, XI⟩ w ⟨hi, ho, st⟩ K1 hK1
  dsimp only at hi ho st ⊢
  by_cases h20 : i = 20
  · subst h20
    refine WC.seq fun K80 hK80 => ?_
    -- region 3
    refine WC.region ?_
    -- R3.0 15 := resourcem.go:71 binOp
    refine WL.v (by first | exact r_lss rfl rfl (decide_eq_true (by omega)) | exact r_lss rfl rfl (decide_eq_false (by omega)) | exact r_lss rfl rfl rfl) rfl rfl rfl ?_
    refine WL.fin hK80 (fun _ _ h => h) ?_
    refine WC.seq fun K81 hK81 => ?_
    refine WC.condF rfl rfl ?_
    refine WC.exitF hK78 (fun _ _ h => h) ?_
    refine WC.seq fun K82 hK82 => ?_
    -- region 8
    refine WC.region ?_
    -- R8.0 25 := resourcem.go:76 move
    refine WL.v (by first | exact r_move (v := .slice _ _ _) rfl | exact r_move rfl) rfl rfl rfl ?_
    -- R8.1 4 := resourcem.go:76 assign
    refine WL.v (by first | exact r_assign (v := .slice _ _ _) rfl | exact r_assign rfl) rfl rfl rfl ?_
    refine WL.fin hK82 (fun _ _ h => h) ?_
    refine WC.ret1 Tryz.results102 (fun _ _ h => h) rfl ?_
    exact ⟨_, rfl, XI, ho, st⟩
  have hlen : ((List.range i).filter fun r => decide (0 < held t r)).length ≤ 20 := by have := List.length_filter_le (fun r => decide (0 < held t r)) (List.range i); rw [List.length_range] at this; omega
  have hA : (mkA 20 (fun i => Value.int .i64 (held t i : Nat)))[i]? = some (.int .i64 (held t i : Nat)) := by simp [mkA, show i < 20 by omega]
  by_cases hp : 0 < held t i
  · have e : ((List.range (i + 1)).filter fun r => decide (0 < held t r)) = ((List.range i).filter fun r => decide (0 < held t r)) ++ [i] := by rw [List.range_succ, List.filter_append]; simp [hp]
    refine WC.seq fun K83 hK83 => ?_
    -- region 3
    refine WC.region ?_
    -- R3.0 15 := resourcem.go:71 binOp
    refine WL.v (by first | exact r_lss rfl rfl (decide_eq_true (by omega)) | exact r_lss rfl rfl (decide_eq_false (by omega)) | exact r_lss rfl rfl rfl) rfl rfl rfl ?_
    refine WL.fin hK83 (fun _ _ h => h) ?_
    refine WC.seq fun K84 hK84 => ?_
    refine WC.condT rfl rfl ?_
    refine WC.skipF hK84 (fun _ _ h => h) ?_
    refine WC.seq fun K85 hK85 => ?_
    refine WC.block ?_
    refine WC.seq fun K86 hK86 => ?_
    -- region 4
    refine WC.region ?_
    -- R4.0 16 := resourcem.go:71 move
    refine WL.v (by first | exact r_move (v := .int _ _) rfl | exact r_move rfl) rfl rfl rfl ?_
    -- R4.1 17 := resourcem.go:71 index
    refine WL.v (by exact r_indexV (k := 0) (cs := mkA 20 (fun i => .int .i64 (held t i : Nat))) (v := .int .i64 (held t i : Nat)) ty_ar44 ty_one3 rfl rfl rfl (by omega) hA) rfl rfl rfl ?_
    -- R4.2 6 := resourcem.go:71 assign
    refine WL.v (by first | exact r_assign (v := .int _ _) rfl | exact r_assign rfl) rfl rfl rfl ?_
    -- R4.3 7 := resourcem.go:71 assign
    refine WL.v (by first | exact r_assign (v := .int _ _) rfl | exact r_assign rfl) rfl rfl rfl ?_
    refine WL.fin hK86 (fun _ _ h => h) ?_
    refine WC.seq fun K87 hK87 => ?_
    -- region 5
    refine WC.region ?_
    -- R5.0 18 := resourcem.go:72 move
    refine WL.v (by first | exact r_move (v := .int _ _) rfl | exact r_move rfl) rfl rfl rfl ?_
    -- R5.1 19 := resourcem.go:72 binOp
    refine WL.v (by first | exact r_gtr rfl rfl (decide_eq_true (by omega)) | exact r_gtr rfl rfl (decide_eq_false (by omega)) | exact r_gtr rfl rfl rfl) rfl rfl rfl ?_
    refine WL.fin hK87 (fun _ _ h => h) ?_
    refine WC.condT rfl rfl ?_
    -- region 6
    refine WC.region ?_
    -- R6.0 20 := resourcem.go:73 move
    refine WL.v (by first | exact r_move (v := .slice _ _ _) rfl | exact r_move rfl) rfl rfl rfl ?_
    -- R6.1 21 := resourcem.go:73 move
    refine WL.v (by first | exact r_move (v := .int _ _) rfl | exact r_move rfl) rfl rfl rfl ?_
    -- R6.2 22 := resourcem.go:73 buildSlice
    first | refine WL.mkslice (m := 1) (vs := [.int _ _]) st ty_sl152 ty_zero77 rfl rfl rfl rfl rfl rfl ?_ | refine WL.mkslice (m := 1) (vs := [_]) st ty_sl152 ty_zero77 rfl rfl rfl rfl rfl rfl ?_ | refine WL.mkslice st ty_sl152 ty_zero77 rfl rfl rfl rfl rfl rfl ?_
    intro b22 w st
    -- R6.3 23 := resourcem.go:73 call
    refine WL.appL (bx := b22) (ox := 0) (a := i) ho (st.perm (List.perm_append_comm_assoc [_] XI l)) ty_mk152 ty_zero77 rfl (by decide) rfl rfl (c_one st rfl) (fun _ _ => rfl) (by omega) (by omega) rfl rfl rfl ?_
    intro v' XI' w ho st
    have st := (st.perm (List.perm_append_comm_assoc XI' [_] l)).drop
    -- R6.4 5 := resourcem.go:73 assign
    refine WL.v (by first | exact r_assign (v := .slice _ _ _) rfl | exact r_assign rfl) rfl rfl rfl ?_
    refine WL.fin hK85 (fun _ _ h => h) ?_
    -- region 7
    refine WC.region ?_
    -- R7.0 24 := resourcem.go:71 binOp
    refine WL.v (by first | exact r_add rfl rfl (wi64 (by omega) (by omega)) | exact r_add rfl rfl rfl) rfl rfl rfl ?_
    -- R7.1 14 := resourcem.go:71 move
    refine WL.v (by first | exact r_move (v := .int _ _) rfl | exact r_move rfl) rfl rfl rfl ?_
    refine WL.next hK1 (fun _ _ h => h) (i + 1, v', XI') ⟨by omega, by rw [e]; exact ho, st⟩ (by show 20 - (i + 1) < 20 - i; omega) (by repeat (first | exact sub_nil _ | refine sub_cons rfl rfl ?_))
  · have e : ((List.range (i + 1)).filter fun r => decide (0 < held t r)) = ((List.range i).filter fun r => decide (0 < held t r)) := by rw [List.range_succ, List.filter_append]; simp [hp]
    refine WC.seq fun K88 hK88 => ?_
    -- region 3
    refine WC.region ?_
    -- R3.0 15 := resourcem.go:71 binOp
    refine WL.v (by first | exact r_lss rfl rfl (decide_eq_true (by omega)) | exact r_lss rfl rfl (decide_eq_false (by omega)) | exact r_lss rfl rfl rfl) rfl rfl rfl ?_
    refine WL.fin hK88 (fun _ _ h => h) ?_
    refine WC.seq fun K89 hK89 => ?_
    refine WC.condT rfl rfl ?_
    refine WC.skipF hK89 (fun _ _ h => h) ?_
    refine WC.seq fun K90 hK90 => ?_
    refine WC.block ?_
    refine WC.seq fun K91 hK91 => ?_
    -- region 4
    refine WC.region ?_
    -- R4.0 16 := resourcem.go:71 move
    refine WL.v (by first | exact r_move (v := .int _ _) rfl | exact r_move rfl) rfl rfl rfl ?_
    -- R4.1 17 := resourcem.go:71 index
    refine WL.v (by exact r_indexV (k := 0) (cs := mkA 20 (fun i => .int .i64 (held t i : Nat))) (v := .int .i64 (held t i : Nat)) ty_ar44 ty_one3 rfl rfl rfl (by omega) hA) rfl rfl rfl ?_
    -- R4.2 6 := resourcem.go:71 assign
    refine WL.v (by first | exact r_assign (v := .int _ _) rfl | exact r_assign rfl) rfl rfl rfl ?_
    -- R4.3 7 := resourcem.go:71 assign
    refine WL.v (by first | exact r_assign (v := .int _ _) rfl | exact r_assign rfl) rfl rfl rfl ?_
    refine WL.fin hK91 (fun _ _ h => h) ?_
    refine WC.seq fun K92 hK92 => ?_
    -- region 5
    refine WC.region ?_
    -- R5.0 18 := resourcem.go:72 move
    refine WL.v (by first | exact r_move (v := .int _ _) rfl | exact r_move rfl) rfl rfl rfl ?_
    -- R5.1 19 := resourcem.go:72 binOp
    refine WL.v (by first | exact r_gtr rfl rfl (decide_eq_true (by omega)) | exact r_gtr rfl rfl (decide_eq_false (by omega)) | exact r_gtr rfl rfl rfl) rfl rfl rfl ?_
    refine WL.fin hK92 (fun _ _ h => h) ?_
    refine WC.condF rfl rfl ?_
    refine WC.skipF hK90 (fun _ _ h => h) ?_
    -- region 7
    refine WC.region ?_
    -- R7.0 24 := resourcem.go:71 binOp
    refine WL.v (by first | exact r_add rfl rfl (wi64 (by omega) (by omega)) | exact r_add rfl rfl rfl) rfl rfl rfl ?_
    -- R7.1 14 := resourcem.go:71 move
    refine WL.v (by first | exact r_move (v := .int _ _) rfl | exact r_move rfl) rfl rfl rfl ?_
    refine WL.next hK1 (fun _ _ h => h) (i + 1, v, XI) ⟨by omega, by rw [e]; exact ho, st⟩ (by show 20 - (i + 1) < 20 - i; omega) (by repeat (first | exact sub_nil _ | refine sub_cons rfl rfl ?_))

theorem queued_ok (hr : r < 20) (hm : rI br held qv ∈ l) (hq : QL0 (qv r) Q X) (hX : X ⊆ l) (hQ : ∀ p, p ∈ Q → p.1 < 16) (st : S0 w0 l w) :
    Calls Tryz.prog 135 #[.pointer (some ⟨br, 0, none⟩), .int .i64 (r : Nat)] w (Ret fun u w' => u = .int .u16 (queuedP Q : Nat) ∧ S0 w0 l w') := by
  obtain ⟨a, c, b, hv, hc1, hc2, ha, hcell⟩ := hq.form
  refine enter [.pointer (some ⟨br, 0, none⟩), .int .i64 (r : Nat)] Tryz.func135 rfl Tryz.ntmps135 rfl ?_
  show WC _ _ _ 26 [] [(0, .pointer (some ⟨br, 0, none⟩)), (1, .int .i64 (r : Nat))] _
  refine WC.seq fun K93 hK93 => ?_
  -- region 0
  refine WC.region ?_
  -- R0.0 4 := resourcem.go:83 assign
  refine WL.v (by first | exact r_assign (v := .int _ _) rfl | exact r_assign rfl) rfl rfl rfl ?_
  refine WL.fin hK93 (fun _ _ h => h) ?_
  refine WC.seq fun K94 hK94 => ?_
  -- region 1
  refine WC.region ?_
  -- R1.0 5 := resourcem.go:84 assign
  refine WL.v (by first | exact r_assign (v := .int _ _) rfl | exact r_assign rfl) rfl rfl rfl ?_
  refine WL.fin hK94 (fun _ _ h => h) ?_
  refine WC.seq fun K95 hK95 => ?_
  refine WC.seq fun K96 hK96 => ?_
  -- region 2
  refine WC.region ?_
  -- R2.0 8 := resourcem.go:85 move
  refine WL.v (by first | exact r_move (v := .pointer _) rfl | exact r_move rfl) rfl rfl rfl ?_
  -- R2.1 9 := resourcem.go:85 move
  refine WL.v (by first | exact r_move (v := .int _ _) rfl | exact r_move rfl) rfl rfl rfl ?_
  -- R2.2 10 := resourcem.go:85 nilCheck
  refine WL.v (by exact r_nilCheck rfl) rfl rfl rfl ?_
  -- R2.3 11 := resourcem.go:85 fieldAddr
  refine WL.v (by exact r_field ty_fld149_1 rfl) rfl rfl rfl ?_
  -- R2.4 12 := resourcem.go:85 indexAddr
  refine WL.v (by exact r_indexA ty_ar47 rfl rfl rfl (by omega)) rfl rfl rfl ?_
  -- R2.5 13 := resourcem.go:85 load
  refine WL.v (by exact r_load1 (v := .slice a Q.length c) ty_one46 rfl (by rw [c_queue st hm hr, hv])) rfl rfl rfl ?_
  -- R2.6 14 := resourcem.go:85 call
  refine WL.v (by exact r_len ty_usl46 rfl) rfl rfl rfl ?_
  -- R2.7 15 := resourcem.go:85 move
  refine WL.v (by first | exact r_move (v := .int _ _) rfl | exact r_move rfl) rfl rfl rfl ?_
  refine WL.fin hK96 (fun _ _ h => h) ?_
  refine WC.block ?_
  refine WC.loop (ι := Nat) (fun i => [(5, .int .u16 (queuedP (Q.take i) : Nat)), (13, .slice a Q.length c), (14, .int .i64 (Q.length : Nat)), (15, .int .i64 (i : Nat))])
    (fun i w' => i ≤ Q.length ∧ S0 w0 l w') (fun i => Q.length - i) 0 ⟨Nat.zero_le _, st⟩ ?_ ?_
  · skip
    repeat (first | exact sub_nil _ | refine sub_cons rfl rfl ?_)
  rintro i w ⟨hi, st⟩ K1 hK1
  by_cases hl : i = Q.length
  · subst hl
    refine WC.seq fun K97 hK97 => ?_
    -- region 3
    refine WC.region ?_
    -- R3.0 16 := resourcem.go:85 binOp
    refine WL.v (by first | exact r_lss rfl rfl (decide_eq_true (by omega)) | exact r_lss rfl rfl (decide_eq_false (by omega)) | exact r_lss rfl rfl rfl) rfl rfl rfl ?_
    refine WL.fin hK97 (fun _ _ h => h) ?_
    refine WC.seq fun K98 hK98 => ?_
    refine WC.condF rfl rfl ?_
    refine WC.exitF hK95 (fun _ _ h => h) ?_
    refine WC.seq fun K99 hK99 => ?_
    -- region 7
    refine WC.region ?_
    -- R7.0 25 := resourcem.go:88 move
    refine WL.v (by first | exact r_move (v := .int _ _) rfl | exact r_move rfl) rfl rfl rfl ?_
    -- R7.1 4 := resourcem.go:88 assign
    refine WL.v (by first | exact r_assign (v := .int _ _) rfl | exact r_assign rfl) rfl rfl rfl ?_
    refine WL.fin hK99 (fun _ _ h => h) ?_
    refine WC.ret1 Tryz.results135 (fun _ _ h => h) rfl ?_
    exact ⟨_, rfl, by rw [List.take_length]; rfl, st⟩
  have hil : i < Q.length := by omega
  obtain ⟨q, hqi⟩ : ∃ q, Q[i]? = some q := ⟨Q[i], List.getElem?_eq_getElem hil⟩
  have hqm : q ∈ Q := List.mem_of_getElem? hqi
  have e : queuedP (Q.take (i + 1)) = queuedP (Q.take i) ||| 2 ^ q.1 := by
    unfold queuedP queuedF
    rw [List.take_add_one, hqi, List.foldl_append]; rfl
  have hlt : queuedP (Q.take i) < 65536 := queuedP_lt fun p hp => hQ p (List.mem_of_mem_take hp)
  have hce := fun j hj => hcell st hX i q hqi j hj
  obtain rfl := ha (by omega)
  refine WC.seq fun K100 hK100 => ?_
  -- region 3
  refine WC.region ?_
  -- R3.0 16 := resourcem.go:85 binOp
  refine WL.v (by first | exact r_lss rfl rfl (decide_eq_true (by omega)) | exact r_lss rfl rfl (decide_eq_false (by omega)) | exact r_lss rfl rfl rfl) rfl rfl rfl ?_
  refine WL.fin hK100 (fun _ _ h => h) ?_
  refine WC.seq fun K101 hK101 => ?_
  refine WC.condT rfl rfl ?_
  refine WC.skipF hK101 (fun _ _ h => h) ?_
  refine WC.seq fun K102 hK102 => ?_
  refine WC.block ?_
  refine WC.seq fun K103 hK103 => ?_
  -- region 4
  refine WC.region ?_
  -- R4.0 17 := resourcem.go:85 indexAddr
  refine WL.v (by exact r_indexS (j := i) ty_sl46 rfl rfl rfl (by omega)) rfl rfl rfl ?_
  -- R4.1 18 := resourcem.go:85 load
  refine WL.v (by exact r_loadL (vs := [.int .i64 (q.1 : Nat), .int .i64 (q.2 : Nat)]) ty_agg61 rfl ⟨by rw [Nat.zero_add]; exact hce 0 (by decide), by rw [Nat.zero_add]; exact hce 1 (by decide), trivial⟩) rfl rfl rfl ?_
  -- R4.2 7 := resourcem.go:85 alloc
  refine WL.alloc (m := 2) st ty_zero61 rfl rfl rfl ?_
  intro b7 w st
  -- R4.3 None := resourcem.go:85 store
  first | refine WL.storeW (vs := [_, _]) st ty_agg61 rfl rfl rfl rfl rfl rfl ?_ | refine WL.storeL (vs := [_, _]) st ty_agg61 rfl rfl rfl rfl (by first | decide | omega) rfl rfl ?_ | refine WL.storeW (vs := [_, _]) st.front1 ty_agg61 rfl rfl rfl rfl rfl rfl ?_ | refine WL.storeL (vs := [_, _]) st.front1 ty_agg61 rfl rfl rfl rfl (by first | decide | omega) rfl rfl ?_ | refine WL.storeW (vs := [_, _]) st.front2 ty_agg61 rfl rfl rfl rfl rfl rfl ?_ | refine WL.storeL (vs := [_, _]) st.front2 ty_agg61 rfl rfl rfl rfl (by first | decide | omega) rfl rfl ?_ | refine WL.storeW (vs := [_, _]) st.front3 ty_agg61 rfl rfl rfl rfl rfl rfl ?_ | refine WL.storeL (vs := [_, _]) st.front3 ty_agg61 rfl rfl rfl rfl (by first | decide | omega) rfl rfl ?_ | refine WL.storeW (vs := [_, _]) st.front4 ty_agg61 rfl rfl rfl rfl rfl rfl ?_ | refine WL.storeL (vs := [_, _]) st.front4 ty_agg61 rfl rfl rfl rfl (by first | decide | omega) rfl rfl ?_ | refine WL.storeW (vs := [_, _]) st.front5 ty_agg61 rfl rfl rfl rfl rfl rfl ?_ | refine WL.storeL (vs := [_, _]) st.front5 ty_agg61 rfl rfl rfl rfl (by first | decide | omega) rfl rfl ?_ | refine WL.storeW (vs := [_, _]) st.front6 ty_agg61 rfl rfl rfl rfl rfl rfl ?_ | refine WL.storeL (vs := [_, _]) st.front6 ty_agg61 rfl rfl rfl rfl (by first | decide | omega) rfl rfl ?_ | refine WL.storeW (vs := [_, _]) st.front7 ty_agg61 rfl rfl rfl rfl rfl rfl ?_ | refine WL.storeL (vs := [_, _]) st.front7 ty_agg61 rfl rfl rfl rfl (by first | decide | omega) rfl rfl ?_ | refine WL.storeW (vs := [_, _]) st.front8 ty_agg61 rfl rfl rfl rfl rfl rfl ?_ | refine WL.storeL (vs := [_, _]) st.front8 ty_agg61 rfl rfl rfl rfl (by first | decide | omega) rfl rfl ?_
  intro w st
  refine WL.fin hK103 (fun _ _ h => h) ?_
  -- region 5
  refine WC.region ?_
  -- R5.0 19 := resourcem.go:86 move
  refine WL.v (by first | exact r_move (v := .int _ _) rfl | exact r_move rfl) rfl rfl rfl ?_
  -- R5.1 20 := resourcem.go:86 fieldAddr
  refine WL.v (by exact r_field ty_fld61_0 rfl) rfl rfl rfl ?_
  -- R5.2 21 := resourcem.go:86 load
  refine WL.v (by exact r_load1 ty_one31 rfl (by first | assumption | exact st.c0 (by first | decide | omega) | exact st.c1 (by first | decide | omega) | exact st.c2 (by first | decide | omega) | exact st.c3 (by first | decide | omega) | exact st.c4 (by first | decide | omega) | exact st.c5 (by first | decide | omega) | exact st.c6 (by first | decide | omega) | exact st.c7 (by first | decide | omega) | exact st.c8 (by first | decide | omega))) rfl rfl rfl ?_
  -- R5.3 22 := resourcem.go:86 call
  refine WL.call (r_call ty_call30 rfl) rfl rfl rfl (bit_ok (t := q.1) (hQ q hqm) st) ?_
  rintro _ w ⟨rfl, st⟩
  -- R5.4 23 := resourcem.go:86 binOp
  refine WL.v (by exact r_or (r := ((queuedP (Q.take (i + 1)) : Nat) : Int)) rfl rfl (by rw [or16 hlt (pow16 (hQ q hqm)), e])) rfl rfl rfl ?_
  -- R5.5 5 := resourcem.go:86 assign
  refine WL.v (by first | exact r_assign (v := .int _ _) rfl | exact r_assign rfl) rfl rfl rfl ?_
  refine WL.fin hK102 (fun _ _ h => h) ?_
  -- region 6
  refine WC.region ?_
  -- R6.0 24 := resourcem.go:85 binOp
  refine WL.v (by first | exact r_add rfl rfl (wi64 (by omega) (by omega)) | exact r_add rfl rfl rfl) rfl rfl rfl ?_
  -- R6.1 15 := resourcem.go:85 move
  refine WL.v (by first | exact r_move (v := .int _ _) rfl | exact r_move rfl) rfl rfl rfl ?_
  refine WL.next hK1 (fun _ _ h => h) (i + 1) ⟨by omega, st.drop⟩ (by omega) (by repeat (first | exact sub_nil _ | refine sub_cons rfl rfl ?_))

def headP (Q : List (Nat × Nat)) : Nat × Nat := Q.headD (0, 0)
theorem head_ok (hr : r < 20) (hm : rI br held qv ∈ l) (hq : QL0 (qv r) Q X) (hX : X ⊆ l) (st : S0 w0 l w) :
    Calls Tryz.prog 139 #[.pointer (some ⟨br, 0, none⟩), .int .i64 (r : Nat)] w (Ret fun u w' => u = .tuple #[.agg #[.int .i64 ((headP Q).1 : Nat), .int .i64 ((headP Q).2 : Nat)], .bool (!Q.isEmpty)] ∧ S0 w0 l w') := by
  obtain ⟨a, c, b, hv, hc1, hc2, ha, hcell⟩ := hq.form
  cases Q with
  | nil =>
    refine enter [.pointer (some ⟨br, 0, none⟩), .int .i64 (r : Nat)] Tryz.func139 rfl Tryz.ntmps139 rfl ?_
    show WC _ _ _ 23 [] [(0, .pointer (some ⟨br, 0, none⟩)), (1, .int .i64 (r : Nat))] _
    refine WC.seq fun K104 hK104 => ?_
    -- region 0
    refine WC.region ?_
    -- R0.0 4 := resourcem.go:112 alloc
    refine WL.alloc (m := 2) st ty_zero61 rfl rfl rfl ?_
    intro b4 w st
    -- R0.1 5 := resourcem.go:112 assign
    refine WL.v (by first | exact r_assign (v := .bool _) rfl | exact r_assign rfl) rfl rfl rfl ?_
    refine WL.fin hK104 (fun _ _ h => h) ?_
    refine WC.seq fun K105 hK105 => ?_
    refine WC.seq fun K106 hK106 => ?_
    -- region 1
    refine WC.region ?_
    -- R1.0 6 := resourcem.go:113 move
    refine WL.v (by first | exact r_move (v := .pointer _) rfl | exact r_move rfl) rfl rfl rfl ?_
    -- R1.1 7 := resourcem.go:113 move
    refine WL.v (by first | exact r_move (v := .int _ _) rfl | exact r_move rfl) rfl rfl rfl ?_
    -- R1.2 8 := resourcem.go:113 nilCheck
    refine WL.v (by exact r_nilCheck rfl) rfl rfl rfl ?_
    -- R1.3 9 := resourcem.go:113 fieldAddr
    refine WL.v (by exact r_field ty_fld149_1 rfl) rfl rfl rfl ?_
    -- R1.4 10 := resourcem.go:113 indexAddr
    refine WL.v (by exact r_indexA ty_ar47 rfl rfl rfl (by omega)) rfl rfl rfl ?_
    -- R1.5 11 := resourcem.go:113 load
    refine WL.v (by exact r_load1 (v := .slice a 0 c) ty_one46 rfl (by rw [c_queue st.drop hm hr, hv]; rfl)) rfl rfl rfl ?_
    -- R1.6 12 := resourcem.go:113 call
    refine WL.v (by exact r_len ty_usl46 rfl) rfl rfl rfl ?_
    -- R1.7 13 := resourcem.go:113 binOp
    refine WL.v (by exact r_eql rfl rfl (decide_eq_true (by rfl))) rfl rfl rfl ?_
    refine WL.fin hK106 (fun _ _ h => h) ?_
    refine WC.condT rfl rfl ?_
    refine WC.seq fun K107 hK107 => ?_
    -- region 2
    refine WC.region ?_
    -- R2.0 14 := resourcem.go:114 build
    refine WL.v (by exact r_build (ps := []) (vs := [_, _]) ty_pl61 ty_zero61 rfl (fill_nil)) rfl rfl rfl ?_
    -- R2.1 None := resourcem.go:114 store
    first | refine WL.storeW (vs := [_, _]) st ty_agg61 rfl rfl rfl rfl rfl rfl ?_ | refine WL.storeL (vs := [_, _]) st ty_agg61 rfl rfl rfl rfl (by first | decide | omega) rfl rfl ?_ | refine WL.storeW (vs := [_, _]) st.front1 ty_agg61 rfl rfl rfl rfl rfl rfl ?_ | refine WL.storeL (vs := [_, _]) st.front1 ty_agg61 rfl rfl rfl rfl (by first | decide | omega) rfl rfl ?_ | refine WL.storeW (vs := [_, _]) st.front2 ty_agg61 rfl rfl rfl rfl rfl rfl ?_ | refine WL.storeL (vs := [_, _]) st.front2 ty_agg61 rfl rfl rfl rfl (by first | decide | omega) rfl rfl ?_ | refine WL.storeW (vs := [_, _]) st.front3 ty_agg61 rfl rfl rfl rfl rfl rfl ?_ | refine WL.storeL (vs := [_, _]) st.front3 ty_agg61 rfl rfl rfl rfl (by first | decide | omega) rfl rfl ?_ | refine WL.storeW (vs := [_, _]) st.front4 ty_agg61 rfl rfl rfl rfl rfl rfl ?_ | refine WL.storeL (vs := [_, _]) st.front4 ty_agg61 rfl rfl rfl rfl (by first | decide | omega) rfl rfl ?_ | refine WL.storeW (vs := [_, _]) st.front5 ty_agg61 rfl rfl rfl rfl rfl rfl ?_ | refine WL.storeL (vs := [_, _]) st.front5 ty_agg61 rfl rfl rfl rfl (by first | decide | omega) rfl rfl ?_ | refine WL.storeW (vs := [_, _]) st.front6 ty_agg61 rfl rfl rfl rfl rfl rfl ?_ | refine WL.storeL (vs := [_, _]) st.front6 ty_agg61 rfl rfl rfl rfl (by first | decide | omega) rfl rfl ?_ | refine WL.storeW (vs := [_, _]) st.front7 ty_agg61 rfl rfl rfl rfl rfl rfl ?_ | refine WL.storeL (vs := [_, _]) st.front7 ty_agg61 rfl rfl rfl rfl (by first | decide | omega) rfl rfl ?_ | refine WL.storeW (vs := [_, _]) st.front8 ty_agg61 rfl rfl rfl rfl rfl rfl ?_ | refine WL.storeL (vs := [_, _]) st.front8 ty_agg61 rfl rfl rfl rfl (by first | decide | omega) rfl rfl ?_
    intro w st
    -- R2.2 5 := resourcem.go:114 assign
    refine WL.v (by first | exact r_assign (v := .bool _) rfl | exact r_assign rfl) rfl rfl rfl ?_
    refine WL.fin hK107 (fun _ _ h => h) ?_
    refine WC.retCT (vs := [_, _]) Tryz.results139 (fun _ _ h => h) rfl ty_agg61 rfl ⟨(by first | assumption | exact st.c0 (by first | decide | omega) | exact st.c1 (by first | decide | omega) | exact st.c2 (by first | decide | omega) | exact st.c3 (by first | decide | omega) | exact st.c4 (by first | decide | omega) | exact st.c5 (by first | decide | omega) | exact st.c6 (by first | decide | omega) | exact st.c7 (by first | decide | omega) | exact st.c8 (by first | decide | omega)), (by first | assumption | exact st.c0 (by first | decide | omega) | exact st.c1 (by first | decide | omega) | exact st.c2 (by first | decide | omega) | exact st.c3 (by first | decide | omega) | exact st.c4 (by first | decide | omega) | exact st.c5 (by first | decide | omega) | exact st.c6 (by first | decide | omega) | exact st.c7 (by first | decide | omega) | exact st.c8 (by first | decide | omega)), trivial⟩ ?_
    exact ⟨_, rfl, rfl, st.drop⟩
  | cons q Q =>
    obtain rfl := ha (by rw [List.length_cons]; omega)
    refine enter [.pointer (some ⟨br, 0, none⟩), .int .i64 (r : Nat)] Tryz.func139 rfl Tryz.ntmps139 rfl ?_
    show WC _ _ _ 23 [] [(0, .pointer (some ⟨br, 0, none⟩)), (1, .int .i64 (r : Nat))] _
    refine WC.seq fun K108 hK108 => ?_
    -- region 0
    refine WC.region ?_
    -- R0.0 4 := resourcem.go:112 alloc
    refine WL.alloc (m := 2) st ty_zero61 rfl rfl rfl ?_
    intro b4 w st
    -- R0.1 5 := resourcem.go:112 assign
    refine WL.v (by first | exact r_assign (v := .bool _) rfl | exact r_assign rfl) rfl rfl rfl ?_
    refine WL.fin hK108 (fun _ _ h => h) ?_
    refine WC.seq fun K109 hK109 => ?_
    refine WC.seq fun K110 hK110 => ?_
    -- region 1
    refine WC.region ?_
    -- R1.0 6 := resourcem.go:113 move
    refine WL.v (by first | exact r_move (v := .pointer _) rfl | exact r_move rfl) rfl rfl rfl ?_
    -- R1.1 7 := resourcem.go:113 move
    refine WL.v (by first | exact r_move (v := .int _ _) rfl | exact r_move rfl) rfl rfl rfl ?_
    -- R1.2 8 := resourcem.go:113 nilCheck
    refine WL.v (by exact r_nilCheck rfl) rfl rfl rfl ?_
    -- R1.3 9 := resourcem.go:113 fieldAddr
    refine WL.v (by exact r_field ty_fld149_1 rfl) rfl rfl rfl ?_
    -- R1.4 10 := resourcem.go:113 indexAddr
    refine WL.v (by exact r_indexA ty_ar47 rfl rfl rfl (by omega)) rfl rfl rfl ?_
    -- R1.5 11 := resourcem.go:113 load
    refine WL.v (by exact r_load1 (v := .slice (some ⟨b, 0, none⟩) (Q.length + 1) c) ty_one46 rfl (by rw [c_queue st.drop hm hr, hv]; rfl)) rfl rfl rfl ?_
    -- R1.6 12 := resourcem.go:113 call
    refine WL.v (by exact r_len ty_usl46 rfl) rfl rfl rfl ?_
    -- R1.7 13 := resourcem.go:113 binOp
    refine WL.v (by exact r_eql rfl rfl (decide_eq_false (by omega))) rfl rfl rfl ?_
    refine WL.fin hK110 (fun _ _ h => h) ?_
    refine WC.condF rfl rfl ?_
    refine WC.skipF hK109 (fun _ _ h => h) ?_
    refine WC.seq fun K111 hK111 => ?_
    -- region 3
    refine WC.region ?_
    -- R3.0 15 := resourcem.go:116 move
    refine WL.v (by first | exact r_move (v := .pointer _) rfl | exact r_move rfl) rfl rfl rfl ?_
    -- R3.1 16 := resourcem.go:116 move
    refine WL.v (by first | exact r_move (v := .int _ _) rfl | exact r_move rfl) rfl rfl rfl ?_
    -- R3.2 17 := resourcem.go:116 nilCheck
    refine WL.v (by exact r_nilCheck rfl) rfl rfl rfl ?_
    -- R3.3 18 := resourcem.go:116 fieldAddr
    refine WL.v (by exact r_field ty_fld149_1 rfl) rfl rfl rfl ?_
    -- R3.4 19 := resourcem.go:116 indexAddr
    refine WL.v (by exact r_indexA ty_ar47 rfl rfl rfl (by omega)) rfl rfl rfl ?_
    -- R3.5 20 := resourcem.go:116 load
    refine WL.v (by exact r_load1 (v := .slice (some ⟨b, 0, none⟩) (Q.length + 1) c) ty_one46 rfl (by rw [c_queue st.drop hm hr, hv]; rfl)) rfl rfl rfl ?_
    -- R3.6 21 := resourcem.go:116 indexAddr
    refine WL.v (by exact r_indexS (j := 0) ty_sl46 rfl rfl rfl (by omega)) rfl rfl rfl ?_
    -- R3.7 22 := resourcem.go:116 load
    refine WL.v (by exact r_loadL (vs := [.int .i64 (q.1 : Nat), .int .i64 (q.2 : Nat)]) ty_agg61 rfl ⟨hcell st.drop hX 0 q rfl 0 (by decide), hcell st.drop hX 0 q rfl 1 (by decide), trivial⟩) rfl rfl rfl ?_
    -- R3.8 None := resourcem.go:116 store
    first | refine WL.storeW (vs := [_, _]) st ty_agg61 rfl rfl rfl rfl rfl rfl ?_ | refine WL.storeL (vs := [_, _]) st ty_agg61 rfl rfl rfl rfl (by first | decide | omega) rfl rfl ?_ | refine WL.storeW (vs := [_, _]) st.front1 ty_agg61 rfl rfl rfl rfl rfl rfl ?_ | refine WL.storeL (vs := [_, _]) st.front1 ty_agg61 rfl rfl rfl rfl (by first | decide | omega) rfl rfl ?_ | refine WL.storeW (vs := [_, _]) st.front2 ty_agg61 rfl rfl rfl rfl rfl rfl ?_ | refine WL.storeL (vs := [_, _]) st.front2 ty_agg61 rfl rfl rfl rfl (by first | decide | omega) rfl rfl ?_ | refine WL.storeW (vs := [_, _]) st.front3 ty_agg61 rfl rfl rfl rfl rfl rfl ?_ | refine WL.storeL (vs := [_, _]) st.front3 ty_agg61 rfl rfl rfl rfl (by first | decide | omega) rfl rfl ?_ | refine WL.storeW (vs := [_, _]) st.front4 ty_agg61 rfl rfl rfl rfl rfl rfl ?_ | refine WL.storeL (vs := [_, _]) st.front4 ty_agg61 rfl rfl rfl rfl (by first | decide | omega) rfl rfl ?_ | refine WL.storeW (vs := [_, _]) st.front5 ty_agg61 rfl rfl rfl rfl rfl rfl ?_ | refine WL.storeL (vs := [_, _]) st.front5 ty_agg61 rfl rfl rfl rfl (by first | decide | omega) rfl rfl ?_ | refine WL.storeW (vs := [_, _]) st.front6 ty_agg61 rfl rfl rfl rfl rfl rfl ?_ | refine WL.storeL (vs := [_, _]) st.front6 ty_agg61 rfl rfl rfl rfl (by first | decide | omega) rfl rfl ?_ | refine WL.storeW (vs := [_, _]) st.front7 ty_agg61 rfl rfl rfl rfl rfl rfl ?_ | refine WL.storeL (vs := [_, _]) st.front7 ty_agg61 rfl rfl rfl rfl (by first | decide | omega) rfl rfl ?_ | refine WL.storeW (vs := [_, _]) st.front8 ty_agg61 rfl rfl rfl rfl rfl rfl ?_ | refine WL.storeL (vs := [_, _]) st.front8 ty_agg61 rfl rfl rfl rfl (by first | decide | omega) rfl rfl ?_
    intro w st
    -- R3.9 5 := resourcem.go:116 assign
    refine WL.v (by first | exact r_assign (v := .bool _) rfl | exact r_assign rfl) rfl rfl rfl ?_
    refine WL.fin hK111 (fun _ _ h => h) ?_
    refine WC.retCT (vs := [_, _]) Tryz.results139 (fun _ _ h => h) rfl ty_agg61 rfl ⟨(by first | assumption | exact st.c0 (by first | decide | omega) | exact st.c1 (by first | decide | omega) | exact st.c2 (by first | decide | omega) | exact st.c3 (by first | decide | omega) | exact st.c4 (by first | decide | omega) | exact st.c5 (by first | decide | omega) | exact st.c6 (by first | decide | omega) | exact st.c7 (by first | decide | omega) | exact st.c8 (by first | decide | omega)), (by first | assumption | exact st.c0 (by first | decide | omega) | exact st.c1 (by first | decide | omega) | exact st.c2 (by first | decide | omega) | exact st.c3 (by first | decide | omega) | exact st.c4 (by first | decide | omega) | exact st.c5 (by first | decide | omega) | exact st.c6 (by first | decide | omega) | exact st.c7 (by first | decide | omega) | exact st.c8 (by first | decide | omega)), trivial⟩ ?_
    exact ⟨_, rfl, rfl, st.drop⟩
end Go.Proofs.Qxb6500834aGreatDoor

