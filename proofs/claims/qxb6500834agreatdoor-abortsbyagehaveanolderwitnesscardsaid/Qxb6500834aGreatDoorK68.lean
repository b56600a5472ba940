import Derived.Test.Qxb6500834aGreatDoorK67
import Derived.Test.Qxb6500834aGreatDoorE36
import Derived.Test.Qxb6500834aGreatDoorK42
set_option linter.unusedVariables false
set_option linter.unusedSimpArgs false
set_option maxRecDepth 20000
namespace Go.Proofs.Qxb6500834aGreatDoor
open Go.RowKit Go.E1 Go.Kern
theorem ty_call39 : callT Tryz.prog 39 = true := by kernel_rfl
theorem ty_call68 : callT Tryz.prog 68 = true := by kernel_rfl
theorem ty_kb38 : Go.E1.KB Tryz.prog 38 (keyGood Tryz.prog 38) := Go.E1.KB.of_keyed (Maps.int_keyed Tryz.underlying38)
theorem ty_mp95 : mpT Tryz.prog 95 = some (38, 4) := by kernel_rfl
theorem ty_z14 : zero1 Tryz.prog 4 = some (.bool false) := by kernel_rfl
variable {w0 : World} {l X : List HI} {w : World} {s s' s0 : KS} {t r N n : Nat} {qv qv' : Nat → Value}
variable {held claim : Nat → Nat → Nat} {a b : Nat → Bool} {φ ψ : (Nat → Bool) → Nat → Prop}

/-! Matrices in memory. -/
structure MatAt (l : List HI) (b off : Nat) (M : Nat → Nat → Nat) : Prop where
  e : ∃ T n f, (b, Row T n f) ∈ l ∧ ∀ t r, t < 16 → r < 20 → off + t * 20 + r < n ∧ f (off + t * 20 + r) = .int .i64 (M t r : Nat)
theorem MatAt.cell {b off x : Nat} {M : Nat → Nat → Nat} (h : MatAt l b off M) (ht : t < 16) (hr : r < 20) (hx : x = off + t * 20 + r) (st : S0 w0 l w) : w.cell? ⟨b, x, none⟩ = some (.int .i64 (M t r : Nat)) := by
  obtain ⟨T, n, f, hm, hf⟩ := h.e
  obtain ⟨h1, h2⟩ := hf t r ht hr
  subst hx
  rw [st.cell hm h1, h2]
theorem MatAt.mono {b off : Nat} {M : Nat → Nat → Nat} {l' : List HI} (h : MatAt l b off M) (hl : l ⊆ l') : MatAt l' b off M := let ⟨T, n, f, hm, hf⟩ := h.e; ⟨T, n, f, hl hm, hf⟩
theorem matH {b : Nat} (hm : sI b s qv ∈ l) : MatAt l b (0 + 99) s.held := ⟨_, _, _, hm, fun t r ht hr => ⟨by omega, by rw [show 0 + 99 + t * 20 + r = 99 + (t * 20 + r) by omega, sF_h (by omega)]; unfold hM; rw [show (t * 20 + r) / 20 = t by omega, show (t * 20 + r) % 20 = r by omega]⟩⟩
theorem matC {b : Nat} (hm : sI b s qv ∈ l) : MatAt l b (0 + 419) s.claim := ⟨_, _, _, hm, fun t r ht hr => ⟨by omega, by rw [show 0 + 419 + t * 20 + r = 419 + (t * 20 + r) by omega, sF_c (by omega)]; unfold hM; rw [show (t * 20 + r) / 20 = t by omega, show (t * 20 + r) % 20 = r by omega]⟩⟩
theorem matM {b T : Nat} {M : Nat → Nat → Nat} (hm : (b, Row T 320 (hM M)) ∈ l) : MatAt l b 0 M := ⟨_, _, _, hm, fun t r ht hr => ⟨by omega, by unfold hM; rw [show (0 + t * 20 + r) / 20 = t by omega, show (0 + t * 20 + r) % 20 = r by omega]⟩⟩
def fuK (held : Nat → Nat → Nat) (r gone k : Nat) : Int := (totP r : Int) - (sumP (fun t => if gone.testBit t then 0 else held t r) k : Nat)
theorem freeUnits_ok {hb ho gone : Nat} (hg : gone < 65536) (hr : r < 20) (h32 : ∀ t r, held t r ≤ 32) (hm : MatAt l hb ho held) (st : S0 w0 l w) :
    Calls Tryz.prog 39 #[.pointer (some ⟨hb, ho, none⟩), .int .i64 (r : Nat), .int .u16 (gone : Nat)] w (Ret fun v w' => v = .int .i64 (fuB held r gone.testBit) ∧ S0 w0 l w') := by
  have htot := totP_le r
  refine enter [.pointer (some ⟨hb, ho, none⟩), .int .i64 (r : Nat), .int .u16 (gone : Nat)] Tryz.func39 rfl Tryz.ntmps39 rfl ?_
  show WC _ _ _ 29 [] [(0, .pointer (some ⟨hb, ho, none⟩)), (1, .int .i64 (r : Nat)), (2, .int .u16 (gone : Nat))] _
  refine WC.seq fun K1001 hK1001 => ?_
  -- region 0
  refine WC.region ?_
  -- R0.0 6 := graph.go:6 assign
  refine WL.v (by first | exact r_assign (v := .int _ _) rfl | exact r_assign rfl) rfl rfl rfl ?_
  refine WL.fin hK1001 (fun _ _ h => h) ?_
  refine WC.seq fun K1002 hK1002 => ?_
  -- region 1
  refine WC.region ?_
  -- R1.0 9 := graph.go:7 move
  refine WL.v (by first | exact r_move (v := .int _ _) rfl | exact r_move rfl) rfl rfl rfl ?_
  -- R1.1 10 := graph.go:7 call
  refine WL.call (r_call ty_call58 rfl) rfl rfl rfl (total_ok (r := r) st) ?_
  rintro _ w ⟨rfl, st⟩
  -- R1.2 7 := graph.go:7 assign
  refine WL.v (by first | exact r_assign (v := .int _ _) rfl | exact r_assign rfl) rfl rfl rfl ?_
  refine WL.fin hK1002 (fun _ _ h => h) ?_
  refine WC.seq fun K1003 hK1003 => ?_
  refine WC.seq fun K1004 hK1004 => ?_
  -- region 2
  refine WC.region ?_
  -- R2.0 11 := graph.go:8 move
  refine WL.v (by first | exact r_move (v := .int _ _) rfl | exact r_move rfl) rfl rfl rfl ?_
  refine WL.fin hK1004 (fun _ _ h => h) ?_
  refine WC.block ?_
  refine WC.loop (ι := Nat) (fun k => [(0, .pointer (some ⟨hb, ho, none⟩)), (1, .int .i64 (r : Nat)), (2, .int .u16 (gone : Nat)), (7, .int .i64 (fuK held r gone k)), (11, .int .i64 (k : Nat))])
    (fun k w' => k ≤ 16 ∧ S0 w0 l w') (fun k => 16 - k) 0 ⟨Nat.zero_le _, st⟩ (by rw [show fuK held r gone 0 = (totP r : Int) by unfold fuK sumP; simp]; repeat (first | exact sub_nil _ | refine sub_cons rfl rfl ?_)) ?_
  clear st
  rintro k w ⟨hk, st⟩ K1 hK1
  by_cases h16 : k = 16
  · subst h16
    refine WC.seq fun K1005 hK1005 => ?_
    -- region 3
    refine WC.region ?_
    -- R3.0 12 := graph.go:8 binOp
    refine WL.v (by first | exact r_lss rfl rfl (decide_eq_true (by omega)) | exact r_lss rfl rfl (decide_eq_false (by omega)) | exact r_lss rfl rfl rfl) rfl rfl rfl ?_
    refine WL.fin hK1005 (fun _ _ h => h) ?_
    refine WC.seq fun K1006 hK1006 => ?_
    refine WC.condF rfl rfl ?_
    refine WC.exitF hK1003 (fun _ _ h => h) ?_
    refine WC.seq fun K1007 hK1007 => ?_
    -- region 8
    refine WC.region ?_
    -- R8.0 28 := graph.go:13 move
    refine WL.v (by first | exact r_move (v := .int _ _) rfl | exact r_move rfl) rfl rfl rfl ?_
    -- R8.1 6 := graph.go:13 assign
    refine WL.v (by first | exact r_assign (v := .int _ _) rfl | exact r_assign rfl) rfl rfl rfl ?_
    refine WL.fin hK1007 (fun _ _ h => h) ?_
    refine WC.ret1 Tryz.results39 (fun _ _ h => h) rfl ?_
    exact ⟨_, rfl, rfl, st⟩
  have hk' : k < 16 := by omega
  have hb1 : sumP (fun t => if gone.testBit t then 0 else held t r) k ≤ 32 * k := sumP_le (fun i => by split <;> first | omega | exact h32 i r) k
  have h32k := h32 k r
  have e : fuK held r gone (k + 1) = fuK held r gone k - (if gone.testBit k then 0 else (held k r : Int)) := by
    unfold fuK
    show _ - ((sumP (fun t => if gone.testBit t then 0 else held t r) k + (if gone.testBit k then 0 else held k r) : Nat) : Int) = _
    split <;> simp <;> omega
  have hfk : -512 ≤ fuK held r gone k ∧ fuK held r gone k ≤ 16 := by unfold fuK; omega
  rcases hbit : gone.testBit k with _ | _
  · rw [hbit] at e
    have e : fuK held r gone (k + 1) = fuK held r gone k - (held k r : Int) := e
    refine WC.seq fun K1008 hK1008 => ?_
    -- region 3
    refine WC.region ?_
    -- R3.0 12 := graph.go:8 binOp
    refine WL.v (by first | exact r_lss rfl rfl (decide_eq_true (by omega)) | exact r_lss rfl rfl (decide_eq_false (by omega)) | exact r_lss rfl rfl rfl) rfl rfl rfl ?_
    refine WL.fin hK1008 (fun _ _ h => h) ?_
    refine WC.seq fun K1009 hK1009 => ?_
    refine WC.condT rfl rfl ?_
    refine WC.skipF hK1009 (fun _ _ h => h) ?_
    refine WC.seq fun K1010 hK1010 => ?_
    refine WC.block ?_
    refine WC.seq fun K1011 hK1011 => ?_
    -- region 4
    refine WC.region ?_
    -- R4.0 13 := graph.go:8 move
    refine WL.v (by first | exact r_move (v := .int _ _) rfl | exact r_move rfl) rfl rfl rfl ?_
    -- R4.1 8 := graph.go:8 assign
    refine WL.v (by first | exact r_assign (v := .int _ _) rfl | exact r_assign rfl) rfl rfl rfl ?_
    refine WL.fin hK1011 (fun _ _ h => h) ?_
    refine WC.seq fun K1012 hK1012 => ?_
    -- region 5
    refine WC.region ?_
    -- R5.0 14 := graph.go:9 move
    refine WL.v (by first | exact r_move (v := .int _ _) rfl | exact r_move rfl) rfl rfl rfl ?_
    -- R5.1 15 := graph.go:9 move
    refine WL.v (by first | exact r_move (v := .int _ _) rfl | exact r_move rfl) rfl rfl rfl ?_
    -- R5.2 16 := graph.go:9 call
    refine WL.call (r_call ty_call28 rfl) rfl rfl rfl (has_ok hg hk' st) ?_
    rintro _ w ⟨he, st⟩
    rw [hbit] at he
    subst he
    -- R5.3 17 := graph.go:9 unOp
    refine WL.v (by first | exact r_notT rfl | exact r_notF rfl | exact r_not rfl) rfl rfl rfl ?_
    refine WL.fin hK1012 (fun _ _ h => h) ?_
    refine WC.condT rfl rfl ?_
    -- region 6
    refine WC.region ?_
    -- R6.0 18 := graph.go:10 move
    refine WL.v (by first | exact r_move (v := .int _ _) rfl | exact r_move rfl) rfl rfl rfl ?_
    -- R6.1 19 := graph.go:10 move
    refine WL.v (by first | exact r_move (v := .pointer _) rfl | exact r_move rfl) rfl rfl rfl ?_
    -- R6.2 20 := graph.go:10 move
    refine WL.v (by first | exact r_move (v := .int _ _) rfl | exact r_move rfl) rfl rfl rfl ?_
    -- R6.3 21 := graph.go:10 move
    refine WL.v (by first | exact r_move (v := .int _ _) rfl | exact r_move rfl) rfl rfl rfl ?_
    -- R6.4 22 := graph.go:10 nilCheck
    refine WL.v (by exact r_nilCheck rfl) rfl rfl rfl ?_
    -- R6.5 23 := graph.go:10 indexAddr
    refine WL.v (by exact r_indexA (j := k) ty_ar45 rfl rfl rfl hk') rfl rfl rfl ?_
    -- R6.6 24 := graph.go:10 indexAddr
    refine WL.v (by exact r_indexA (j := r) ty_ar44 rfl rfl rfl hr) rfl rfl rfl ?_
    -- R6.7 25 := graph.go:10 load
    refine WL.v (by exact r_load1 (v := .int .i64 (held k r : Nat)) ty_one3 rfl (hm.cell hk' hr (by omega) st)) rfl rfl rfl ?_
    -- R6.8 26 := graph.go:10 binOp
    refine WL.v (by exact r_sub (r := fuK held r gone (k + 1)) rfl rfl ((wi64 (by omega) (by omega)).trans e.symm)) rfl rfl rfl ?_
    -- R6.9 7 := graph.go:10 assign
    refine WL.v (by first | exact r_assign (v := .int _ _) rfl | exact r_assign rfl) rfl rfl rfl ?_
    refine WL.fin hK1010 (fun _ _ h => h) ?_
    -- region 7
    refine WC.region ?_
    -- R7.0 27 := graph.go:8 binOp
    refine WL.v (by first | exact r_add rfl rfl (wi64 (by omega) (by omega)) | exact r_add rfl rfl rfl) rfl rfl rfl ?_
    -- R7.1 11 := graph.go:8 move
    refine WL.v (by first | exact r_move (v := .int _ _) rfl | exact r_move rfl) rfl rfl rfl ?_
    refine WL.next hK1 (fun _ _ h => h) (k + 1) ⟨hk', st⟩ (by omega) (by repeat (first | exact sub_nil _ | refine sub_cons rfl rfl ?_))
  · rw [hbit] at e
    have e : fuK held r gone (k + 1) = fuK held r gone k := by simpa using e
    refine WC.seq fun K1013 hK1013 => ?_
    -- region 3
    refine WC.region ?_
    -- R3.0 12 := graph.go:8 binOp
    refine WL.v (by first | exact r_lss rfl rfl (decide_eq_true (by omega)) | exact r_lss rfl rfl (decide_eq_false (by omega)) | exact r_lss rfl rfl rfl) rfl rfl rfl ?_
    refine WL.fin hK1013 (fun _ _ h => h) ?_
    refine WC.seq fun K1014 hK1014 => ?_
    refine WC.condT rfl rfl ?_
    refine WC.skipF hK1014 (fun _ _ h => h) ?_
    refine WC.seq fun K1015 hK1015 => ?_
    refine WC.block ?_
    refine WC.seq fun K1016 hK1016 => ?_
    -- region 4
    refine WC.region ?_
    -- R4.0 13 := graph.go:8 move
    refine WL.v (by first | exact r_move (v := .int _ _) rfl | exact r_move rfl) rfl rfl rfl ?_
    -- R4.1 8 := graph.go:8 assign
    refine WL.v (by first | exact r_assign (v := .int _ _) rfl | exact r_assign rfl) rfl rfl rfl ?_
    refine WL.fin hK1016 (fun _ _ h => h) ?_
    refine WC.seq fun K1017 hK1017 => ?_
    -- region 5
    refine WC.region ?_
    -- R5.0 14 := graph.go:9 move
    refine WL.v (by first | exact r_move (v := .int _ _) rfl | exact r_move rfl) rfl rfl rfl ?_
    -- R5.1 15 := graph.go:9 move
    refine WL.v (by first | exact r_move (v := .int _ _) rfl | exact r_move rfl) rfl rfl rfl ?_
    -- R5.2 16 := graph.go:9 call
    refine WL.call (r_call ty_call28 rfl) rfl rfl rfl (has_ok hg hk' st) ?_
    rintro _ w ⟨he, st⟩
    rw [hbit] at he
    subst he
    -- R5.3 17 := graph.go:9 unOp
    refine WL.v (by first | exact r_notT rfl | exact r_notF rfl | exact r_not rfl) rfl rfl rfl ?_
    refine WL.fin hK1017 (fun _ _ h => h) ?_
    refine WC.condF rfl rfl ?_
    refine WC.skipF hK1015 (fun _ _ h => h) ?_
    -- region 7
    refine WC.region ?_
    -- R7.0 27 := graph.go:8 binOp
    refine WL.v (by first | exact r_add rfl rfl (wi64 (by omega) (by omega)) | exact r_add rfl rfl rfl) rfl rfl rfl ?_
    -- R7.1 11 := graph.go:8 move
    refine WL.v (by first | exact r_move (v := .int _ _) rfl | exact r_move rfl) rfl rfl rfl ?_
    refine WL.next hK1 (fun _ _ h => h) (k + 1) ⟨hk', st⟩ (by omega) (by rw [e]; repeat (first | exact sub_nil _ | refine sub_cons rfl rfl ?_))
/-! The search for an order. -/
theorem goodM {g : Nat} (h : g < 65536) : keyGood Go.Proofs.Tryz.prog 38 (.int .u16 (g : Nat)) :=
  ⟨.int .u16 (g : Nat), Go.Maps.keyOf_int_mk Go.Proofs.Tryz.underlying38 (by simp only [Lit.wf, Bool.and_eq_true, decide_eq_true_eq]; exact ⟨by show (0 : Int) ≤ _; omega, by show _ ≤ (65535 : Int); omega⟩)⟩
def FOK (claim held : Nat → Nat → Nat) (G : Value → Option Value) : Prop := ∀ g : Nat, ∃ fb : Bool, (G (.int .u16 (g : Nat))).getD (.bool false) = .bool fb ∧ (fb = true → ¬ CanB (fitC claim held) g.testBit)
theorem or_upd {g t : Nat} : (g ||| 2 ^ t).testBit = updN g.testBit t true := by
  funext i
  rw [Nat.testBit_or, Nat.testBit_two_pow]
  unfold updN
  by_cases e : i = t
  · rw [if_pos e, e]; simp
  · have : ¬ t = i := fun k => e k.symm
    rw [if_neg e]; simp [this]
theorem or_gt {g t : Nat} (h : g.testBit t = false) : g < g ||| 2 ^ t := by
  refine Nat.lt_of_le_of_ne Nat.left_le_or fun e => ?_
  have : (g ||| 2 ^ t).testBit t = true := by rw [Nat.testBit_or, Nat.testBit_two_pow]; simp
  rw [← e, h] at this; cases this
theorem full_bits : ∀ t, t < 16 → (65535 : Nat).testBit t = true := by decide
theorem compl16_bit {g : Nat} (hg : g < 65536) (ht : t < 16) : (65535 - g).testBit t = !g.testBit t := by
  have := Nat.testBit_two_pow_sub_succ (n := 16) (x := g) hg t
  rw [show 65535 - g = 2 ^ 16 - (g + 1) by omega, this]
  simp [ht]
theorem bits_full {g : Nat} (hg : g < 65536) (h : ∀ t, t < 16 → g.testBit t = true) : g = 65535 := by
  refine Nat.eq_of_testBit_eq fun i => ?_
  by_cases hi : i < 16
  · rw [h i hi, full_bits i hi]
  · rw [Nat.testBit_lt_two_pow (Nat.lt_of_lt_of_le hg (Nat.pow_le_pow_right (by decide) (by omega) : 2 ^ 16 ≤ 2 ^ i)), Nat.testBit_lt_two_pow (Nat.lt_of_lt_of_le (by decide : 65535 < 2 ^ 16) (Nat.pow_le_pow_right (by decide) (by omega) : 2 ^ 16 ≤ 2 ^ i))]
set_option maxHeartbeats 8000000 in
theorem someOrder_ok {hb ho cb co bf : Nat} (hD : gD w0) (h32 : ∀ t r, held t r ≤ 32) (hc32 : ∀ t r, claim t r ≤ 32) : ∀ (m gone : Nat) (G : Value → Option Value) (l : List HI) (w : World), 65536 - gone ≤ m → gone < 65536 → FOK claim held G → MatAt l hb ho held → MatAt l cb co claim → S0 w0 ((bf, MapV (keyGood Go.Proofs.Tryz.prog 38) G) :: l) w →
    Calls Tryz.prog 68 #[.pointer (some ⟨hb, ho, none⟩), .pointer (some ⟨cb, co, none⟩), .int .u16 (gone : Nat), .map (some bf)] w (Ret fun v w' => ∃ (bb : Bool) (G' : Value → Option Value), v = .bool bb ∧ (bb = true ↔ CanB (fitC claim held) gone.testBit) ∧ FOK claim held G' ∧ S0 w0 ((bf, MapV (keyGood Go.Proofs.Tryz.prog 38) G') :: l) w') := by
  intro m
  induction m with
  | zero => intro gone G l w hm hg; omega
  | succ m ih =>
    intro gone G l w hm hg hG hmH hmC st
    by_cases h1 : gone = 65535
    · subst h1
      refine enter [.pointer (some ⟨hb, ho, none⟩), .pointer (some ⟨cb, co, none⟩), .int .u16 ((65535 : Nat) : Int), .map (some bf)] Tryz.func68 rfl Tryz.ntmps68 rfl ?_
      show WC _ _ _ 78 [] [(0, .pointer (some ⟨hb, ho, none⟩)), (1, .pointer (some ⟨cb, co, none⟩)), (2, .int .u16 ((65535 : Nat) : Int)), (3, .map (some bf))] _
      refine WC.seq fun K1018 hK1018 => ?_
      -- region 0
      refine WC.region ?_
      -- R0.0 8 := graph.go:164 assign
      refine WL.v (by first | exact r_assign (v := .bool _) rfl | exact r_assign rfl) rfl rfl rfl ?_
      refine WL.fin hK1018 (fun _ _ h => h) ?_
      refine WC.seq fun K1019 hK1019 => ?_
      refine WC.seq fun K1020 hK1020 => ?_
      -- region 1
      refine WC.region ?_
      -- R1.0 15 := graph.go:165 move
      refine WL.v (by first | exact r_move (v := .int _ _) rfl | exact r_move rfl) rfl rfl rfl ?_
      -- R1.1 16 := graph.go:165 binOp
      refine WL.v (by exact r_eql rfl rfl (decide_eq_true rfl)) rfl rfl rfl ?_
      refine WL.fin hK1020 (fun _ _ h => h) ?_
      refine WC.condT rfl rfl ?_
      refine WC.seq fun K1021 hK1021 => ?_
      -- region 2
      refine WC.region ?_
      -- R2.0 8 := graph.go:166 assign
      refine WL.v (by first | exact r_assign (v := .bool _) rfl | exact r_assign rfl) rfl rfl rfl ?_
      refine WL.fin hK1021 (fun _ _ h => h) ?_
      refine WC.ret1 Tryz.results68 (fun _ _ h => h) rfl ?_
      exact ⟨_, rfl, true, G, rfl, ⟨fun _ => .all full_bits, fun _ => rfl⟩, hG, st⟩
    obtain ⟨fb, hfb, hfn⟩ := hG gone
    rcases hfx : fb with _ | _
    rotate_left
    · subst hfx
      refine enter [.pointer (some ⟨hb, ho, none⟩), .pointer (some ⟨cb, co, none⟩), .int .u16 (gone : Nat), .map (some bf)] Tryz.func68 rfl Tryz.ntmps68 rfl ?_
      show WC _ _ _ 78 [] [(0, .pointer (some ⟨hb, ho, none⟩)), (1, .pointer (some ⟨cb, co, none⟩)), (2, .int .u16 (gone : Nat)), (3, .map (some bf))] _
      refine WC.seq fun K1022 hK1022 => ?_
      -- region 0
      refine WC.region ?_
      -- R0.0 8 := graph.go:164 assign
      refine WL.v (by first | exact r_assign (v := .bool _) rfl | exact r_assign rfl) rfl rfl rfl ?_
      refine WL.fin hK1022 (fun _ _ h => h) ?_
      refine WC.seq fun K1023 hK1023 => ?_
      refine WC.seq fun K1024 hK1024 => ?_
      -- region 1
      refine WC.region ?_
      -- R1.0 15 := graph.go:165 move
      refine WL.v (by first | exact r_move (v := .int _ _) rfl | exact r_move rfl) rfl rfl rfl ?_
      -- R1.1 16 := graph.go:165 binOp
      refine WL.v (by exact r_eql rfl rfl (decide_eq_false (by omega))) rfl rfl rfl ?_
      refine WL.fin hK1024 (fun _ _ h => h) ?_
      refine WC.condF rfl rfl ?_
      refine WC.skipF hK1023 (fun _ _ h => h) ?_
      refine WC.seq fun K1025 hK1025 => ?_
      refine WC.seq fun K1026 hK1026 => ?_
      -- region 3
      refine WC.region ?_
      -- R3.0 17 := graph.go:168 move
      refine WL.v (by first | exact r_move (v := .map _) rfl | exact r_move rfl) rfl rfl rfl ?_
      -- R3.1 18 := graph.go:168 move
      refine WL.v (by first | exact r_move (v := .int _ _) rfl | exact r_move rfl) rfl rfl rfl ?_
      -- R3.2 19 := graph.go:168 lookup
      refine WL.v (by exact r_look (key := .int .u16 (gone : Nat)) (v := .bool true) ty_kb38 ty_mp95 ty_z14 rfl rfl st List.mem_cons_self (goodM hg) hfb) rfl rfl rfl ?_
      refine WL.fin hK1026 (fun _ _ h => h) ?_
      refine WC.condT rfl rfl ?_
      refine WC.seq fun K1027 hK1027 => ?_
      -- region 4
      refine WC.region ?_
      -- R4.0 8 := graph.go:169 assign
      refine WL.v (by first | exact r_assign (v := .bool _) rfl | exact r_assign rfl) rfl rfl rfl ?_
      refine WL.fin hK1027 (fun _ _ h => h) ?_
      refine WC.ret1 Tryz.results68 (fun _ _ h => h) rfl ?_
      exact ⟨_, rfl, false, G, rfl, ⟨(fun k => by cases k), fun k => absurd k (hfn rfl)⟩, hG, st⟩
    subst hfx
    refine enter [.pointer (some ⟨hb, ho, none⟩), .pointer (some ⟨cb, co, none⟩), .int .u16 (gone : Nat), .map (some bf)] Tryz.func68 rfl Tryz.ntmps68 rfl ?_
    show WC _ _ _ 78 [] [(0, .pointer (some ⟨hb, ho, none⟩)), (1, .pointer (some ⟨cb, co, none⟩)), (2, .int .u16 (gone : Nat)), (3, .map (some bf))] _
    refine WC.seq fun K1028 hK1028 => ?_
    -- region 0
    refine WC.region ?_
    -- R0.0 8 := graph.go:164 assign
    refine WL.v (by first | exact r_assign (v := .bool _) rfl | exact r_assign rfl) rfl rfl rfl ?_
    refine WL.fin hK1028 (fun _ _ h => h) ?_
    refine WC.seq fun K1029 hK1029 => ?_
    refine WC.seq fun K1030 hK1030 => ?_
    -- region 1
    refine WC.region ?_
    -- R1.0 15 := graph.go:165 move
    refine WL.v (by first | exact r_move (v := .int _ _) rfl | exact r_move rfl) rfl rfl rfl ?_
    -- R1.1 16 := graph.go:165 binOp
    refine WL.v (by exact r_eql rfl rfl (decide_eq_false (by omega))) rfl rfl rfl ?_
    refine WL.fin hK1030 (fun _ _ h => h) ?_
    refine WC.condF rfl rfl ?_
    refine WC.skipF hK1029 (fun _ _ h => h) ?_
    refine WC.seq fun K1031 hK1031 => ?_
    refine WC.seq fun K1032 hK1032 => ?_
    -- region 3
    refine WC.region ?_
    -- R3.0 17 := graph.go:168 move
    refine WL.v (by first | exact r_move (v := .map _) rfl | exact r_move rfl) rfl rfl rfl ?_
    -- R3.1 18 := graph.go:168 move
    refine WL.v (by first | exact r_move (v := .int _ _) rfl | exact r_move rfl) rfl rfl rfl ?_
    -- R3.2 19 := graph.go:168 lookup
    refine WL.v (by exact r_look (key := .int .u16 (gone : Nat)) (v := .bool false) ty_kb38 ty_mp95 ty_z14 rfl rfl st List.mem_cons_self (goodM hg) hfb) rfl rfl rfl ?_
    refine WL.fin hK1032 (fun _ _ h => h) ?_
    refine WC.condF rfl rfl ?_
    refine WC.skipF hK1031 (fun _ _ h => h) ?_
    refine WC.seq fun K1033 hK1033 => ?_
    -- region 5
    refine WC.region ?_
    -- R5.0 9 := graph.go:171 alloc
    refine WL.allocN (m := 20) st ty_zeroN44 rfl rfl ?_
    intro b9 w st
    refine WL.fin hK1033 (fun _ _ h => h) ?_
    refine WC.seq fun K1034 hK1034 => ?_
    refine WC.seq fun K1035 hK1035 => ?_
    -- region 6
    refine WC.region ?_
    -- R6.0 20 := graph.go:172 move
    refine WL.v (by first | exact r_move (v := .int _ _) rfl | exact r_move rfl) rfl rfl rfl ?_
    refine WL.fin hK1035 (fun _ _ h => h) ?_
    refine WC.block ?_
    refine WC.loop (ι := Nat × (Nat → Int)) (fun y => [(0, .pointer (some ⟨hb, ho, none⟩)), (1, .pointer (some ⟨cb, co, none⟩)), (2, .int .u16 (gone : Nat)), (3, .map (some bf)), (9, .pointer (some ⟨b9, 0, none⟩)), (20, .int .i64 (y.1 : Nat))])
      (fun y w' => y.1 ≤ 20 ∧ (∀ i, i < y.1 → y.2 i = fuB held i gone.testBit) ∧ S0 w0 ((b9, Row 44 20 (iF y.2)) :: (bf, MapV (keyGood Go.Proofs.Tryz.prog 38) G) :: l) w') (fun y => 20 - y.1) (0, fun _ => 0) ⟨Nat.zero_le _, fun i hi => absurd hi (Nat.not_lt_zero _), st⟩ ?_ ?_
    · skip
      repeat (first | exact sub_nil _ | refine sub_cons rfl rfl ?_)
    clear st
    rintro ⟨k, F⟩ w ⟨hk, hF, st⟩ K1 hK1
    dsimp only at hk hF st ⊢
    by_cases h20 : k = 20
    rotate_left
    · have hk' : k < 20 := by omega
      refine WC.seq fun K1036 hK1036 => ?_
      -- region 7
      refine WC.region ?_
      -- R7.0 21 := graph.go:172 binOp
      refine WL.v (by first | exact r_lss rfl rfl (decide_eq_true (by omega)) | exact r_lss rfl rfl (decide_eq_false (by omega)) | exact r_lss rfl rfl rfl) rfl rfl rfl ?_
      refine WL.fin hK1036 (fun _ _ h => h) ?_
      refine WC.seq fun K1037 hK1037 => ?_
      refine WC.condT rfl rfl ?_
      refine WC.skipF hK1037 (fun _ _ h => h) ?_
      refine WC.seq fun K1038 hK1038 => ?_
      refine WC.block ?_
      refine WC.seq fun K1039 hK1039 => ?_
      -- region 8
      refine WC.region ?_
      -- R8.0 22 := graph.go:172 move
      refine WL.v (by first | exact r_move (v := .int _ _) rfl | exact r_move rfl) rfl rfl rfl ?_
      -- R8.1 10 := graph.go:172 assign
      refine WL.v (by first | exact r_assign (v := .int _ _) rfl | exact r_assign rfl) rfl rfl rfl ?_
      refine WL.fin hK1039 (fun _ _ h => h) ?_
      -- region 9
      refine WC.region ?_
      -- R9.0 23 := graph.go:173 move
      refine WL.v (by first | exact r_move (v := .int _ _) rfl | exact r_move rfl) rfl rfl rfl ?_
      -- R9.1 24 := graph.go:173 move
      refine WL.v (by first | exact r_move (v := .pointer _) rfl | exact r_move rfl) rfl rfl rfl ?_
      -- R9.2 25 := graph.go:173 move
      refine WL.v (by first | exact r_move (v := .int _ _) rfl | exact r_move rfl) rfl rfl rfl ?_
      -- R9.3 26 := graph.go:173 move
      refine WL.v (by first | exact r_move (v := .int _ _) rfl | exact r_move rfl) rfl rfl rfl ?_
      -- R9.4 27 := graph.go:173 call
      refine WL.call (r_call ty_call39 rfl) rfl rfl rfl (freeUnits_ok (r := k) hg hk' h32 (hmH.mono fun x hx => List.mem_cons_of_mem _ (List.mem_cons_of_mem _ hx)) st) ?_
      rintro _ w ⟨rfl, st⟩
      -- R9.5 28 := graph.go:173 indexAddr
      refine WL.v (by exact r_indexA (j := k) ty_ar44 rfl rfl rfl hk') rfl rfl rfl ?_
      -- R9.6 None := graph.go:173 store
      first | refine WL.store (v := .int _ _) st ty_one3 rfl rfl rfl (by first | decide | omega) rfl rfl ?_ | refine WL.store (v := _) st ty_one3 rfl rfl rfl (by first | decide | omega) rfl rfl ?_ | refine WL.store (v := .int _ _) st.front1 ty_one3 rfl rfl rfl (by first | decide | omega) rfl rfl ?_ | refine WL.store (v := _) st.front1 ty_one3 rfl rfl rfl (by first | decide | omega) rfl rfl ?_ | refine WL.store (v := .int _ _) st.front2 ty_one3 rfl rfl rfl (by first | decide | omega) rfl rfl ?_ | refine WL.store (v := _) st.front2 ty_one3 rfl rfl rfl (by first | decide | omega) rfl rfl ?_ | refine WL.store (v := .int _ _) st.front3 ty_one3 rfl rfl rfl (by first | decide | omega) rfl rfl ?_ | refine WL.store (v := _) st.front3 ty_one3 rfl rfl rfl (by first | decide | omega) rfl rfl ?_ | refine WL.store (v := .int _ _) st.front4 ty_one3 rfl rfl rfl (by first | decide | omega) rfl rfl ?_ | refine WL.store (v := _) st.front4 ty_one3 rfl rfl rfl (by first | decide | omega) rfl rfl ?_ | refine WL.store (v := .int _ _) st.front5 ty_one3 rfl rfl rfl (by first | decide | omega) rfl rfl ?_ | refine WL.store (v := _) st.front5 ty_one3 rfl rfl rfl (by first | decide | omega) rfl rfl ?_ | refine WL.store (v := .int _ _) st.front6 ty_one3 rfl rfl rfl (by first | decide | omega) rfl rfl ?_ | refine WL.store (v := _) st.front6 ty_one3 rfl rfl rfl (by first | decide | omega) rfl rfl ?_ | refine WL.store (v := .int _ _) st.front7 ty_one3 rfl rfl rfl (by first | decide | omega) rfl rfl ?_ | refine WL.store (v := _) st.front7 ty_one3 rfl rfl rfl (by first | decide | omega) rfl rfl ?_ | refine WL.store (v := .int _ _) st.front8 ty_one3 rfl rfl rfl (by first | decide | omega) rfl rfl ?_ | refine WL.store (v := _) st.front8 ty_one3 rfl rfl rfl (by first | decide | omega) rfl rfl ?_
      intro w st
      refine WL.fin hK1038 (fun _ _ h => h) ?_
      -- region 10
      refine WC.region ?_
      -- R10.0 29 := graph.go:172 binOp
      refine WL.v (by first | exact r_add rfl rfl (wi64 (by omega) (by omega)) | exact r_add rfl rfl rfl) rfl rfl rfl ?_
      -- R10.1 20 := graph.go:172 move
      refine WL.v (by first | exact r_move (v := .int _ _) rfl | exact r_move rfl) rfl rfl rfl ?_
      refine WL.next hK1 (fun _ _ h => h) (k + 1, updN F k (fuB held k gone.testBit)) ⟨hk', fun j hj => by { have hj : j < k + 1 := hj; by_cases hji : j = k; · { subst hji; exact updN_same }; · { show updN F k _ j = _; rw [updN_ne hji]; exact hF j (by omega) } }, stE (iF_set (n := 20)) st⟩ (by show 20 - (k + 1) < 20 - k; omega) (by repeat (first | exact sub_nil _ | refine sub_cons rfl rfl ?_))
    subst h20
    have st : S0 w0 ((bf, MapV (keyGood Go.Proofs.Tryz.prog 38) G) :: (b9, Row 44 20 (iF fun i => fuB held i gone.testBit)) :: l) w := (stE (fun k hk => by unfold iF; rw [hF k hk]) st).front1
    clear hF
    refine WC.seq fun K1040 hK1040 => ?_
    -- region 7
    refine WC.region ?_
    -- R7.0 21 := graph.go:172 binOp
    refine WL.v (by first | exact r_lss rfl rfl (decide_eq_true (by omega)) | exact r_lss rfl rfl (decide_eq_false (by omega)) | exact r_lss rfl rfl rfl) rfl rfl rfl ?_
    refine WL.fin hK1040 (fun _ _ h => h) ?_
    refine WC.seq fun K1041 hK1041 => ?_
    refine WC.condF rfl rfl ?_
    refine WC.exitF hK1034 (fun _ _ h => h) ?_
    refine WC.seq fun K1042 hK1042 => ?_
    refine WC.seq fun K1043 hK1043 => ?_
    -- region 11
    refine WC.region ?_
    -- R11.0 30 := graph.go:175 move
    refine WL.v (by first | exact r_move (v := .int _ _) rfl | exact r_move rfl) rfl rfl rfl ?_
    -- R11.1 31 := graph.go:175 unOp
    refine WL.v (by exact r_compl16 rfl hg) rfl rfl rfl ?_
    -- R11.2 32 := graph.go:175 call
    refine WL.call (r_call ty_call31 rfl) rfl rfl rfl (tasks_ok hD (show 65535 - gone < 65536 by omega) st) ?_
    rintro _ w ⟨XT, hXT, st⟩
    obtain ⟨Ts, hTs⟩ : ∃ Ts, Ts = tasksP (65535 - gone) := ⟨_, rfl⟩
    have hT16 : ∀ o, o ∈ Ts → o < 16 ∧ gone.testBit o = false := fun o h => by rw [hTs] at h; have h1 := tasksP_mem.1 h; have h2 := h1.2; rw [compl16_bit hg h1.1] at h2; exact ⟨h1.1, by simpa using h2⟩
    have hTl : Ts.length ≤ 16 := by rw [hTs]; exact tasksP_len
    rw [← hTs] at hXT
    obtain ⟨at', ct, bt, rfl, hct1, hct2, hat', htcell⟩ := hXT.form
    -- R11.3 33 := graph.go:175 call
    refine WL.v (by exact r_len ty_usl54 rfl) rfl rfl rfl ?_
    -- R11.4 34 := graph.go:175 move
    refine WL.v (by first | exact r_move (v := .int _ _) rfl | exact r_move rfl) rfl rfl rfl ?_
    refine WL.fin hK1043 (fun _ _ h => h) ?_
    refine WC.block ?_
    refine WC.loop (ι := Nat × (Value → Option Value)) (fun y => [(0, .pointer (some ⟨hb, ho, none⟩)), (1, .pointer (some ⟨cb, co, none⟩)), (2, .int .u16 (gone : Nat)), (3, .map (some bf)), (9, .pointer (some ⟨b9, 0, none⟩)), (32, .slice at' Ts.length ct), (33, .int .i64 (Ts.length : Nat)), (34, .int .i64 (y.1 : Nat))])
      (fun y w' => y.1 ≤ Ts.length ∧ FOK claim held y.2 ∧ (∀ j t, j < y.1 → Ts[j]? = some t → ¬ (fitC claim held gone.testBit t ∧ CanB (fitC claim held) (updN gone.testBit t true))) ∧ S0 w0 ((bf, MapV (keyGood Go.Proofs.Tryz.prog 38) y.2) :: (b9, Row 44 20 (iF fun i => fuB held i gone.testBit)) :: (XT ++ l)) w') (fun y => Ts.length - y.1) (0, G) ⟨Nat.zero_le _, hG, fun j t hj => absurd hj (Nat.not_lt_zero _), st.perm (by classical exact List.perm_iff_count.2 fun x => by simp only [List.count_append, List.count_cons, List.count_nil, List.append_eq, List.cons_append, List.nil_append, List.append_assoc, Nat.add_zero, Nat.zero_add] <;> ac_rfl)⟩ ?_ ?_
    · skip
      repeat (first | exact sub_nil _ | refine sub_cons rfl rfl ?_)
    clear st hG
    rintro ⟨k, G⟩ w ⟨hk, hG, hno, st⟩ K2 hK2
    dsimp only at hk hG hno st ⊢
    have hsub : ∀ x, x ∈ l → x ∈ (bf, MapV (keyGood Go.Proofs.Tryz.prog 38) G) :: (b9, Row 44 20 (iF fun i => fuB held i gone.testBit)) :: (XT ++ l) := fun x hx => List.mem_cons_of_mem _ (List.mem_cons_of_mem _ (List.mem_append_right _ hx))
    have hsub2 : ∀ x, x ∈ l → x ∈ (b9, Row 44 20 (iF fun i => fuB held i gone.testBit)) :: (XT ++ l) := fun x hx => List.mem_cons_of_mem _ (List.mem_append_right _ hx)
    by_cases hkl : k = Ts.length
    · have hnot : ¬ CanB (fitC claim held) gone.testBit := by
        intro h
        cases h using CanB.elim with
        | all h => exact h1 (bits_full hg h)
        | step t ht hf hp h ih =>
          have hm : t ∈ Ts := by rw [hTs]; exact tasksP_mem.2 ⟨ht, by rw [compl16_bit hg ht, hf]; rfl⟩
          obtain ⟨j, hj⟩ := List.getElem?_of_mem hm
          have hjl := (List.getElem?_eq_some_iff.1 hj).1
          exact hno j t (by omega) hj ⟨hp, h⟩
      refine WC.seq fun K1044 hK1044 => ?_
      -- region 12
      refine WC.region ?_
      -- R12.0 35 := graph.go:175 binOp
      refine WL.v (by first | exact r_lss rfl rfl (decide_eq_true (by omega)) | exact r_lss rfl rfl (decide_eq_false (by omega)) | exact r_lss rfl rfl rfl) rfl rfl rfl ?_
      refine WL.fin hK1044 (fun _ _ h => h) ?_
      refine WC.seq fun K1045 hK1045 => ?_
      refine WC.condF rfl rfl ?_
      refine WC.exitF hK1042 (fun _ _ h => h) ?_
      refine WC.seq fun K1046 hK1046 => ?_
      -- region 22
      refine WC.region ?_
      -- R22.0 76 := graph.go:184 move
      refine WL.v (by first | exact r_move (v := .map _) rfl | exact r_move rfl) rfl rfl rfl ?_
      -- R22.1 77 := graph.go:184 move
      refine WL.v (by first | exact r_move (v := .int _ _) rfl | exact r_move rfl) rfl rfl rfl ?_
      -- R22.2 None := graph.go:184 mapUpdate
      refine WL.mapSet (key := .int .u16 (gone : Nat)) (val := .bool true) ty_kb38 st ty_mp95 rfl rfl rfl (goodM hg) rfl rfl ?_
      intro G' w hS st
      refine WL.fin hK1046 (fun _ _ h => h) ?_
      refine WC.seq fun K1047 hK1047 => ?_
      -- region 23
      refine WC.region ?_
      -- R23.0 8 := graph.go:185 assign
      refine WL.v (by first | exact r_assign (v := .bool _) rfl | exact r_assign rfl) rfl rfl rfl ?_
      refine WL.fin hK1047 (fun _ _ h => h) ?_
      refine WC.ret1 Tryz.results68 (fun _ _ h => h) rfl ?_
      refine ⟨_, rfl, false, G', rfl, ⟨(fun k => by cases k), fun k => absurd k hnot⟩, fun g => ?_, st_dropL (st.perm (by classical exact List.perm_iff_count.2 fun x => by simp only [List.count_append, List.count_cons, List.count_nil, List.append_eq, List.cons_append, List.nil_append, List.append_assoc, Nat.add_zero, Nat.zero_add] <;> ac_rfl) : S0 w0 (((b9, Row 44 20 (iF fun i => fuB held i gone.testBit)) :: XT) ++ ((bf, MapV (keyGood Go.Proofs.Tryz.prog 38) G') :: l)) _)⟩
      by_cases eg : g = gone
      · subst eg; exact ⟨true, by rw [hS.1]; rfl, fun _ => hnot⟩
      · rw [hS.2 _ (fun k => eg (by injection k with _ k; omega))]; exact hG g
    have hkl' : k < Ts.length := by omega
    obtain ⟨t, hv⟩ : ∃ v, Ts[k]? = some v := ⟨Ts[k], List.getElem?_eq_getElem hkl'⟩
    obtain ⟨ht16, htf⟩ := hT16 t (List.mem_of_getElem? hv)
    have hgt := or_gt htf
    have hlt : gone ||| 2 ^ t < 65536 := orlt hg (pow16 ht16)
    obtain rfl := hat' (by omega)
    have hce := htcell st (fun x hx => List.mem_cons_of_mem _ (List.mem_cons_of_mem _ (List.mem_append_left _ hx))) k t hv 0 (by decide)
    obtain ⟨p, hp⟩ : ∃ p : Nat → Bool, p = fun r => decide ((claim t r : Int) - held t r ≤ fuB held r gone.testBit) := ⟨_, rfl⟩
    have hfit : allN p 20 = true ↔ fitC claim held gone.testBit t := by
      rw [allN_iff, hp]
      exact ⟨fun h r hr => of_decide_eq_true (h r hr), fun h r hr => decide_eq_true (h r hr)⟩
    refine WC.seq fun K1048 hK1048 => ?_
    -- region 12
    refine WC.region ?_
    -- R12.0 35 := graph.go:175 binOp
    refine WL.v (by first | exact r_lss rfl rfl (decide_eq_true (by omega)) | exact r_lss rfl rfl (decide_eq_false (by omega)) | exact r_lss rfl rfl rfl) rfl rfl rfl ?_
    refine WL.fin hK1048 (fun _ _ h => h) ?_
    refine WC.seq fun K1049 hK1049 => ?_
    refine WC.condT rfl rfl ?_
    refine WC.skipF hK1049 (fun _ _ h => h) ?_
    refine WC.seq fun K1050 hK1050 => ?_
    refine WC.block ?_
    refine WC.seq fun K1051 hK1051 => ?_
    -- region 13
    refine WC.region ?_
    -- R13.0 36 := graph.go:175 indexAddr
    refine WL.v (by exact r_indexS (j := k) ty_sl54 rfl rfl rfl (by omega)) rfl rfl rfl ?_
    -- R13.1 37 := graph.go:175 load
    refine WL.v (by exact r_load1 (v := .int .i64 (t : Nat)) ty_one31 rfl (by rw [Nat.zero_add]; exact hce)) rfl rfl rfl ?_
    -- R13.2 12 := graph.go:175 assign
    refine WL.v (by first | exact r_assign (v := .int _ _) rfl | exact r_assign rfl) rfl rfl rfl ?_
    refine WL.fin hK1051 (fun _ _ h => h) ?_
    refine WC.seq fun K1052 hK1052 => ?_
    -- region 14
    refine WC.region ?_
    -- R14.0 13 := graph.go:176 assign
    refine WL.v (by first | exact r_assign (v := .bool _) rfl | exact r_assign rfl) rfl rfl rfl ?_
    refine WL.fin hK1052 (fun _ _ h => h) ?_
    refine WC.seq fun K1053 hK1053 => ?_
    refine WC.seq fun K1054 hK1054 => ?_
    -- region 15
    refine WC.region ?_
    -- R15.0 14 := graph.go:177 assign
    refine WL.v (by first | exact r_assign (v := .int _ _) rfl | exact r_assign rfl) rfl rfl rfl ?_
    refine WL.fin hK1054 (fun _ _ h => h) ?_
    refine WC.block ?_
    refine WC.loop (ι := Nat) (fun r => [(0, .pointer (some ⟨hb, ho, none⟩)), (1, .pointer (some ⟨cb, co, none⟩)), (2, .int .u16 (gone : Nat)), (3, .map (some bf)), (9, .pointer (some ⟨b9, 0, none⟩)), (32, .slice (some ⟨bt, 0, none⟩) Ts.length ct), (33, .int .i64 (Ts.length : Nat)), (34, .int .i64 (k : Nat)), (12, .int .i64 (t : Nat)), (13, .bool (allN p r)), (14, .int .i64 (r : Nat))])
      (fun r w' => r ≤ 20 ∧ S0 w0 ((bf, MapV (keyGood Go.Proofs.Tryz.prog 38) G) :: (b9, Row 44 20 (iF fun i => fuB held i gone.testBit)) :: (XT ++ l)) w') (fun r => 20 - r) 0 ⟨Nat.zero_le _, st⟩ ?_ ?_
    · skip
      repeat (first | exact sub_nil _ | refine sub_cons rfl rfl ?_)
    clear st
    rintro r w ⟨hr, st⟩ K3 hK3
    rcases hall : allN p r with _ | _
    · have hfalse : allN p 20 = false := by
        cases hx : allN p 20 with
        | false => rfl
        | true => rw [show allN p r = true from allN_iff.2 fun i hi => allN_iff.1 hx i (by omega)] at hall; cases hall
      have hnf : ¬ fitC claim held gone.testBit t := fun h => by rw [hfit.2 h] at hfalse; cases hfalse
      by_cases h20 : r = 20
      · skip
        refine WC.seq fun K1055 hK1055 => ?_
        refine WC.seq fun K1056 hK1056 => ?_
        -- region 16
        refine WC.region ?_
        -- R16.0 38 := graph.go:177 move
        refine WL.v (by first | exact r_move (v := .int _ _) rfl | exact r_move rfl) rfl rfl rfl ?_
        -- R16.1 39 := graph.go:177 binOp
        refine WL.v (by first | exact r_lss rfl rfl (decide_eq_true (by omega)) | exact r_lss rfl rfl (decide_eq_false (by omega)) | exact r_lss rfl rfl rfl) rfl rfl rfl ?_
        -- R16.2 40 := graph.go:177 move
        refine WL.v (by first | exact r_move (v := .bool _) rfl | exact r_move rfl) rfl rfl rfl ?_
        -- R16.3 41 := graph.go:177 move
        refine WL.no rfl rfl ?_
        -- R16.4 42 := graph.go:177 pick
        refine WL.v (by first | exact r_pickT (v := .bool _) rfl rfl | exact r_pickF (v := .bool _) rfl rfl) rfl rfl rfl ?_
        refine WL.fin hK1056 (fun _ _ h => h) ?_
        refine WC.condF rfl rfl ?_
        refine WC.exitF hK1053 (fun _ _ h => h) ?_
        refine WC.seq fun K1057 hK1057 => ?_
        -- region 19
        refine WC.region ?_
        -- R19.0 64 := graph.go:180 move
        refine WL.v (by first | exact r_move (v := .bool _) rfl | exact r_move rfl) rfl rfl rfl ?_
        -- R19.1 65 := graph.go:180 move
        refine WL.v (by first | exact r_move (v := .bool _) rfl | exact r_move rfl) rfl rfl rfl ?_
        -- R19.2 66 := graph.go:180 move
        refine WL.no rfl rfl ?_
        -- R19.3 67 := graph.go:180 move
        refine WL.no rfl rfl ?_
        -- R19.4 68 := graph.go:180 move
        refine WL.no rfl rfl ?_
        -- R19.5 69 := graph.go:180 move
        refine WL.no rfl rfl ?_
        -- R19.6 70 := graph.go:180 call
        refine WL.no rfl rfl ?_
        -- R19.7 71 := graph.go:180 binOp
        refine WL.no rfl rfl ?_
        -- R19.8 72 := graph.go:180 move
        refine WL.no rfl rfl ?_
        -- R19.9 73 := graph.go:180 call
        refine WL.no rfl rfl ?_
        -- R19.10 74 := graph.go:180 pick
        refine WL.v (by first | exact r_pickT (v := .bool _) rfl rfl | exact r_pickF (v := .bool _) rfl rfl) rfl rfl rfl ?_
        refine WL.fin hK1057 (fun _ _ h => h) ?_
        refine WC.condF rfl rfl ?_
        refine WC.skipF hK1050 (fun _ _ h => h) ?_
        -- region 21
        refine WC.region ?_
        -- R21.0 75 := graph.go:175 binOp
        refine WL.v (by first | exact r_add rfl rfl (wi64 (by omega) (by omega)) | exact r_add rfl rfl rfl) rfl rfl rfl ?_
        -- R21.1 34 := graph.go:175 move
        refine WL.v (by first | exact r_move (v := .int _ _) rfl | exact r_move rfl) rfl rfl rfl ?_
        refine WL.next hK2 (fun _ _ h => h) (k + 1, G) ⟨hkl', hG, fun j u hj hu => ?_, st⟩ (by show Ts.length - (k + 1) < Ts.length - k; omega) (by repeat (first | exact sub_nil _ | refine sub_cons rfl rfl ?_))
        by_cases ej : j = k
        · subst ej; rw [hv] at hu; cases hu; exact fun h => hnf h.1
        · exact hno j u (by have hj : j < k + 1 := hj; omega) hu
      · skip
        refine WC.seq fun K1058 hK1058 => ?_
        refine WC.seq fun K1059 hK1059 => ?_
        -- region 16
        refine WC.region ?_
        -- R16.0 38 := graph.go:177 move
        refine WL.v (by first | exact r_move (v := .int _ _) rfl | exact r_move rfl) rfl rfl rfl ?_
        -- R16.1 39 := graph.go:177 binOp
        refine WL.v (by first | exact r_lss rfl rfl (decide_eq_true (by omega)) | exact r_lss rfl rfl (decide_eq_false (by omega)) | exact r_lss rfl rfl rfl) rfl rfl rfl ?_
        -- R16.2 40 := graph.go:177 move
        refine WL.v (by first | exact r_move (v := .bool _) rfl | exact r_move rfl) rfl rfl rfl ?_
        -- R16.3 41 := graph.go:177 move
        refine WL.v (by first | exact r_move (v := .bool _) rfl | exact r_move rfl) rfl rfl rfl ?_
        -- R16.4 42 := graph.go:177 pick
        refine WL.v (by first | exact r_pickT (v := .bool _) rfl rfl | exact r_pickF (v := .bool _) rfl rfl) rfl rfl rfl ?_
        refine WL.fin hK1059 (fun _ _ h => h) ?_
        refine WC.condF rfl rfl ?_
        refine WC.exitF hK1053 (fun _ _ h => h) ?_
        refine WC.seq fun K1060 hK1060 => ?_
        -- region 19
        refine WC.region ?_
        -- R19.0 64 := graph.go:180 move
        refine WL.v (by first | exact r_move (v := .bool _) rfl | exact r_move rfl) rfl rfl rfl ?_
        -- R19.1 65 := graph.go:180 move
        refine WL.v (by first | exact r_move (v := .bool _) rfl | exact r_move rfl) rfl rfl rfl ?_
        -- R19.2 66 := graph.go:180 move
        refine WL.no rfl rfl ?_
        -- R19.3 67 := graph.go:180 move
        refine WL.no rfl rfl ?_
        -- R19.4 68 := graph.go:180 move
        refine WL.no rfl rfl ?_
        -- R19.5 69 := graph.go:180 move
        refine WL.no rfl rfl ?_
        -- R19.6 70 := graph.go:180 call
        refine WL.no rfl rfl ?_
        -- R19.7 71 := graph.go:180 binOp
        refine WL.no rfl rfl ?_
        -- R19.8 72 := graph.go:180 move
        refine WL.no rfl rfl ?_
        -- R19.9 73 := graph.go:180 call
        refine WL.no rfl rfl ?_
        -- R19.10 74 := graph.go:180 pick
        refine WL.v (by first | exact r_pickT (v := .bool _) rfl rfl | exact r_pickF (v := .bool _) rfl rfl) rfl rfl rfl ?_
        refine WL.fin hK1060 (fun _ _ h => h) ?_
        refine WC.condF rfl rfl ?_
        refine WC.skipF hK1050 (fun _ _ h => h) ?_
        -- region 21
        refine WC.region ?_
        -- R21.0 75 := graph.go:175 binOp
        refine WL.v (by first | exact r_add rfl rfl (wi64 (by omega) (by omega)) | exact r_add rfl rfl rfl) rfl rfl rfl ?_
        -- R21.1 34 := graph.go:175 move
        refine WL.v (by first | exact r_move (v := .int _ _) rfl | exact r_move rfl) rfl rfl rfl ?_
        refine WL.next hK2 (fun _ _ h => h) (k + 1, G) ⟨hkl', hG, fun j u hj hu => ?_, st⟩ (by show Ts.length - (k + 1) < Ts.length - k; omega) (by repeat (first | exact sub_nil _ | refine sub_cons rfl rfl ?_))
        by_cases ej : j = k
        · subst ej; rw [hv] at hu; cases hu; exact fun h => hnf h.1
        · exact hno j u (by have hj : j < k + 1 := hj; omega) hu
    by_cases h20 : r = 20
    rotate_left
    · have hr' : r < 20 := by omega
      have e : allN p (r + 1) = decide ((claim t r : Int) - held t r ≤ fuB held r gone.testBit) := by rw [allN_succ, hall, hp]; rfl
      have hb1 := h32 t r
      have hb2 := hc32 t r
      refine WC.seq fun K1061 hK1061 => ?_
      refine WC.seq fun K1062 hK1062 => ?_
      -- region 16
      refine WC.region ?_
      -- R16.0 38 := graph.go:177 move
      refine WL.v (by first | exact r_move (v := .int _ _) rfl | exact r_move rfl) rfl rfl rfl ?_
      -- R16.1 39 := graph.go:177 binOp
      refine WL.v (by first | exact r_lss rfl rfl (decide_eq_true (by omega)) | exact r_lss rfl rfl (decide_eq_false (by omega)) | exact r_lss rfl rfl rfl) rfl rfl rfl ?_
      -- R16.2 40 := graph.go:177 move
      refine WL.v (by first | exact r_move (v := .bool _) rfl | exact r_move rfl) rfl rfl rfl ?_
      -- R16.3 41 := graph.go:177 move
      refine WL.v (by first | exact r_move (v := .bool _) rfl | exact r_move rfl) rfl rfl rfl ?_
      -- R16.4 42 := graph.go:177 pick
      refine WL.v (by first | exact r_pickT (v := .bool _) rfl rfl | exact r_pickF (v := .bool _) rfl rfl) rfl rfl rfl ?_
      refine WL.fin hK1062 (fun _ _ h => h) ?_
      refine WC.condT rfl rfl ?_
      refine WC.skipF hK1061 (fun _ _ h => h) ?_
      refine WC.seq fun K1063 hK1063 => ?_
      refine WC.block ?_
      -- region 18 (draws)
      refine WC.quietS st ty_mixed (by kernel_rfl) fun Kq hKq => ?_
      -- R18.0 45 := graph.go:178 move
      refine QL.v (fun w st => by first | exact r_move (v := .pointer _) rfl | exact r_move rfl) rfl rfl rfl ?_
      -- R18.1 46 := graph.go:178 move
      refine QL.v (fun w st => by first | exact r_move (v := .int _ _) rfl | exact r_move rfl) rfl rfl rfl ?_
      -- R18.2 47 := graph.go:178 move
      refine QL.v (fun w st => by first | exact r_move (v := .int _ _) rfl | exact r_move rfl) rfl rfl rfl ?_
      -- R18.3 48 := graph.go:178 nilCheck
      refine QL.v (fun w st => by exact r_nilCheck rfl) rfl rfl rfl ?_
      -- R18.4 49 := graph.go:178 indexAddr
      refine QL.v (fun w st => by exact r_indexA (j := t) ty_ar45 rfl rfl rfl ht16) rfl rfl rfl ?_
      -- R18.5 50 := graph.go:178 indexAddr
      refine QL.v (fun w st => by exact r_indexA (j := r) ty_ar44 rfl rfl rfl hr') rfl rfl rfl ?_
      -- R18.6 51 := graph.go:178 load
      refine QL.v (fun w st => by exact r_load1 (v := .int .i64 (claim t r : Nat)) ty_one3 rfl ((hmC.mono hsub).cell ht16 hr' (by omega) st)) rfl rfl rfl ?_
      -- R18.7 52 := graph.go:178 move
      refine QL.v (fun w st => by first | exact r_move (v := .pointer _) rfl | exact r_move rfl) rfl rfl rfl ?_
      -- R18.8 53 := graph.go:178 move
      refine QL.v (fun w st => by first | exact r_move (v := .int _ _) rfl | exact r_move rfl) rfl rfl rfl ?_
      -- R18.9 54 := graph.go:178 move
      refine QL.v (fun w st => by first | exact r_move (v := .int _ _) rfl | exact r_move rfl) rfl rfl rfl ?_
      -- R18.10 55 := graph.go:178 nilCheck
      refine QL.v (fun w st => by exact r_nilCheck rfl) rfl rfl rfl ?_
      -- R18.11 56 := graph.go:178 indexAddr
      refine QL.v (fun w st => by exact r_indexA (j := t) ty_ar45 rfl rfl rfl ht16) rfl rfl rfl ?_
      -- R18.12 57 := graph.go:178 indexAddr
      refine QL.v (fun w st => by exact r_indexA (j := r) ty_ar44 rfl rfl rfl hr') rfl rfl rfl ?_
      -- R18.13 58 := graph.go:178 load
      refine QL.v (fun w st => by exact r_load1 (v := .int .i64 (held t r : Nat)) ty_one3 rfl ((hmH.mono hsub).cell ht16 hr' (by omega) st)) rfl rfl rfl ?_
      -- R18.14 59 := graph.go:178 binOp
      refine QL.v (fun w st => by exact r_sub (r := (claim t r : Int) - held t r) rfl rfl (wi64 (by omega) (by omega))) rfl rfl rfl ?_
      -- R18.15 60 := graph.go:178 move
      refine QL.v (fun w st => by first | exact r_move (v := .int _ _) rfl | exact r_move rfl) rfl rfl rfl ?_
      -- R18.16 61 := graph.go:178 indexAddr
      refine QL.v (fun w st => by exact r_indexA (j := r) ty_ar44 rfl rfl rfl hr') rfl rfl rfl ?_
      -- R18.17 62 := graph.go:178 load
      refine QL.v (fun w st => by exact r_load1 (v := .int .i64 (fuB held r gone.testBit)) ty_one3 rfl (c_iF (F := fun i => fuB held i gone.testBit) (List.mem_cons_of_mem _ List.mem_cons_self) hr' st)) rfl rfl rfl ?_
      -- R18.18 63 := graph.go:178 binOp
      refine QL.v (fun w st => by exact r_leq (t := allN p (r + 1)) rfl rfl e.symm) rfl rfl rfl ?_
      -- R18.19 13 := graph.go:178 assign
      refine QL.v (fun w st => by first | exact r_assign (v := .bool _) rfl | exact r_assign rfl) rfl rfl rfl ?_
      refine QL.wl hKq fun w st => ?_
      refine WL.fin hK1063 (fun _ _ h => h) ?_
      -- region 17
      refine WC.region ?_
      -- R17.0 43 := graph.go:177 move
      refine WL.v (by first | exact r_move (v := .int _ _) rfl | exact r_move rfl) rfl rfl rfl ?_
      -- R17.1 44 := graph.go:177 binOp
      refine WL.v (by first | exact r_add rfl rfl (wi64 (by omega) (by omega)) | exact r_add rfl rfl rfl) rfl rfl rfl ?_
      -- R17.2 14 := graph.go:177 assign
      refine WL.v (by first | exact r_assign (v := .int _ _) rfl | exact r_assign rfl) rfl rfl rfl ?_
      refine WL.next hK3 (fun _ _ h => h) (r + 1) ⟨hr', st⟩ (by omega) (by repeat (first | exact sub_nil _ | refine sub_cons rfl rfl ?_))
    subst h20
    have hF := hfit.1 hall
    refine WC.seq fun K1064 hK1064 => ?_
    refine WC.seq fun K1065 hK1065 => ?_
    -- region 16
    refine WC.region ?_
    -- R16.0 38 := graph.go:177 move
    refine WL.v (by first | exact r_move (v := .int _ _) rfl | exact r_move rfl) rfl rfl rfl ?_
    -- R16.1 39 := graph.go:177 binOp
    refine WL.v (by first | exact r_lss rfl rfl (decide_eq_true (by omega)) | exact r_lss rfl rfl (decide_eq_false (by omega)) | exact r_lss rfl rfl rfl) rfl rfl rfl ?_
    -- R16.2 40 := graph.go:177 move
    refine WL.v (by first | exact r_move (v := .bool _) rfl | exact r_move rfl) rfl rfl rfl ?_
    -- R16.3 41 := graph.go:177 move
    refine WL.no rfl rfl ?_
    -- R16.4 42 := graph.go:177 pick
    refine WL.v (by first | exact r_pickT (v := .bool _) rfl rfl | exact r_pickF (v := .bool _) rfl rfl) rfl rfl rfl ?_
    refine WL.fin hK1065 (fun _ _ h => h) ?_
    refine WC.condF rfl rfl ?_
    refine WC.exitF hK1053 (fun _ _ h => h) ?_
    refine WC.seq fun K1066 hK1066 => ?_
    -- region 19
    refine WC.region ?_
    -- R19.0 64 := graph.go:180 move
    refine WL.v (by first | exact r_move (v := .bool _) rfl | exact r_move rfl) rfl rfl rfl ?_
    -- R19.1 65 := graph.go:180 move
    refine WL.v (by first | exact r_move (v := .bool _) rfl | exact r_move rfl) rfl rfl rfl ?_
    -- R19.2 66 := graph.go:180 move
    refine WL.v (by first | exact r_move (v := .pointer _) rfl | exact r_move rfl) rfl rfl rfl ?_
    -- R19.3 67 := graph.go:180 move
    refine WL.v (by first | exact r_move (v := .pointer _) rfl | exact r_move rfl) rfl rfl rfl ?_
    -- R19.4 68 := graph.go:180 move
    refine WL.v (by first | exact r_move (v := .int _ _) rfl | exact r_move rfl) rfl rfl rfl ?_
    -- R19.5 69 := graph.go:180 move
    refine WL.v (by first | exact r_move (v := .int _ _) rfl | exact r_move rfl) rfl rfl rfl ?_
    -- R19.6 70 := graph.go:180 call
    refine WL.call (r_call ty_call30 rfl) rfl rfl rfl (bit_ok ht16 st) ?_
    rintro _ w ⟨rfl, st⟩
    -- R19.7 71 := graph.go:180 binOp
    refine WL.v (by exact r_or (r := ((gone ||| 2 ^ t : Nat) : Int)) rfl rfl (or16 hg (pow16 ht16))) rfl rfl rfl ?_
    -- R19.8 72 := graph.go:180 move
    refine WL.v (by first | exact r_move (v := .map _) rfl | exact r_move rfl) rfl rfl rfl ?_
    -- R19.9 73 := graph.go:180 call
    refine WL.call (r_call ty_call68 rfl) rfl rfl rfl (ih (gone ||| 2 ^ t) G _ _ (by omega) hlt hG (hmH.mono hsub2) (hmC.mono hsub2) st) ?_
    rintro _ w ⟨bb, G', rfl, hbb, hG', st⟩
    rw [or_upd] at hbb
    -- R19.10 74 := graph.go:180 pick
    refine WL.v (by first | exact r_pickT (v := .bool _) rfl rfl | exact r_pickF (v := .bool _) rfl rfl) rfl rfl rfl ?_
    refine WL.fin hK1066 (fun _ _ h => h) ?_
    rcases bb with _ | _
    · skip
      refine WC.condF rfl rfl ?_
      refine WC.skipF hK1050 (fun _ _ h => h) ?_
      -- region 21
      refine WC.region ?_
      -- R21.0 75 := graph.go:175 binOp
      refine WL.v (by first | exact r_add rfl rfl (wi64 (by omega) (by omega)) | exact r_add rfl rfl rfl) rfl rfl rfl ?_
      -- R21.1 34 := graph.go:175 move
      refine WL.v (by first | exact r_move (v := .int _ _) rfl | exact r_move rfl) rfl rfl rfl ?_
      refine WL.next hK2 (fun _ _ h => h) (k + 1, G') ⟨hkl', hG', fun j u hj hu => ?_, st⟩ (by show Ts.length - (k + 1) < Ts.length - k; omega) (by repeat (first | exact sub_nil _ | refine sub_cons rfl rfl ?_))
      by_cases ej : j = k
      · subst ej; rw [hv] at hu; cases hu; exact fun h => by have := hbb.2 h.2; cases this
      · exact hno j u (by have hj : j < k + 1 := hj; omega) hu
    · skip
      refine WC.condT rfl rfl ?_
      refine WC.seq fun K1067 hK1067 => ?_
      -- region 20
      refine WC.region ?_
      -- R20.0 8 := graph.go:181 assign
      refine WL.v (by first | exact r_assign (v := .bool _) rfl | exact r_assign rfl) rfl rfl rfl ?_
      refine WL.fin hK1067 (fun _ _ h => h) ?_
      refine WC.ret1 Tryz.results68 (fun _ _ h => h) rfl ?_
      exact ⟨_, rfl, true, G', rfl, ⟨fun _ => .step t ht16 htf hF (hbb.1 rfl), fun _ => rfl⟩, hG', st_dropL (st.perm (by classical exact List.perm_iff_count.2 fun x => by simp only [List.count_append, List.count_cons, List.count_nil, List.append_eq, List.cons_append, List.nil_append, List.append_assoc, Nat.add_zero, Nat.zero_add] <;> ac_rfl) : S0 w0 (((b9, Row 44 20 (iF fun i => fuB held i gone.testBit)) :: XT) ++ ((bf, MapV (keyGood Go.Proofs.Tryz.prog 38) G') :: l)) _)⟩
/-! A state's safety. -/
def idleM (held : Nat → Nat → Nat) : Nat → Nat := maskP fun t => allN (fun r => decide (held t r = 0)) 20
theorem safeL_ok {hb ho cb co : Nat} (hD : gD w0) (h32 : ∀ t r, held t r ≤ 32) (hc32 : ∀ t r, claim t r ≤ 32) (hct : ∀ t r, r < 20 → claim t r ≤ totP r) (hmH : MatAt l hb ho held) (hmC : MatAt l cb co claim) (st : S0 w0 l w) :
    Calls Tryz.prog 37 #[.pointer (some ⟨hb, ho, none⟩), .pointer (some ⟨cb, co, none⟩)] w (Ret fun v w' => ∃ bb : Bool, v = .bool bb ∧ (bb = true ↔ Sf claim held) ∧ S0 w0 l w') := by
  refine enter [.pointer (some ⟨hb, ho, none⟩), .pointer (some ⟨cb, co, none⟩)] Tryz.func37 rfl Tryz.ntmps37 rfl ?_
  show WC _ _ _ 27 [] [(0, .pointer (some ⟨hb, ho, none⟩)), (1, .pointer (some ⟨cb, co, none⟩))] _
  refine WC.seq fun K1068 hK1068 => ?_
  -- region 0
  refine WC.region ?_
  -- R0.0 4 := graph.go:190 assign
  refine WL.v (by first | exact r_assign (v := .bool _) rfl | exact r_assign rfl) rfl rfl rfl ?_
  refine WL.fin hK1068 (fun _ _ h => h) ?_
  refine WC.seq fun K1069 hK1069 => ?_
  -- region 1
  refine WC.region ?_
  -- R1.0 5 := graph.go:191 assign
  refine WL.v (by first | exact r_assign (v := .int _ _) rfl | exact r_assign rfl) rfl rfl rfl ?_
  refine WL.fin hK1069 (fun _ _ h => h) ?_
  refine WC.seq fun K1070 hK1070 => ?_
  refine WC.seq fun K1071 hK1071 => ?_
  -- region 2
  refine WC.region ?_
  -- R2.0 7 := graph.go:192 move
  refine WL.v (by first | exact r_move (v := .int _ _) rfl | exact r_move rfl) rfl rfl rfl ?_
  refine WL.fin hK1071 (fun _ _ h => h) ?_
  refine WC.block ?_
  refine WC.loop (ι := Nat) (fun k => [(0, .pointer (some ⟨hb, ho, none⟩)), (1, .pointer (some ⟨cb, co, none⟩)), (5, .int .u16 (idleM held k : Nat)), (7, .int .i64 (k : Nat))])
    (fun k w' => k ≤ 16 ∧ S0 w0 l w') (fun k => 16 - k) 0 ⟨Nat.zero_le _, st⟩ ?_ ?_
  · skip
    repeat (first | exact sub_nil _ | refine sub_cons rfl rfl ?_)
  clear st
  rintro k w ⟨hk, st⟩ K1 hK1
  by_cases h16 : k = 16
  rotate_left
  · have hk' : k < 16 := by omega
    have hlt : idleM held k < 65536 := maskP_lt _ k (by omega)
    have e : idleM held (k + 1) = if allN (fun r => decide (held k r = 0)) 20 then idleM held k ||| 2 ^ k else idleM held k := rfl
    rcases hz : allN (fun r => decide (held k r = 0)) 20 with _ | _
    · rw [hz] at e
      have e : idleM held (k + 1) = idleM held k := e
      refine WC.seq fun K1072 hK1072 => ?_
      -- region 3
      refine WC.region ?_
      -- R3.0 8 := graph.go:192 binOp
      refine WL.v (by first | exact r_lss rfl rfl (decide_eq_true (by omega)) | exact r_lss rfl rfl (decide_eq_false (by omega)) | exact r_lss rfl rfl rfl) rfl rfl rfl ?_
      refine WL.fin hK1072 (fun _ _ h => h) ?_
      refine WC.seq fun K1073 hK1073 => ?_
      refine WC.condT rfl rfl ?_
      refine WC.skipF hK1073 (fun _ _ h => h) ?_
      refine WC.seq fun K1074 hK1074 => ?_
      refine WC.block ?_
      refine WC.seq fun K1075 hK1075 => ?_
      -- region 4
      refine WC.region ?_
      -- R4.0 9 := graph.go:192 move
      refine WL.v (by first | exact r_move (v := .int _ _) rfl | exact r_move rfl) rfl rfl rfl ?_
      -- R4.1 6 := graph.go:192 assign
      refine WL.v (by first | exact r_assign (v := .int _ _) rfl | exact r_assign rfl) rfl rfl rfl ?_
      refine WL.fin hK1075 (fun _ _ h => h) ?_
      refine WC.seq fun K1076 hK1076 => ?_
      -- region 5
      refine WC.region ?_
      -- R5.0 10 := graph.go:193 move
      refine WL.v (by first | exact r_move (v := .pointer _) rfl | exact r_move rfl) rfl rfl rfl ?_
      -- R5.1 11 := graph.go:193 move
      refine WL.v (by first | exact r_move (v := .int _ _) rfl | exact r_move rfl) rfl rfl rfl ?_
      -- R5.2 12 := graph.go:193 nilCheck
      refine WL.v (by exact r_nilCheck rfl) rfl rfl rfl ?_
      -- R5.3 13 := graph.go:193 indexAddr
      refine WL.v (by exact r_indexA (j := k) ty_ar45 rfl rfl rfl hk') rfl rfl rfl ?_
      -- R5.4 14 := graph.go:193 load
      refine WL.v (by exact r_loadN (f := (fun r => .int .i64 (held k r : Nat))) ty_agg44 rfl (fun r hr => hmH.cell hk' hr (by omega) st)) rfl rfl rfl ?_
      -- R5.5 15 := graph.go:193 build
      refine WL.v (by exact r_buildN (n := 20) (z := fun _ => .int .i64 0) (v := fun _ => .int .i64 0) (ps := []) ty_pl44 ty_zeroN44 rfl fill_nil) rfl rfl rfl ?_
      -- R5.6 16 := graph.go:193 binOp
      refine WL.v (by exact r_aeql (n := 20) (F := fun r => .int .i64 (held k r : Nat)) (G := fun _ => .int .i64 0) (t := false) eqH List.length_replicate rfl rfl (fun i hi => by rw [rep_get hi]; exact KFit.int) ⟨(fun q => by cases q), fun q => by rw [allN_iff.2 fun r hr => decide_eq_true (by have := q r hr; injection this with _ h2; omega)] at hz; cases hz⟩) rfl rfl rfl ?_
      refine WL.fin hK1076 (fun _ _ h => h) ?_
      refine WC.condF rfl rfl ?_
      refine WC.skipF hK1074 (fun _ _ h => h) ?_
      -- region 7
      refine WC.region ?_
      -- R7.0 21 := graph.go:192 binOp
      refine WL.v (by first | exact r_add rfl rfl (wi64 (by omega) (by omega)) | exact r_add rfl rfl rfl) rfl rfl rfl ?_
      -- R7.1 7 := graph.go:192 move
      refine WL.v (by first | exact r_move (v := .int _ _) rfl | exact r_move rfl) rfl rfl rfl ?_
      refine WL.next hK1 (fun _ _ h => h) (k + 1) ⟨hk', st⟩ (by omega) (by rw [e]; repeat (first | exact sub_nil _ | refine sub_cons rfl rfl ?_))
    · rw [hz] at e
      have e : idleM held (k + 1) = idleM held k ||| 2 ^ k := e
      refine WC.seq fun K1077 hK1077 => ?_
      -- region 3
      refine WC.region ?_
      -- R3.0 8 := graph.go:192 binOp
      refine WL.v (by first | exact r_lss rfl rfl (decide_eq_true (by omega)) | exact r_lss rfl rfl (decide_eq_false (by omega)) | exact r_lss rfl rfl rfl) rfl rfl rfl ?_
      refine WL.fin hK1077 (fun _ _ h => h) ?_
      refine WC.seq fun K1078 hK1078 => ?_
      refine WC.condT rfl rfl ?_
      refine WC.skipF hK1078 (fun _ _ h => h) ?_
      refine WC.seq fun K1079 hK1079 => ?_
      refine WC.block ?_
      refine WC.seq fun K1080 hK1080 => ?_
      -- region 4
      refine WC.region ?_
      -- R4.0 9 := graph.go:192 move
      refine WL.v (by first | exact r_move (v := .int _ _) rfl | exact r_move rfl) rfl rfl rfl ?_
      -- R4.1 6 := graph.go:192 assign
      refine WL.v (by first | exact r_assign (v := .int _ _) rfl | exact r_assign rfl) rfl rfl rfl ?_
      refine WL.fin hK1080 (fun _ _ h => h) ?_
      refine WC.seq fun K1081 hK1081 => ?_
      -- region 5
      refine WC.region ?_
      -- R5.0 10 := graph.go:193 move
      refine WL.v (by first | exact r_move (v := .pointer _) rfl | exact r_move rfl) rfl rfl rfl ?_
      -- R5.1 11 := graph.go:193 move
      refine WL.v (by first | exact r_move (v := .int _ _) rfl | exact r_move rfl) rfl rfl rfl ?_
      -- R5.2 12 := graph.go:193 nilCheck
      refine WL.v (by exact r_nilCheck rfl) rfl rfl rfl ?_
      -- R5.3 13 := graph.go:193 indexAddr
      refine WL.v (by exact r_indexA (j := k) ty_ar45 rfl rfl rfl hk') rfl rfl rfl ?_
      -- R5.4 14 := graph.go:193 load
      refine WL.v (by exact r_loadN (f := (fun r => .int .i64 (held k r : Nat))) ty_agg44 rfl (fun r hr => hmH.cell hk' hr (by omega) st)) rfl rfl rfl ?_
      -- R5.5 15 := graph.go:193 build
      refine WL.v (by exact r_buildN (n := 20) (z := fun _ => .int .i64 0) (v := fun _ => .int .i64 0) (ps := []) ty_pl44 ty_zeroN44 rfl fill_nil) rfl rfl rfl ?_
      -- R5.6 16 := graph.go:193 binOp
      refine WL.v (by exact r_aeql (n := 20) (F := fun r => .int .i64 (held k r : Nat)) (G := fun _ => .int .i64 0) (t := true) eqH List.length_replicate rfl rfl (fun i hi => by rw [rep_get hi]; exact KFit.int) ⟨fun _ r hr => by rw [of_decide_eq_true (allN_iff.1 hz r hr)]; rfl, fun _ => rfl⟩) rfl rfl rfl ?_
      refine WL.fin hK1081 (fun _ _ h => h) ?_
      refine WC.condT rfl rfl ?_
      -- region 6
      refine WC.region ?_
      -- R6.0 17 := graph.go:194 move
      refine WL.v (by first | exact r_move (v := .int _ _) rfl | exact r_move rfl) rfl rfl rfl ?_
      -- R6.1 18 := graph.go:194 move
      refine WL.v (by first | exact r_move (v := .int _ _) rfl | exact r_move rfl) rfl rfl rfl ?_
      -- R6.2 19 := graph.go:194 call
      refine WL.call (r_call ty_call30 rfl) rfl rfl rfl (bit_ok hk' st) ?_
      rintro _ w ⟨rfl, st⟩
      -- R6.3 20 := graph.go:194 binOp
      refine WL.v (by exact r_or (r := ((idleM held k ||| 2 ^ k : Nat) : Int)) rfl rfl (or16 hlt (pow16 hk'))) rfl rfl rfl ?_
      -- R6.4 5 := graph.go:194 assign
      refine WL.v (by first | exact r_assign (v := .int _ _) rfl | exact r_assign rfl) rfl rfl rfl ?_
      refine WL.fin hK1079 (fun _ _ h => h) ?_
      -- region 7
      refine WC.region ?_
      -- R7.0 21 := graph.go:192 binOp
      refine WL.v (by first | exact r_add rfl rfl (wi64 (by omega) (by omega)) | exact r_add rfl rfl rfl) rfl rfl rfl ?_
      -- R7.1 7 := graph.go:192 move
      refine WL.v (by first | exact r_move (v := .int _ _) rfl | exact r_move rfl) rfl rfl rfl ?_
      refine WL.next hK1 (fun _ _ h => h) (k + 1) ⟨hk', st⟩ (by omega) (by rw [e]; repeat (first | exact sub_nil _ | refine sub_cons rfl rfl ?_))
  subst h16
  have hlt : idleM held 16 < 65536 := maskP_lt _ 16 (Nat.le_refl _)
  have hiff : Sf claim held ↔ CanB (fitC claim held) (idleM held 16).testBit := Sf.last hct fun t ht hb r hr => by
    unfold idleM at hb
    rw [maskP_bit, Bool.and_eq_true] at hb
    exact of_decide_eq_true (allN_iff.1 hb.2 r hr)
  refine WC.seq fun K1082 hK1082 => ?_
  -- region 3
  refine WC.region ?_
  -- R3.0 8 := graph.go:192 binOp
  refine WL.v (by first | exact r_lss rfl rfl (decide_eq_true (by omega)) | exact r_lss rfl rfl (decide_eq_false (by omega)) | exact r_lss rfl rfl rfl) rfl rfl rfl ?_
  refine WL.fin hK1082 (fun _ _ h => h) ?_
  refine WC.seq fun K1083 hK1083 => ?_
  refine WC.condF rfl rfl ?_
  refine WC.exitF hK1070 (fun _ _ h => h) ?_
  refine WC.seq fun K1084 hK1084 => ?_
  -- region 8
  refine WC.region ?_
  -- R8.0 22 := graph.go:197 move
  refine WL.v (by first | exact r_move (v := .pointer _) rfl | exact r_move rfl) rfl rfl rfl ?_
  -- R8.1 23 := graph.go:197 move
  refine WL.v (by first | exact r_move (v := .pointer _) rfl | exact r_move rfl) rfl rfl rfl ?_
  -- R8.2 24 := graph.go:197 move
  refine WL.v (by first | exact r_move (v := .int _ _) rfl | exact r_move rfl) rfl rfl rfl ?_
  -- R8.3 25 := graph.go:197 makeMap
  refine WL.mkmap (keyGood Go.Proofs.Tryz.prog 38) st rfl rfl ?_
  intro bf w st
  -- R8.4 26 := graph.go:197 call
  refine WL.call (r_call ty_call68 rfl) rfl rfl rfl (someOrder_ok hD h32 hc32 65536 (idleM held 16) (fun _ => none) l _ (by omega) hlt (fun g => ⟨false, rfl, fun k => by cases k⟩) hmH hmC st) ?_
  rintro _ w ⟨bb, G', rfl, hbb, hG', st⟩
  -- R8.5 4 := graph.go:197 assign
  refine WL.v (by first | exact r_assign (v := .bool _) rfl | exact r_assign rfl) rfl rfl rfl ?_
  refine WL.fin hK1084 (fun _ _ h => h) ?_
  refine WC.ret1 Tryz.results37 (fun _ _ h => h) rfl ?_
  exact ⟨_, rfl, bb, rfl, hbb.trans hiff.symm, st.drop⟩
end Go.Proofs.Qxb6500834aGreatDoor

