import Derived.Test.Qxb6500834aGreatDoorK79
import Derived.Test.Qxb6500834aGreatDoorK69
set_option linter.unusedVariables false
set_option linter.unusedSimpArgs false
set_option maxRecDepth 20000
namespace Go.Proofs.Qxb6500834aGreatDoor
open Go.RowKit Go.E1 Go.Kern
theorem ty_call159 : callT Tryz.prog 159 = true := by kernel_rfl
theorem ty_call188 : callT Tryz.prog 188 = true := by kernel_rfl
theorem ty_fld98_0 : fldOff Tryz.prog 98 0 = some 0 := by kernel_rfl
theorem ty_fld98_7 : fldOff Tryz.prog 98 7 = some 52 := by kernel_rfl
theorem ty_fld98_8 : fldOff Tryz.prog 98 8 = some 372 := by kernel_rfl
variable {w0 : World} {l X : List HI} {w : World} {s s' s0 : KS} {t r N n : Nat} {qv qv' : Nat → Value}
variable {P : List PQ} {m : MR} {pv tv v : Value} {mb : Nat → Nat} {bm : Nat} {T : List (Nat × Nat × Nat)} {O : Nat → Nat → Option Nat} {held claim : Nat → Nat → Nat}

def mrOf (s : KS) : MR := ⟨s.mode, s.now, s.births, s.armed, fun t => (s.tk t).live, fun t => (s.tk t).birth, fun t => (s.tk t).epoch, s.held, s.claim, s.cells, fun t => (s.tk t).n⟩
theorem matMH {b : Nat} (hm : moI b m pv tv mb ∈ l) : MatAt l b (0 + 52) m.held := ⟨_, _, _, hm, fun t r ht hr => ⟨by omega, by rw [show 0 + 52 + t * 20 + r = 52 + (t * 20 + r) by omega, mo_held (by omega)]; unfold hM; rw [show (t * 20 + r) / 20 = t by omega, show (t * 20 + r) % 20 = r by omega]⟩⟩
theorem matMC {b : Nat} (hm : moI b m pv tv mb ∈ l) : MatAt l b (0 + 372) m.claim := ⟨_, _, _, hm, fun t r ht hr => ⟨by omega, by rw [show 0 + 372 + t * 20 + r = 372 + (t * 20 + r) by omega, mo_claim (by omega)]; unfold hM; rw [show (t * 20 + r) / 20 = t by omega, show (t * 20 + r) % 20 = r by omega]⟩⟩
theorem freeM_ok {hb ho gone : Nat} (hg : gone < 65536) (hr : r < 20) (h32 : ∀ t r, held t r ≤ 32) (hm : MatAt l hb ho held) (st : S0 w0 l w) :
    Calls Tryz.prog 159 #[.pointer (some ⟨hb, ho, none⟩), .int .i64 (r : Nat), .int .u16 (gone : Nat)] w (Ret fun v w' => v = .int .i64 (fuB held r gone.testBit) ∧ S0 w0 l w') := by
  have htot := totP_le r
  refine enter [.pointer (some ⟨hb, ho, none⟩), .int .i64 (r : Nat), .int .u16 (gone : Nat)] Tryz.func159 rfl Tryz.ntmps159 rfl ?_
  show WC _ _ _ 29 [] [(0, .pointer (some ⟨hb, ho, none⟩)), (1, .int .i64 (r : Nat)), (2, .int .u16 (gone : Nat))] _
  refine WC.seq fun K1001 hK1001 => ?_
  -- region 0
  refine WC.region ?_
  -- R0.0 6 := model.go:237 assign
  refine WL.v (by first | exact r_assign (v := .int _ _) rfl | exact r_assign rfl) rfl rfl rfl ?_
  refine WL.fin hK1001 (fun _ _ h => h) ?_
  refine WC.seq fun K1002 hK1002 => ?_
  -- region 1
  refine WC.region ?_
  -- R1.0 9 := model.go:238 move
  refine WL.v (by first | exact r_move (v := .int _ _) rfl | exact r_move rfl) rfl rfl rfl ?_
  -- R1.1 10 := model.go:238 call
  refine WL.call (r_call ty_call58 rfl) rfl rfl rfl (total_ok (r := r) st) ?_
  rintro _ w ⟨rfl, st⟩
  -- R1.2 7 := model.go:238 assign
  refine WL.v (by first | exact r_assign (v := .int _ _) rfl | exact r_assign rfl) rfl rfl rfl ?_
  refine WL.fin hK1002 (fun _ _ h => h) ?_
  refine WC.seq fun K1003 hK1003 => ?_
  refine WC.seq fun K1004 hK1004 => ?_
  -- region 2
  refine WC.region ?_
  -- R2.0 11 := model.go:239 move
  refine WL.v (by first | exact r_move (v := .int _ _) rfl | exact r_move rfl) rfl rfl rfl ?_
  refine WL.fin hK1004 (fun _ _ h => h) ?_
  refine WC.block ?_
  refine WC.loop (ι := Nat) (fun k => [(0, .pointer (some ⟨hb, ho, none⟩)), (1, .int .i64 (r : Nat)), (2, .int .u16 (gone : Nat)), (7, .int .i64 (fuK held r gone k)), (11, .int .i64 (k : Nat))])
    (fun k w' => k ≤ 16 ∧ S0 w0 l w') (fun k => 16 - k) 0 ⟨Nat.zero_le _, st⟩ (by rw [show fuK held r gone 0 = (totP r : Int) by unfold fuK sumP; simp]; repeat (first | exact sub_nil _ | refine sub_cons rfl rfl ?_)) ?_
  clear st
  rintro k w ⟨hk, st⟩ K1 hK1
  by_cases h16 : k = 16
  · subst h16
    refine WC.seq fun K1005 hK1005 => ?_
    -- region 3
    refine WC.region ?_
    -- R3.0 12 := model.go:239 binOp
    refine WL.v (by first | exact r_lss rfl rfl (decide_eq_true (by omega)) | exact r_lss rfl rfl (decide_eq_false (by omega)) | exact r_lss rfl rfl rfl) rfl rfl rfl ?_
    refine WL.fin hK1005 (fun _ _ h => h) ?_
    refine WC.seq fun K1006 hK1006 => ?_
    refine WC.condF rfl rfl ?_
    refine WC.exitF hK1003 (fun _ _ h => h) ?_
    refine WC.seq fun K1007 hK1007 => ?_
    -- region 8
    refine WC.region ?_
    -- R8.0 28 := model.go:244 move
    refine WL.v (by first | exact r_move (v := .int _ _) rfl | exact r_move rfl) rfl rfl rfl ?_
    -- R8.1 6 := model.go:244 assign
    refine WL.v (by first | exact r_assign (v := .int _ _) rfl | exact r_assign rfl) rfl rfl rfl ?_
    refine WL.fin hK1007 (fun _ _ h => h) ?_
    refine WC.ret1 Tryz.results159 (fun _ _ h => h) rfl ?_
    exact ⟨_, rfl, rfl, st⟩
  have hk' : k < 16 := by omega
  have hb1 : sumP (fun t => if gone.testBit t then 0 else held t r) k ≤ 32 * k := sumP_le (fun i => by split <;> first | omega | exact h32 i r) k
  have h32k := h32 k r
  have e : fuK held r gone (k + 1) = fuK held r gone k - (if gone.testBit k then 0 else (held k r : Int)) := by
    unfold fuK
    show _ - ((sumP (fun t => if gone.testBit t then 0 else held t r) k + (if gone.testBit k then 0 else held k r) : Nat) : Int) = _
    split <;> simp <;> omega
  have hfk : -512 ≤ fuK held r gone k ∧ fuK held r gone k ≤ 16 := by unfold fuK; omega
  rcases hbit : gone.testBit k with _ | _
  · rw [hbit] at e
    have e : fuK held r gone (k + 1) = fuK held r gone k - (held k r : Int) := e
    refine WC.seq fun K1008 hK1008 => ?_
    -- region 3
    refine WC.region ?_
    -- R3.0 12 := model.go:239 binOp
    refine WL.v (by first | exact r_lss rfl rfl (decide_eq_true (by omega)) | exact r_lss rfl rfl (decide_eq_false (by omega)) | exact r_lss rfl rfl rfl) rfl rfl rfl ?_
    refine WL.fin hK1008 (fun _ _ h => h) ?_
    refine WC.seq fun K1009 hK1009 => ?_
    refine WC.condT rfl rfl ?_
    refine WC.skipF hK1009 (fun _ _ h => h) ?_
    refine WC.seq fun K1010 hK1010 => ?_
    refine WC.block ?_
    refine WC.seq fun K1011 hK1011 => ?_
    -- region 4
    refine WC.region ?_
    -- R4.0 13 := model.go:239 move
    refine WL.v (by first | exact r_move (v := .int _ _) rfl | exact r_move rfl) rfl rfl rfl ?_
    -- R4.1 8 := model.go:239 assign
    refine WL.v (by first | exact r_assign (v := .int _ _) rfl | exact r_assign rfl) rfl rfl rfl ?_
    refine WL.fin hK1011 (fun _ _ h => h) ?_
    refine WC.seq fun K1012 hK1012 => ?_
    -- region 5
    refine WC.region ?_
    -- R5.0 14 := model.go:240 move
    refine WL.v (by first | exact r_move (v := .int _ _) rfl | exact r_move rfl) rfl rfl rfl ?_
    -- R5.1 15 := model.go:240 move
    refine WL.v (by first | exact r_move (v := .int _ _) rfl | exact r_move rfl) rfl rfl rfl ?_
    -- R5.2 16 := model.go:240 call
    refine WL.call (r_call ty_call28 rfl) rfl rfl rfl (has_ok hg hk' st) ?_
    rintro _ w ⟨he, st⟩
    rw [hbit] at he
    subst he
    -- R5.3 17 := model.go:240 unOp
    refine WL.v (by first | exact r_notT rfl | exact r_notF rfl | exact r_not rfl) rfl rfl rfl ?_
    refine WL.fin hK1012 (fun _ _ h => h) ?_
    refine WC.condT rfl rfl ?_
    -- region 6
    refine WC.region ?_
    -- R6.0 18 := model.go:241 move
    refine WL.v (by first | exact r_move (v := .int _ _) rfl | exact r_move rfl) rfl rfl rfl ?_
    -- R6.1 19 := model.go:241 move
    refine WL.v (by first | exact r_move (v := .pointer _) rfl | exact r_move rfl) rfl rfl rfl ?_
    -- R6.2 20 := model.go:241 move
    refine WL.v (by first | exact r_move (v := .int _ _) rfl | exact r_move rfl) rfl rfl rfl ?_
    -- R6.3 21 := model.go:241 move
    refine WL.v (by first | exact r_move (v := .int _ _) rfl | exact r_move rfl) rfl rfl rfl ?_
    -- R6.4 22 := model.go:241 nilCheck
    refine WL.v (by exact r_nilCheck rfl) rfl rfl rfl ?_
    -- R6.5 23 := model.go:241 indexAddr
    refine WL.v (by exact r_indexA (j := k) ty_ar45 rfl rfl rfl hk') rfl rfl rfl ?_
    -- R6.6 24 := model.go:241 indexAddr
    refine WL.v (by exact r_indexA (j := r) ty_ar44 rfl rfl rfl hr) rfl rfl rfl ?_
    -- R6.7 25 := model.go:241 load
    refine WL.v (by exact r_load1 (v := .int .i64 (held k r : Nat)) ty_one3 rfl (hm.cell hk' hr (by omega) st)) rfl rfl rfl ?_
    -- R6.8 26 := model.go:241 binOp
    refine WL.v (by exact r_sub (r := fuK held r gone (k + 1)) rfl rfl ((wi64 (by omega) (by omega)).trans e.symm)) rfl rfl rfl ?_
    -- R6.9 7 := model.go:241 assign
    refine WL.v (by first | exact r_assign (v := .int _ _) rfl | exact r_assign rfl) rfl rfl rfl ?_
    refine WL.fin hK1010 (fun _ _ h => h) ?_
    -- region 7
    refine WC.region ?_
    -- R7.0 27 := model.go:239 binOp
    refine WL.v (by first | exact r_add rfl rfl (wi64 (by omega) (by omega)) | exact r_add rfl rfl rfl) rfl rfl rfl ?_
    -- R7.1 11 := model.go:239 move
    refine WL.v (by first | exact r_move (v := .int _ _) rfl | exact r_move rfl) rfl rfl rfl ?_
    refine WL.next hK1 (fun _ _ h => h) (k + 1) ⟨hk', st⟩ (by omega) (by repeat (first | exact sub_nil _ | refine sub_cons rfl rfl ?_))
  · rw [hbit] at e
    have e : fuK held r gone (k + 1) = fuK held r gone k := by simpa using e
    refine WC.seq fun K1013 hK1013 => ?_
    -- region 3
    refine WC.region ?_
    -- R3.0 12 := model.go:239 binOp
    refine WL.v (by first | exact r_lss rfl rfl (decide_eq_true (by omega)) | exact r_lss rfl rfl (decide_eq_false (by omega)) | exact r_lss rfl rfl rfl) rfl rfl rfl ?_
    refine WL.fin hK1013 (fun _ _ h => h) ?_
    refine WC.seq fun K1014 hK1014 => ?_
    refine WC.condT rfl rfl ?_
    refine WC.skipF hK1014 (fun _ _ h => h) ?_
    refine WC.seq fun K1015 hK1015 => ?_
    refine WC.block ?_
    refine WC.seq fun K1016 hK1016 => ?_
    -- region 4
    refine WC.region ?_
    -- R4.0 13 := model.go:239 move
    refine WL.v (by first | exact r_move (v := .int _ _) rfl | exact r_move rfl) rfl rfl rfl ?_
    -- R4.1 8 := model.go:239 assign
    refine WL.v (by first | exact r_assign (v := .int _ _) rfl | exact r_assign rfl) rfl rfl rfl ?_
    refine WL.fin hK1016 (fun _ _ h => h) ?_
    refine WC.seq fun K1017 hK1017 => ?_
    -- region 5
    refine WC.region ?_
    -- R5.0 14 := model.go:240 move
    refine WL.v (by first | exact r_move (v := .int _ _) rfl | exact r_move rfl) rfl rfl rfl ?_
    -- R5.1 15 := model.go:240 move
    refine WL.v (by first | exact r_move (v := .int _ _) rfl | exact r_move rfl) rfl rfl rfl ?_
    -- R5.2 16 := model.go:240 call
    refine WL.call (r_call ty_call28 rfl) rfl rfl rfl (has_ok hg hk' st) ?_
    rintro _ w ⟨he, st⟩
    rw [hbit] at he
    subst he
    -- R5.3 17 := model.go:240 unOp
    refine WL.v (by first | exact r_notT rfl | exact r_notF rfl | exact r_not rfl) rfl rfl rfl ?_
    refine WL.fin hK1017 (fun _ _ h => h) ?_
    refine WC.condF rfl rfl ?_
    refine WC.skipF hK1015 (fun _ _ h => h) ?_
    -- region 7
    refine WC.region ?_
    -- R7.0 27 := model.go:239 binOp
    refine WL.v (by first | exact r_add rfl rfl (wi64 (by omega) (by omega)) | exact r_add rfl rfl rfl) rfl rfl rfl ?_
    -- R7.1 11 := model.go:239 move
    refine WL.v (by first | exact r_move (v := .int _ _) rfl | exact r_move rfl) rfl rfl rfl ?_
    refine WL.next hK1 (fun _ _ h => h) (k + 1) ⟨hk', st⟩ (by omega) (by rw [e]; repeat (first | exact sub_nil _ | refine sub_cons rfl rfl ?_))
/-! The search for an order; sets are marked when they are set out for. -/
def Bls (G : Value → Option Value) : Prop := ∀ g : Nat, ∃ fb : Bool, (G (.int .u16 (g : Nat))).getD (.bool false) = .bool fb
def Mk (G : Value → Option Value) (g : Nat) : Prop := (G (.int .u16 (g : Nat))).getD (.bool false) = .bool true
set_option maxHeartbeats 8000000 in
theorem canFinish_ok {hb ho cb bf : Nat} (hD : gD w0) (h32 : ∀ t r, held t r ≤ 32) (hc32 : ∀ t r, claim t r ≤ 32) : ∀ (m gone : Nat) (G : Value → Option Value) (l : List HI) (w : World), 65536 - gone ≤ m → gone < 65536 → Bls G → (∀ g, gone ≤ g → Mk G g → ¬ CanB (fitC claim held) g.testBit) → MatAt l hb ho held → MatAt l cb (0 + 372) claim → S0 w0 ((bf, MapV (keyGood Go.Proofs.Tryz.prog 38) G) :: l) w →
    Calls Tryz.prog 188 #[.pointer (some ⟨cb, 0, none⟩), .pointer (some ⟨hb, ho, none⟩), .int .u16 (gone : Nat), .map (some bf)] w (Ret fun v w' => ∃ (bb : Bool) (G' : Value → Option Value), v = .bool bb ∧ (bb = true ↔ CanB (fitC claim held) gone.testBit) ∧ (bb = false → Bls G' ∧ ∀ g, Mk G' g → Mk G g ∨ ¬ CanB (fitC claim held) g.testBit) ∧ S0 w0 ((bf, MapV (keyGood Go.Proofs.Tryz.prog 38) G') :: l) w') := by
  intro m
  induction m with
  | zero => intro gone G l w hm hg; omega
  | succ m ih =>
    intro gone G l w hm hg hBl hG hmH hmC st
    by_cases h1 : gone = 65535
    · subst h1
      refine enter [.pointer (some ⟨cb, 0, none⟩), .pointer (some ⟨hb, ho, none⟩), .int .u16 ((65535 : Nat) : Int), .map (some bf)] Tryz.func188 rfl Tryz.ntmps188 rfl ?_
      show WC _ _ _ 79 [] [(0, .pointer (some ⟨cb, 0, none⟩)), (1, .pointer (some ⟨hb, ho, none⟩)), (2, .int .u16 ((65535 : Nat) : Int)), (3, .map (some bf))] _
      refine WC.seq fun K1018 hK1018 => ?_
      -- region 0
      refine WC.region ?_
      -- R0.0 8 := model.go:270 assign
      refine WL.v (by first | exact r_assign (v := .bool _) rfl | exact r_assign rfl) rfl rfl rfl ?_
      refine WL.fin hK1018 (fun _ _ h => h) ?_
      refine WC.seq fun K1019 hK1019 => ?_
      refine WC.seq fun K1020 hK1020 => ?_
      -- region 1
      refine WC.region ?_
      -- R1.0 15 := model.go:271 move
      refine WL.v (by first | exact r_move (v := .int _ _) rfl | exact r_move rfl) rfl rfl rfl ?_
      -- R1.1 16 := model.go:271 binOp
      refine WL.v (by exact r_eql rfl rfl (decide_eq_true rfl)) rfl rfl rfl ?_
      refine WL.fin hK1020 (fun _ _ h => h) ?_
      refine WC.condT rfl rfl ?_
      refine WC.seq fun K1021 hK1021 => ?_
      -- region 2
      refine WC.region ?_
      -- R2.0 8 := model.go:272 assign
      refine WL.v (by first | exact r_assign (v := .bool _) rfl | exact r_assign rfl) rfl rfl rfl ?_
      refine WL.fin hK1021 (fun _ _ h => h) ?_
      refine WC.ret1 Tryz.results188 (fun _ _ h => h) rfl ?_
      exact ⟨_, rfl, true, G, rfl, ⟨fun _ => .all full_bits, fun _ => rfl⟩, (fun k => by cases k), st⟩
    obtain ⟨fb, hfb⟩ := hBl gone
    rcases hfx : fb with _ | _
    rotate_left
    · subst hfx
      have hfn := hG gone (Nat.le_refl _) hfb
      refine enter [.pointer (some ⟨cb, 0, none⟩), .pointer (some ⟨hb, ho, none⟩), .int .u16 (gone : Nat), .map (some bf)] Tryz.func188 rfl Tryz.ntmps188 rfl ?_
      show WC _ _ _ 79 [] [(0, .pointer (some ⟨cb, 0, none⟩)), (1, .pointer (some ⟨hb, ho, none⟩)), (2, .int .u16 (gone : Nat)), (3, .map (some bf))] _
      refine WC.seq fun K1022 hK1022 => ?_
      -- region 0
      refine WC.region ?_
      -- R0.0 8 := model.go:270 assign
      refine WL.v (by first | exact r_assign (v := .bool _) rfl | exact r_assign rfl) rfl rfl rfl ?_
      refine WL.fin hK1022 (fun _ _ h => h) ?_
      refine WC.seq fun K1023 hK1023 => ?_
      refine WC.seq fun K1024 hK1024 => ?_
      -- region 1
      refine WC.region ?_
      -- R1.0 15 := model.go:271 move
      refine WL.v (by first | exact r_move (v := .int _ _) rfl | exact r_move rfl) rfl rfl rfl ?_
      -- R1.1 16 := model.go:271 binOp
      refine WL.v (by exact r_eql rfl rfl (decide_eq_false (by omega))) rfl rfl rfl ?_
      refine WL.fin hK1024 (fun _ _ h => h) ?_
      refine WC.condF rfl rfl ?_
      refine WC.skipF hK1023 (fun _ _ h => h) ?_
      refine WC.seq fun K1025 hK1025 => ?_
      refine WC.seq fun K1026 hK1026 => ?_
      -- region 3
      refine WC.region ?_
      -- R3.0 17 := model.go:274 move
      refine WL.v (by first | exact r_move (v := .map _) rfl | exact r_move rfl) rfl rfl rfl ?_
      -- R3.1 18 := model.go:274 move
      refine WL.v (by first | exact r_move (v := .int _ _) rfl | exact r_move rfl) rfl rfl rfl ?_
      -- R3.2 19 := model.go:274 lookup
      refine WL.v (by exact r_look (key := .int .u16 (gone : Nat)) (v := .bool true) ty_kb38 ty_mp95 ty_z14 rfl rfl st List.mem_cons_self (goodM hg) hfb) rfl rfl rfl ?_
      refine WL.fin hK1026 (fun _ _ h => h) ?_
      refine WC.condT rfl rfl ?_
      refine WC.seq fun K1027 hK1027 => ?_
      -- region 4
      refine WC.region ?_
      -- R4.0 8 := model.go:275 assign
      refine WL.v (by first | exact r_assign (v := .bool _) rfl | exact r_assign rfl) rfl rfl rfl ?_
      refine WL.fin hK1027 (fun _ _ h => h) ?_
      refine WC.ret1 Tryz.results188 (fun _ _ h => h) rfl ?_
      exact ⟨_, rfl, false, G, rfl, ⟨(fun k => by cases k), fun k => absurd k hfn⟩, fun _ => ⟨hBl, fun g h => .inl h⟩, st⟩
    subst hfx
    refine enter [.pointer (some ⟨cb, 0, none⟩), .pointer (some ⟨hb, ho, none⟩), .int .u16 (gone : Nat), .map (some bf)] Tryz.func188 rfl Tryz.ntmps188 rfl ?_
    show WC _ _ _ 79 [] [(0, .pointer (some ⟨cb, 0, none⟩)), (1, .pointer (some ⟨hb, ho, none⟩)), (2, .int .u16 (gone : Nat)), (3, .map (some bf))] _
    refine WC.seq fun K1028 hK1028 => ?_
    -- region 0
    refine WC.region ?_
    -- R0.0 8 := model.go:270 assign
    refine WL.v (by first | exact r_assign (v := .bool _) rfl | exact r_assign rfl) rfl rfl rfl ?_
    refine WL.fin hK1028 (fun _ _ h => h) ?_
    refine WC.seq fun K1029 hK1029 => ?_
    refine WC.seq fun K1030 hK1030 => ?_
    -- region 1
    refine WC.region ?_
    -- R1.0 15 := model.go:271 move
    refine WL.v (by first | exact r_move (v := .int _ _) rfl | exact r_move rfl) rfl rfl rfl ?_
    -- R1.1 16 := model.go:271 binOp
    refine WL.v (by exact r_eql rfl rfl (decide_eq_false (by omega))) rfl rfl rfl ?_
    refine WL.fin hK1030 (fun _ _ h => h) ?_
    refine WC.condF rfl rfl ?_
    refine WC.skipF hK1029 (fun _ _ h => h) ?_
    refine WC.seq fun K1031 hK1031 => ?_
    refine WC.seq fun K1032 hK1032 => ?_
    -- region 3
    refine WC.region ?_
    -- R3.0 17 := model.go:274 move
    refine WL.v (by first | exact r_move (v := .map _) rfl | exact r_move rfl) rfl rfl rfl ?_
    -- R3.1 18 := model.go:274 move
    refine WL.v (by first | exact r_move (v := .int _ _) rfl | exact r_move rfl) rfl rfl rfl ?_
    -- R3.2 19 := model.go:274 lookup
    refine WL.v (by exact r_look (key := .int .u16 (gone : Nat)) (v := .bool false) ty_kb38 ty_mp95 ty_z14 rfl rfl st List.mem_cons_self (goodM hg) hfb) rfl rfl rfl ?_
    refine WL.fin hK1032 (fun _ _ h => h) ?_
    refine WC.condF rfl rfl ?_
    refine WC.skipF hK1031 (fun _ _ h => h) ?_
    refine WC.seq fun K1033 hK1033 => ?_
    -- region 5
    refine WC.region ?_
    -- R5.0 20 := model.go:277 move
    refine WL.v (by first | exact r_move (v := .map _) rfl | exact r_move rfl) rfl rfl rfl ?_
    -- R5.1 21 := model.go:277 move
    refine WL.v (by first | exact r_move (v := .int _ _) rfl | exact r_move rfl) rfl rfl rfl ?_
    -- R5.2 None := model.go:277 mapUpdate
    refine WL.mapSet (key := .int .u16 (gone : Nat)) (val := .bool true) ty_kb38 st ty_mp95 rfl rfl rfl (goodM hg) rfl rfl ?_
    intro G0 w hS st
    refine WL.fin hK1033 (fun _ _ h => h) ?_
    refine WC.seq fun K1034 hK1034 => ?_
    -- region 6
    refine WC.region ?_
    -- R6.0 9 := model.go:278 alloc
    refine WL.allocN (m := 20) st ty_zeroN44 rfl rfl ?_
    intro b9 w st
    refine WL.fin hK1034 (fun _ _ h => h) ?_
    refine WC.seq fun K1035 hK1035 => ?_
    refine WC.seq fun K1036 hK1036 => ?_
    -- region 7
    refine WC.region ?_
    -- R7.0 22 := model.go:279 move
    refine WL.v (by first | exact r_move (v := .int _ _) rfl | exact r_move rfl) rfl rfl rfl ?_
    refine WL.fin hK1036 (fun _ _ h => h) ?_
    refine WC.block ?_
    have hB0 : Bls G0 := fun g => by
      by_cases eg : g = gone
      · subst eg; exact ⟨true, by rw [hS.1]; rfl⟩
      · rw [hS.2 _ (fun k => eg (by injection k with _ k; omega))]; exact hBl g
    have hG0 : ∀ g, Mk G0 g → g = gone ∨ Mk G g := fun g h => by
      by_cases eg : g = gone
      · exact .inl eg
      · unfold Mk at h; rw [hS.2 _ (fun k => eg (by injection k with _ k; omega))] at h; exact .inr h
    clear hS
    refine WC.loop (ι := Nat × (Nat → Int)) (fun y => [(0, .pointer (some ⟨cb, 0, none⟩)), (1, .pointer (some ⟨hb, ho, none⟩)), (2, .int .u16 (gone : Nat)), (3, .map (some bf)), (9, .pointer (some ⟨b9, 0, none⟩)), (22, .int .i64 (y.1 : Nat))])
      (fun y w' => y.1 ≤ 20 ∧ (∀ i, i < y.1 → y.2 i = fuB held i gone.testBit) ∧ S0 w0 ((b9, Row 44 20 (iF y.2)) :: (bf, MapV (keyGood Go.Proofs.Tryz.prog 38) G0) :: l) w') (fun y => 20 - y.1) (0, fun _ => 0) ⟨Nat.zero_le _, fun i hi => absurd hi (Nat.not_lt_zero _), st⟩ ?_ ?_
    · skip
      repeat (first | exact sub_nil _ | refine sub_cons rfl rfl ?_)
    clear st
    rintro ⟨k, F⟩ w ⟨hk, hF, st⟩ K1 hK1
    dsimp only at hk hF st ⊢
    by_cases h20 : k = 20
    rotate_left
    · have hk' : k < 20 := by omega
      refine WC.seq fun K1037 hK1037 => ?_
      -- region 8
      refine WC.region ?_
      -- R8.0 23 := model.go:279 binOp
      refine WL.v (by first | exact r_lss rfl rfl (decide_eq_true (by omega)) | exact r_lss rfl rfl (decide_eq_false (by omega)) | exact r_lss rfl rfl rfl) rfl rfl rfl ?_
      refine WL.fin hK1037 (fun _ _ h => h) ?_
      refine WC.seq fun K1038 hK1038 => ?_
      refine WC.condT rfl rfl ?_
      refine WC.skipF hK1038 (fun _ _ h => h) ?_
      refine WC.seq fun K1039 hK1039 => ?_
      refine WC.block ?_
      refine WC.seq fun K1040 hK1040 => ?_
      -- region 9
      refine WC.region ?_
      -- R9.0 24 := model.go:279 move
      refine WL.v (by first | exact r_move (v := .int _ _) rfl | exact r_move rfl) rfl rfl rfl ?_
      -- R9.1 10 := model.go:279 assign
      refine WL.v (by first | exact r_assign (v := .int _ _) rfl | exact r_assign rfl) rfl rfl rfl ?_
      refine WL.fin hK1040 (fun _ _ h => h) ?_
      -- region 10
      refine WC.region ?_
      -- R10.0 25 := model.go:280 move
      refine WL.v (by first | exact r_move (v := .int _ _) rfl | exact r_move rfl) rfl rfl rfl ?_
      -- R10.1 26 := model.go:280 move
      refine WL.v (by first | exact r_move (v := .pointer _) rfl | exact r_move rfl) rfl rfl rfl ?_
      -- R10.2 27 := model.go:280 move
      refine WL.v (by first | exact r_move (v := .int _ _) rfl | exact r_move rfl) rfl rfl rfl ?_
      -- R10.3 28 := model.go:280 move
      refine WL.v (by first | exact r_move (v := .int _ _) rfl | exact r_move rfl) rfl rfl rfl ?_
      -- R10.4 29 := model.go:280 call
      refine WL.call (r_call ty_call159 rfl) rfl rfl rfl (freeM_ok (r := k) hg hk' h32 (hmH.mono fun x hx => List.mem_cons_of_mem _ (List.mem_cons_of_mem _ hx)) st) ?_
      rintro _ w ⟨rfl, st⟩
      -- R10.5 30 := model.go:280 indexAddr
      refine WL.v (by exact r_indexA (j := k) ty_ar44 rfl rfl rfl hk') rfl rfl rfl ?_
      -- R10.6 None := model.go:280 store
      first | refine WL.store (v := .int _ _) st ty_one3 rfl rfl rfl (by first | decide | omega) rfl rfl ?_ | refine WL.store (v := _) st ty_one3 rfl rfl rfl (by first | decide | omega) rfl rfl ?_ | refine WL.store (v := .int _ _) st.front1 ty_one3 rfl rfl rfl (by first | decide | omega) rfl rfl ?_ | refine WL.store (v := _) st.front1 ty_one3 rfl rfl rfl (by first | decide | omega) rfl rfl ?_ | refine WL.store (v := .int _ _) st.front2 ty_one3 rfl rfl rfl (by first | decide | omega) rfl rfl ?_ | refine WL.store (v := _) st.front2 ty_one3 rfl rfl rfl (by first | decide | omega) rfl rfl ?_ | refine WL.store (v := .int _ _) st.front3 ty_one3 rfl rfl rfl (by first | decide | omega) rfl rfl ?_ | refine WL.store (v := _) st.front3 ty_one3 rfl rfl rfl (by first | decide | omega) rfl rfl ?_ | refine WL.store (v := .int _ _) st.front4 ty_one3 rfl rfl rfl (by first | decide | omega) rfl rfl ?_ | refine WL.store (v := _) st.front4 ty_one3 rfl rfl rfl (by first | decide | omega) rfl rfl ?_ | refine WL.store (v := .int _ _) st.front5 ty_one3 rfl rfl rfl (by first | decide | omega) rfl rfl ?_ | refine WL.store (v := _) st.front5 ty_one3 rfl rfl rfl (by first | decide | omega) rfl rfl ?_ | refine WL.store (v := .int _ _) st.front6 ty_one3 rfl rfl rfl (by first | decide | omega) rfl rfl ?_ | refine WL.store (v := _) st.front6 ty_one3 rfl rfl rfl (by first | decide | omega) rfl rfl ?_ | refine WL.store (v := .int _ _) st.front7 ty_one3 rfl rfl rfl (by first | decide | omega) rfl rfl ?_ | refine WL.store (v := _) st.front7 ty_one3 rfl rfl rfl (by first | decide | omega) rfl rfl ?_ | refine WL.store (v := .int _ _) st.front8 ty_one3 rfl rfl rfl (by first | decide | omega) rfl rfl ?_ | refine WL.store (v := _) st.front8 ty_one3 rfl rfl rfl (by first | decide | omega) rfl rfl ?_
      intro w st
      refine WL.fin hK1039 (fun _ _ h => h) ?_
      -- region 11
      refine WC.region ?_
      -- R11.0 31 := model.go:279 binOp
      refine WL.v (by first | exact r_add rfl rfl (wi64 (by omega) (by omega)) | exact r_add rfl rfl rfl) rfl rfl rfl ?_
      -- R11.1 22 := model.go:279 move
      refine WL.v (by first | exact r_move (v := .int _ _) rfl | exact r_move rfl) rfl rfl rfl ?_
      refine WL.next hK1 (fun _ _ h => h) (k + 1, updN F k (fuB held k gone.testBit)) ⟨hk', fun j hj => by { have hj : j < k + 1 := hj; by_cases hji : j = k; · { subst hji; exact updN_same }; · { show updN F k _ j = _; rw [updN_ne hji]; exact hF j (by omega) } }, stE (iF_set (n := 20)) st⟩ (by show 20 - (k + 1) < 20 - k; omega) (by repeat (first | exact sub_nil _ | refine sub_cons rfl rfl ?_))
    subst h20
    have st : S0 w0 ((bf, MapV (keyGood Go.Proofs.Tryz.prog 38) G0) :: (b9, Row 44 20 (iF fun i => fuB held i gone.testBit)) :: l) w := (stE (fun k hk => by unfold iF; rw [hF k hk]) st).front1
    clear hF
    refine WC.seq fun K1041 hK1041 => ?_
    -- region 8
    refine WC.region ?_
    -- R8.0 23 := model.go:279 binOp
    refine WL.v (by first | exact r_lss rfl rfl (decide_eq_true (by omega)) | exact r_lss rfl rfl (decide_eq_false (by omega)) | exact r_lss rfl rfl rfl) rfl rfl rfl ?_
    refine WL.fin hK1041 (fun _ _ h => h) ?_
    refine WC.seq fun K1042 hK1042 => ?_
    refine WC.condF rfl rfl ?_
    refine WC.exitF hK1035 (fun _ _ h => h) ?_
    refine WC.seq fun K1043 hK1043 => ?_
    refine WC.seq fun K1044 hK1044 => ?_
    -- region 12
    refine WC.region ?_
    -- R12.0 32 := model.go:282 move
    refine WL.v (by first | exact r_move (v := .int _ _) rfl | exact r_move rfl) rfl rfl rfl ?_
    -- R12.1 33 := model.go:282 unOp
    refine WL.v (by exact r_compl16 rfl hg) rfl rfl rfl ?_
    -- R12.2 34 := model.go:282 call
    refine WL.call (r_call ty_call31 rfl) rfl rfl rfl (tasks_ok hD (show 65535 - gone < 65536 by omega) st) ?_
    rintro _ w ⟨XT, hXT, st⟩
    obtain ⟨Ts, hTs⟩ : ∃ Ts, Ts = tasksP (65535 - gone) := ⟨_, rfl⟩
    have hT16 : ∀ o, o ∈ Ts → o < 16 ∧ gone.testBit o = false := fun o h => by rw [hTs] at h; have h1 := tasksP_mem.1 h; have h2 := h1.2; rw [compl16_bit hg h1.1] at h2; exact ⟨h1.1, by simpa using h2⟩
    have hTl : Ts.length ≤ 16 := by rw [hTs]; exact tasksP_len
    rw [← hTs] at hXT
    obtain ⟨at', ct, bt, rfl, hct1, hct2, hat', htcell⟩ := hXT.form
    -- R12.3 35 := model.go:282 call
    refine WL.v (by exact r_len ty_usl54 rfl) rfl rfl rfl ?_
    -- R12.4 36 := model.go:282 move
    refine WL.v (by first | exact r_move (v := .int _ _) rfl | exact r_move rfl) rfl rfl rfl ?_
    refine WL.fin hK1044 (fun _ _ h => h) ?_
    refine WC.block ?_
    refine WC.loop (ι := Nat × (Value → Option Value)) (fun y => [(0, .pointer (some ⟨cb, 0, none⟩)), (1, .pointer (some ⟨hb, ho, none⟩)), (2, .int .u16 (gone : Nat)), (3, .map (some bf)), (9, .pointer (some ⟨b9, 0, none⟩)), (34, .slice at' Ts.length ct), (35, .int .i64 (Ts.length : Nat)), (36, .int .i64 (y.1 : Nat))])
      (fun y w' => y.1 ≤ Ts.length ∧ Bls y.2 ∧ (∀ g, Mk y.2 g → g = gone ∨ Mk G g ∨ ¬ CanB (fitC claim held) g.testBit) ∧ (∀ j t, j < y.1 → Ts[j]? = some t → ¬ (fitC claim held gone.testBit t ∧ CanB (fitC claim held) (updN gone.testBit t true))) ∧ S0 w0 ((bf, MapV (keyGood Go.Proofs.Tryz.prog 38) y.2) :: (b9, Row 44 20 (iF fun i => fuB held i gone.testBit)) :: (XT ++ l)) w') (fun y => Ts.length - y.1) (0, G0) ⟨Nat.zero_le _, hB0, (fun g h => (hG0 g h).elim .inl fun h => .inr (.inl h)), fun j t hj => absurd hj (Nat.not_lt_zero _), st.perm (by classical exact List.perm_iff_count.2 fun x => by simp only [List.count_append, List.count_cons, List.count_nil, List.append_eq, List.cons_append, List.nil_append, List.append_assoc, Nat.add_zero, Nat.zero_add] <;> ac_rfl)⟩ ?_ ?_
    · skip
      repeat (first | exact sub_nil _ | refine sub_cons rfl rfl ?_)
    clear st hB0 hG0
    rintro ⟨k, G1⟩ w ⟨hk, hB1, hG1, hno, st⟩ K2 hK2
    dsimp only at hk hB1 hG1 hno st ⊢
    have hsub : ∀ x, x ∈ l → x ∈ (bf, MapV (keyGood Go.Proofs.Tryz.prog 38) G1) :: (b9, Row 44 20 (iF fun i => fuB held i gone.testBit)) :: (XT ++ l) := fun x hx => List.mem_cons_of_mem _ (List.mem_cons_of_mem _ (List.mem_append_right _ hx))
    have hsub2 : ∀ x, x ∈ l → x ∈ (b9, Row 44 20 (iF fun i => fuB held i gone.testBit)) :: (XT ++ l) := fun x hx => List.mem_cons_of_mem _ (List.mem_append_right _ hx)
    by_cases hkl : k = Ts.length
    · have hnot : ¬ CanB (fitC claim held) gone.testBit := by
        intro h
        cases h using CanB.elim with
        | all h => exact h1 (bits_full hg h)
        | step t ht hf hp h ih =>
          have hm : t ∈ Ts := by rw [hTs]; exact tasksP_mem.2 ⟨ht, by rw [compl16_bit hg ht, hf]; rfl⟩
          obtain ⟨j, hj⟩ := List.getElem?_of_mem hm
          have hjl := (List.getElem?_eq_some_iff.1 hj).1
          exact hno j t (by omega) hj ⟨hp, h⟩
      refine WC.seq fun K1045 hK1045 => ?_
      -- region 13
      refine WC.region ?_
      -- R13.0 37 := model.go:282 binOp
      refine WL.v (by first | exact r_lss rfl rfl (decide_eq_true (by omega)) | exact r_lss rfl rfl (decide_eq_false (by omega)) | exact r_lss rfl rfl rfl) rfl rfl rfl ?_
      refine WL.fin hK1045 (fun _ _ h => h) ?_
      refine WC.seq fun K1046 hK1046 => ?_
      refine WC.condF rfl rfl ?_
      refine WC.exitF hK1043 (fun _ _ h => h) ?_
      refine WC.seq fun K1047 hK1047 => ?_
      -- region 24
      refine WC.region ?_
      -- R24.0 8 := model.go:291 assign
      refine WL.v (by first | exact r_assign (v := .bool _) rfl | exact r_assign rfl) rfl rfl rfl ?_
      refine WL.fin hK1047 (fun _ _ h => h) ?_
      refine WC.ret1 Tryz.results188 (fun _ _ h => h) rfl ?_
      refine ⟨_, rfl, false, G1, rfl, ⟨(fun k => by cases k), fun k => absurd k hnot⟩, fun _ => ⟨hB1, fun g h => ?_⟩, st_dropL (st.perm (by classical exact List.perm_iff_count.2 fun x => by simp only [List.count_append, List.count_cons, List.count_nil, List.append_eq, List.cons_append, List.nil_append, List.append_assoc, Nat.add_zero, Nat.zero_add] <;> ac_rfl) : S0 w0 (((b9, Row 44 20 (iF fun i => fuB held i gone.testBit)) :: XT) ++ ((bf, MapV (keyGood Go.Proofs.Tryz.prog 38) G1) :: l)) _)⟩
      rcases hG1 g h with h | h
      · rw [h]; exact .inr hnot
      · exact h
    have hkl' : k < Ts.length := by omega
    obtain ⟨t, hv⟩ : ∃ v, Ts[k]? = some v := ⟨Ts[k], List.getElem?_eq_getElem hkl'⟩
    obtain ⟨ht16, htf⟩ := hT16 t (List.mem_of_getElem? hv)
    have hgt := or_gt htf
    have hlt : gone ||| 2 ^ t < 65536 := orlt hg (pow16 ht16)
    obtain rfl := hat' (by omega)
    have hce := htcell st (fun x hx => List.mem_cons_of_mem _ (List.mem_cons_of_mem _ (List.mem_append_left _ hx))) k t hv 0 (by decide)
    obtain ⟨p, hp⟩ : ∃ p : Nat → Bool, p = fun r => decide ((claim t r : Int) - held t r ≤ fuB held r gone.testBit) := ⟨_, rfl⟩
    have hfit : allN p 20 = true ↔ fitC claim held gone.testBit t := by
      rw [allN_iff, hp]
      exact ⟨fun h r hr => of_decide_eq_true (h r hr), fun h r hr => decide_eq_true (h r hr)⟩
    refine WC.seq fun K1048 hK1048 => ?_
    -- region 13
    refine WC.region ?_
    -- R13.0 37 := model.go:282 binOp
    refine WL.v (by first | exact r_lss rfl rfl (decide_eq_true (by omega)) | exact r_lss rfl rfl (decide_eq_false (by omega)) | exact r_lss rfl rfl rfl) rfl rfl rfl ?_
    refine WL.fin hK1048 (fun _ _ h => h) ?_
    refine WC.seq fun K1049 hK1049 => ?_
    refine WC.condT rfl rfl ?_
    refine WC.skipF hK1049 (fun _ _ h => h) ?_
    refine WC.seq fun K1050 hK1050 => ?_
    refine WC.block ?_
    refine WC.seq fun K1051 hK1051 => ?_
    -- region 14
    refine WC.region ?_
    -- R14.0 38 := model.go:282 indexAddr
    refine WL.v (by exact r_indexS (j := k) ty_sl54 rfl rfl rfl (by omega)) rfl rfl rfl ?_
    -- R14.1 39 := model.go:282 load
    refine WL.v (by exact r_load1 (v := .int .i64 (t : Nat)) ty_one31 rfl (by rw [Nat.zero_add]; exact hce)) rfl rfl rfl ?_
    -- R14.2 12 := model.go:282 assign
    refine WL.v (by first | exact r_assign (v := .int _ _) rfl | exact r_assign rfl) rfl rfl rfl ?_
    refine WL.fin hK1051 (fun _ _ h => h) ?_
    refine WC.seq fun K1052 hK1052 => ?_
    -- region 15
    refine WC.region ?_
    -- R15.0 13 := model.go:283 assign
    refine WL.v (by first | exact r_assign (v := .bool _) rfl | exact r_assign rfl) rfl rfl rfl ?_
    refine WL.fin hK1052 (fun _ _ h => h) ?_
    refine WC.seq fun K1053 hK1053 => ?_
    refine WC.seq fun K1054 hK1054 => ?_
    -- region 16
    refine WC.region ?_
    -- R16.0 40 := model.go:284 move
    refine WL.v (by first | exact r_move (v := .int _ _) rfl | exact r_move rfl) rfl rfl rfl ?_
    refine WL.fin hK1054 (fun _ _ h => h) ?_
    refine WC.block ?_
    refine WC.loop (ι := Nat) (fun r => [(0, .pointer (some ⟨cb, 0, none⟩)), (1, .pointer (some ⟨hb, ho, none⟩)), (2, .int .u16 (gone : Nat)), (3, .map (some bf)), (9, .pointer (some ⟨b9, 0, none⟩)), (34, .slice (some ⟨bt, 0, none⟩) Ts.length ct), (35, .int .i64 (Ts.length : Nat)), (36, .int .i64 (k : Nat)), (12, .int .i64 (t : Nat)), (13, .bool (allN p r)), (40, .int .i64 (r : Nat))])
      (fun r w' => r ≤ 20 ∧ S0 w0 ((bf, MapV (keyGood Go.Proofs.Tryz.prog 38) G1) :: (b9, Row 44 20 (iF fun i => fuB held i gone.testBit)) :: (XT ++ l)) w') (fun r => 20 - r) 0 ⟨Nat.zero_le _, st⟩ ?_ ?_
    · skip
      repeat (first | exact sub_nil _ | refine sub_cons rfl rfl ?_)
    clear st
    rintro r w ⟨hr, st⟩ K3 hK3
    by_cases h20 : r = 20
    rotate_left
    · have hr' : r < 20 := by omega
      rcases hall : allN p r with _ | _
      · have e : allN p (r + 1) = false := by rw [allN_succ, hall]; rfl
        refine WC.seq fun K1055 hK1055 => ?_
        -- region 17
        refine WC.region ?_
        -- R17.0 41 := model.go:284 binOp
        refine WL.v (by first | exact r_lss rfl rfl (decide_eq_true (by omega)) | exact r_lss rfl rfl (decide_eq_false (by omega)) | exact r_lss rfl rfl rfl) rfl rfl rfl ?_
        refine WL.fin hK1055 (fun _ _ h => h) ?_
        refine WC.seq fun K1056 hK1056 => ?_
        refine WC.condT rfl rfl ?_
        refine WC.skipF hK1056 (fun _ _ h => h) ?_
        refine WC.seq fun K1057 hK1057 => ?_
        refine WC.block ?_
        refine WC.seq fun K1058 hK1058 => ?_
        -- region 18
        refine WC.region ?_
        -- R18.0 42 := model.go:284 move
        refine WL.v (by first | exact r_move (v := .int _ _) rfl | exact r_move rfl) rfl rfl rfl ?_
        -- R18.1 14 := model.go:284 assign
        refine WL.v (by first | exact r_assign (v := .int _ _) rfl | exact r_assign rfl) rfl rfl rfl ?_
        refine WL.fin hK1058 (fun _ _ h => h) ?_
        -- region 19 (draws)
        refine WC.quietS st ty_mixed (by kernel_rfl) fun Kq hKq => ?_
        -- R19.0 43 := model.go:285 move
        refine QL.v (fun w st => by first | exact r_move (v := .bool _) rfl | exact r_move rfl) rfl rfl rfl ?_
        -- R19.1 44 := model.go:285 move
        refine QL.v (fun w st => by first | exact r_move (v := .bool _) rfl | exact r_move rfl) rfl rfl rfl ?_
        -- R19.2 45 := model.go:285 move
        refine QL.no rfl rfl ?_
        -- R19.3 46 := model.go:285 move
        refine QL.no rfl rfl ?_
        -- R19.4 47 := model.go:285 move
        refine QL.no rfl rfl ?_
        -- R19.5 48 := model.go:285 nilCheck
        refine QL.no rfl rfl ?_
        -- R19.6 49 := model.go:285 fieldAddr
        refine QL.no rfl rfl ?_
        -- R19.7 50 := model.go:285 indexAddr
        refine QL.no rfl rfl ?_
        -- R19.8 51 := model.go:285 indexAddr
        refine QL.no rfl rfl ?_
        -- R19.9 52 := model.go:285 load
        refine QL.no rfl rfl ?_
        -- R19.10 53 := model.go:285 move
        refine QL.no rfl rfl ?_
        -- R19.11 54 := model.go:285 move
        refine QL.no rfl rfl ?_
        -- R19.12 55 := model.go:285 move
        refine QL.no rfl rfl ?_
        -- R19.13 56 := model.go:285 nilCheck
        refine QL.no rfl rfl ?_
        -- R19.14 57 := model.go:285 indexAddr
        refine QL.no rfl rfl ?_
        -- R19.15 58 := model.go:285 indexAddr
        refine QL.no rfl rfl ?_
        -- R19.16 59 := model.go:285 load
        refine QL.no rfl rfl ?_
        -- R19.17 60 := model.go:285 binOp
        refine QL.no rfl rfl ?_
        -- R19.18 61 := model.go:285 move
        refine QL.no rfl rfl ?_
        -- R19.19 62 := model.go:285 indexAddr
        refine QL.no rfl rfl ?_
        -- R19.20 63 := model.go:285 load
        refine QL.no rfl rfl ?_
        -- R19.21 64 := model.go:285 binOp
        refine QL.no rfl rfl ?_
        -- R19.22 65 := model.go:285 pick
        refine QL.v (fun w st => by first | exact r_pickT (v := .bool _) rfl rfl | exact r_pickF (v := .bool _) rfl rfl) rfl rfl rfl ?_
        -- R19.23 13 := model.go:285 assign
        refine QL.v (fun w st => by first | exact r_assign (v := .bool _) rfl | exact r_assign rfl) rfl rfl rfl ?_
        refine QL.wl hKq fun w st => ?_
        refine WL.fin hK1057 (fun _ _ h => h) ?_
        -- region 20
        refine WC.region ?_
        -- R20.0 66 := model.go:284 binOp
        refine WL.v (by first | exact r_add rfl rfl (wi64 (by omega) (by omega)) | exact r_add rfl rfl rfl) rfl rfl rfl ?_
        -- R20.1 40 := model.go:284 move
        refine WL.v (by first | exact r_move (v := .int _ _) rfl | exact r_move rfl) rfl rfl rfl ?_
        refine WL.next hK3 (fun _ _ h => h) (r + 1) ⟨hr', st⟩ (by omega) (by rw [e]; repeat (first | exact sub_nil _ | refine sub_cons rfl rfl ?_))
      have e : allN p (r + 1) = decide ((claim t r : Int) - held t r ≤ fuB held r gone.testBit) := by rw [allN_succ, hall, hp]; rfl
      have hb1 := h32 t r
      have hb2 := hc32 t r
      refine WC.seq fun K1059 hK1059 => ?_
      -- region 17
      refine WC.region ?_
      -- R17.0 41 := model.go:284 binOp
      refine WL.v (by first | exact r_lss rfl rfl (decide_eq_true (by omega)) | exact r_lss rfl rfl (decide_eq_false (by omega)) | exact r_lss rfl rfl rfl) rfl rfl rfl ?_
      refine WL.fin hK1059 (fun _ _ h => h) ?_
      refine WC.seq fun K1060 hK1060 => ?_
      refine WC.condT rfl rfl ?_
      refine WC.skipF hK1060 (fun _ _ h => h) ?_
      refine WC.seq fun K1061 hK1061 => ?_
      refine WC.block ?_
      refine WC.seq fun K1062 hK1062 => ?_
      -- region 18
      refine WC.region ?_
      -- R18.0 42 := model.go:284 move
      refine WL.v (by first | exact r_move (v := .int _ _) rfl | exact r_move rfl) rfl rfl rfl ?_
      -- R18.1 14 := model.go:284 assign
      refine WL.v (by first | exact r_assign (v := .int _ _) rfl | exact r_assign rfl) rfl rfl rfl ?_
      refine WL.fin hK1062 (fun _ _ h => h) ?_
      -- region 19 (draws)
      refine WC.quietS st ty_mixed (by kernel_rfl) fun Kq hKq => ?_
      -- R19.0 43 := model.go:285 move
      refine QL.v (fun w st => by first | exact r_move (v := .bool _) rfl | exact r_move rfl) rfl rfl rfl ?_
      -- R19.1 44 := model.go:285 move
      refine QL.v (fun w st => by first | exact r_move (v := .bool _) rfl | exact r_move rfl) rfl rfl rfl ?_
      -- R19.2 45 := model.go:285 move
      refine QL.v (fun w st => by first | exact r_move (v := .pointer _) rfl | exact r_move rfl) rfl rfl rfl ?_
      -- R19.3 46 := model.go:285 move
      refine QL.v (fun w st => by first | exact r_move (v := .int _ _) rfl | exact r_move rfl) rfl rfl rfl ?_
      -- R19.4 47 := model.go:285 move
      refine QL.v (fun w st => by first | exact r_move (v := .int _ _) rfl | exact r_move rfl) rfl rfl rfl ?_
      -- R19.5 48 := model.go:285 nilCheck
      refine QL.v (fun w st => by exact r_nilCheck rfl) rfl rfl rfl ?_
      -- R19.6 49 := model.go:285 fieldAddr
      refine QL.v (fun w st => by exact r_field ty_fld98_8 rfl) rfl rfl rfl ?_
      -- R19.7 50 := model.go:285 indexAddr
      refine QL.v (fun w st => by exact r_indexA (j := t) ty_ar45 rfl rfl rfl ht16) rfl rfl rfl ?_
      -- R19.8 51 := model.go:285 indexAddr
      refine QL.v (fun w st => by exact r_indexA (j := r) ty_ar44 rfl rfl rfl hr') rfl rfl rfl ?_
      -- R19.9 52 := model.go:285 load
      refine QL.v (fun w st => by exact r_load1 (v := .int .i64 (claim t r : Nat)) ty_one3 rfl ((hmC.mono hsub).cell ht16 hr' (by omega) st)) rfl rfl rfl ?_
      -- R19.10 53 := model.go:285 move
      refine QL.v (fun w st => by first | exact r_move (v := .pointer _) rfl | exact r_move rfl) rfl rfl rfl ?_
      -- R19.11 54 := model.go:285 move
      refine QL.v (fun w st => by first | exact r_move (v := .int _ _) rfl | exact r_move rfl) rfl rfl rfl ?_
      -- R19.12 55 := model.go:285 move
      refine QL.v (fun w st => by first | exact r_move (v := .int _ _) rfl | exact r_move rfl) rfl rfl rfl ?_
      -- R19.13 56 := model.go:285 nilCheck
      refine QL.v (fun w st => by exact r_nilCheck rfl) rfl rfl rfl ?_
      -- R19.14 57 := model.go:285 indexAddr
      refine QL.v (fun w st => by exact r_indexA (j := t) ty_ar45 rfl rfl rfl ht16) rfl rfl rfl ?_
      -- R19.15 58 := model.go:285 indexAddr
      refine QL.v (fun w st => by exact r_indexA (j := r) ty_ar44 rfl rfl rfl hr') rfl rfl rfl ?_
      -- R19.16 59 := model.go:285 load
      refine QL.v (fun w st => by exact r_load1 (v := .int .i64 (held t r : Nat)) ty_one3 rfl ((hmH.mono hsub).cell ht16 hr' (by omega) st)) rfl rfl rfl ?_
      -- R19.17 60 := model.go:285 binOp
      refine QL.v (fun w st => by exact r_sub (r := (claim t r : Int) - held t r) rfl rfl (wi64 (by omega) (by omega))) rfl rfl rfl ?_
      -- R19.18 61 := model.go:285 move
      refine QL.v (fun w st => by first | exact r_move (v := .int _ _) rfl | exact r_move rfl) rfl rfl rfl ?_
      -- R19.19 62 := model.go:285 indexAddr
      refine QL.v (fun w st => by exact r_indexA (j := r) ty_ar44 rfl rfl rfl hr') rfl rfl rfl ?_
      -- R19.20 63 := model.go:285 load
      refine QL.v (fun w st => by exact r_load1 (v := .int .i64 (fuB held r gone.testBit)) ty_one3 rfl (c_iF (F := fun i => fuB held i gone.testBit) (List.mem_cons_of_mem _ List.mem_cons_self) hr' st)) rfl rfl rfl ?_
      -- R19.21 64 := model.go:285 binOp
      refine QL.v (fun w st => by exact r_leq (t := allN p (r + 1)) rfl rfl e.symm) rfl rfl rfl ?_
      -- R19.22 65 := model.go:285 pick
      refine QL.v (fun w st => by first | exact r_pickT (v := .bool _) rfl rfl | exact r_pickF (v := .bool _) rfl rfl) rfl rfl rfl ?_
      -- R19.23 13 := model.go:285 assign
      refine QL.v (fun w st => by first | exact r_assign (v := .bool _) rfl | exact r_assign rfl) rfl rfl rfl ?_
      refine QL.wl hKq fun w st => ?_
      refine WL.fin hK1061 (fun _ _ h => h) ?_
      -- region 20
      refine WC.region ?_
      -- R20.0 66 := model.go:284 binOp
      refine WL.v (by first | exact r_add rfl rfl (wi64 (by omega) (by omega)) | exact r_add rfl rfl rfl) rfl rfl rfl ?_
      -- R20.1 40 := model.go:284 move
      refine WL.v (by first | exact r_move (v := .int _ _) rfl | exact r_move rfl) rfl rfl rfl ?_
      refine WL.next hK3 (fun _ _ h => h) (r + 1) ⟨hr', st⟩ (by omega) (by repeat (first | exact sub_nil _ | refine sub_cons rfl rfl ?_))
    subst h20
    rcases hall : allN p 20 with _ | _
    · have hnf : ¬ fitC claim held gone.testBit t := fun h => by rw [hfit.2 h] at hall; cases hall
      refine WC.seq fun K1063 hK1063 => ?_
      -- region 17
      refine WC.region ?_
      -- R17.0 41 := model.go:284 binOp
      refine WL.v (by first | exact r_lss rfl rfl (decide_eq_true (by omega)) | exact r_lss rfl rfl (decide_eq_false (by omega)) | exact r_lss rfl rfl rfl) rfl rfl rfl ?_
      refine WL.fin hK1063 (fun _ _ h => h) ?_
      refine WC.seq fun K1064 hK1064 => ?_
      refine WC.condF rfl rfl ?_
      refine WC.exitF hK1053 (fun _ _ h => h) ?_
      refine WC.seq fun K1065 hK1065 => ?_
      -- region 21
      refine WC.region ?_
      -- R21.0 67 := model.go:287 move
      refine WL.v (by first | exact r_move (v := .bool _) rfl | exact r_move rfl) rfl rfl rfl ?_
      -- R21.1 68 := model.go:287 move
      refine WL.v (by first | exact r_move (v := .bool _) rfl | exact r_move rfl) rfl rfl rfl ?_
      -- R21.2 69 := model.go:287 move
      refine WL.no rfl rfl ?_
      -- R21.3 70 := model.go:287 move
      refine WL.no rfl rfl ?_
      -- R21.4 71 := model.go:287 move
      refine WL.no rfl rfl ?_
      -- R21.5 72 := model.go:287 move
      refine WL.no rfl rfl ?_
      -- R21.6 73 := model.go:287 call
      refine WL.no rfl rfl ?_
      -- R21.7 74 := model.go:287 binOp
      refine WL.no rfl rfl ?_
      -- R21.8 75 := model.go:287 move
      refine WL.no rfl rfl ?_
      -- R21.9 76 := model.go:287 call
      refine WL.no rfl rfl ?_
      -- R21.10 77 := model.go:287 pick
      refine WL.v (by first | exact r_pickT (v := .bool _) rfl rfl | exact r_pickF (v := .bool _) rfl rfl) rfl rfl rfl ?_
      refine WL.fin hK1065 (fun _ _ h => h) ?_
      refine WC.condF rfl rfl ?_
      refine WC.skipF hK1050 (fun _ _ h => h) ?_
      -- region 23
      refine WC.region ?_
      -- R23.0 78 := model.go:282 binOp
      refine WL.v (by first | exact r_add rfl rfl (wi64 (by omega) (by omega)) | exact r_add rfl rfl rfl) rfl rfl rfl ?_
      -- R23.1 36 := model.go:282 move
      refine WL.v (by first | exact r_move (v := .int _ _) rfl | exact r_move rfl) rfl rfl rfl ?_
      refine WL.next hK2 (fun _ _ h => h) (k + 1, G1) ⟨hkl', hB1, hG1, fun j u hj hu => ?_, st⟩ (by show Ts.length - (k + 1) < Ts.length - k; omega) (by repeat (first | exact sub_nil _ | refine sub_cons rfl rfl ?_))
      by_cases ej : j = k
      · subst ej; rw [hv] at hu; cases hu; exact fun h => hnf h.1
      · exact hno j u (by have hj : j < k + 1 := hj; omega) hu
    have hF := hfit.1 hall
    refine WC.seq fun K1066 hK1066 => ?_
    -- region 17
    refine WC.region ?_
    -- R17.0 41 := model.go:284 binOp
    refine WL.v (by first | exact r_lss rfl rfl (decide_eq_true (by omega)) | exact r_lss rfl rfl (decide_eq_false (by omega)) | exact r_lss rfl rfl rfl) rfl rfl rfl ?_
    refine WL.fin hK1066 (fun _ _ h => h) ?_
    refine WC.seq fun K1067 hK1067 => ?_
    refine WC.condF rfl rfl ?_
    refine WC.exitF hK1053 (fun _ _ h => h) ?_
    refine WC.seq fun K1068 hK1068 => ?_
    -- region 21
    refine WC.region ?_
    -- R21.0 67 := model.go:287 move
    refine WL.v (by first | exact r_move (v := .bool _) rfl | exact r_move rfl) rfl rfl rfl ?_
    -- R21.1 68 := model.go:287 move
    refine WL.v (by first | exact r_move (v := .bool _) rfl | exact r_move rfl) rfl rfl rfl ?_
    -- R21.2 69 := model.go:287 move
    refine WL.v (by first | exact r_move (v := .pointer _) rfl | exact r_move rfl) rfl rfl rfl ?_
    -- R21.3 70 := model.go:287 move
    refine WL.v (by first | exact r_move (v := .pointer _) rfl | exact r_move rfl) rfl rfl rfl ?_
    -- R21.4 71 := model.go:287 move
    refine WL.v (by first | exact r_move (v := .int _ _) rfl | exact r_move rfl) rfl rfl rfl ?_
    -- R21.5 72 := model.go:287 move
    refine WL.v (by first | exact r_move (v := .int _ _) rfl | exact r_move rfl) rfl rfl rfl ?_
    -- R21.6 73 := model.go:287 call
    refine WL.call (r_call ty_call30 rfl) rfl rfl rfl (bit_ok ht16 st) ?_
    rintro _ w ⟨rfl, st⟩
    -- R21.7 74 := model.go:287 binOp
    refine WL.v (by exact r_or (r := ((gone ||| 2 ^ t : Nat) : Int)) rfl rfl (or16 hg (pow16 ht16))) rfl rfl rfl ?_
    -- R21.8 75 := model.go:287 move
    refine WL.v (by first | exact r_move (v := .map _) rfl | exact r_move rfl) rfl rfl rfl ?_
    -- R21.9 76 := model.go:287 call
    refine WL.call (r_call ty_call188 rfl) rfl rfl rfl (ih (gone ||| 2 ^ t) G1 _ _ (by omega) hlt hB1 (fun g hgg hM => by rcases hG1 g hM with k | k | k; exact absurd k (by omega); exact hG g (by omega) k; exact k) (hmH.mono hsub2) (hmC.mono hsub2) st) ?_
    rintro _ w ⟨bb, G', rfl, hbb, hG', st⟩
    rw [or_upd] at hbb
    -- R21.10 77 := model.go:287 pick
    refine WL.v (by first | exact r_pickT (v := .bool _) rfl rfl | exact r_pickF (v := .bool _) rfl rfl) rfl rfl rfl ?_
    refine WL.fin hK1068 (fun _ _ h => h) ?_
    rcases bb with _ | _
    · obtain ⟨hB2, hG2⟩ := hG' rfl
      refine WC.condF rfl rfl ?_
      refine WC.skipF hK1050 (fun _ _ h => h) ?_
      -- region 23
      refine WC.region ?_
      -- R23.0 78 := model.go:282 binOp
      refine WL.v (by first | exact r_add rfl rfl (wi64 (by omega) (by omega)) | exact r_add rfl rfl rfl) rfl rfl rfl ?_
      -- R23.1 36 := model.go:282 move
      refine WL.v (by first | exact r_move (v := .int _ _) rfl | exact r_move rfl) rfl rfl rfl ?_
      refine WL.next hK2 (fun _ _ h => h) (k + 1, G') ⟨hkl', hB2, (fun g h => (hG2 g h).elim (fun h => hG1 g h) fun h => .inr (.inr h)), fun j u hj hu => ?_, st⟩ (by show Ts.length - (k + 1) < Ts.length - k; omega) (by repeat (first | exact sub_nil _ | refine sub_cons rfl rfl ?_))
      by_cases ej : j = k
      · subst ej; rw [hv] at hu; cases hu; exact fun h => by have := hbb.2 h.2; cases this
      · exact hno j u (by have hj : j < k + 1 := hj; omega) hu
    · skip
      refine WC.condT rfl rfl ?_
      refine WC.seq fun K1069 hK1069 => ?_
      -- region 22
      refine WC.region ?_
      -- R22.0 8 := model.go:288 assign
      refine WL.v (by first | exact r_assign (v := .bool _) rfl | exact r_assign rfl) rfl rfl rfl ?_
      refine WL.fin hK1069 (fun _ _ h => h) ?_
      refine WC.ret1 Tryz.results188 (fun _ _ h => h) rfl ?_
      exact ⟨_, rfl, true, G', rfl, ⟨fun _ => .step t ht16 htf hF (hbb.1 rfl), fun _ => rfl⟩, (fun k => by cases k), st_dropL (st.perm (by classical exact List.perm_iff_count.2 fun x => by simp only [List.count_append, List.count_cons, List.count_nil, List.append_eq, List.cons_append, List.nil_append, List.append_assoc, Nat.add_zero, Nat.zero_add] <;> ac_rfl) : S0 w0 (((b9, Row 44 20 (iF fun i => fuB held i gone.testBit)) :: XT) ++ ((bf, MapV (keyGood Go.Proofs.Tryz.prog 38) G') :: l)) _)⟩
set_option maxHeartbeats 4000000 in
theorem mayHave_ok {u : Nat} (hD : gD w0) (ht : t < 16) (hr : r < 20) (hu : u ≤ 16) (hh : ∀ t r, s.held t r ≤ 16) (hcl : ∀ t r, s.claim t r ≤ 16) (hct : CT s) (hm : moI bm (mrOf s) pv tv mb ∈ l) (st : S0 w0 l w) :
    Calls Tryz.prog 158 #[.pointer (some ⟨bm, 0, none⟩), .int .i64 (t : Nat), .int .i64 (r : Nat), .int .i64 (u : Nat)] w (Ret fun v w' => v = .bool (admissibleP s t r u) ∧ S0 w0 l w') := by
  have hfe : fuB s.held r (Nat.testBit 0) = freeP s.held r := by
    have : (Nat.testBit 0 : Nat → Bool) = fun _ => false := by funext i; exact Nat.zero_testBit i
    rw [this]; exact fuB_none
  by_cases hf : freeP s.held r < u
  · have e : admissibleP s t r u = false := by unfold admissibleP; rw [if_pos hf]
    rw [e]
    refine enter [.pointer (some ⟨bm, 0, none⟩), .int .i64 (t : Nat), .int .i64 (r : Nat), .int .i64 (u : Nat)] Tryz.func158 rfl Tryz.ntmps158 rfl ?_
    show WC _ _ _ 54 [] [(0, .pointer (some ⟨bm, 0, none⟩)), (1, .int .i64 (t : Nat)), (2, .int .i64 (r : Nat)), (3, .int .i64 (u : Nat))] _
    refine WC.seq fun K1070 hK1070 => ?_
    -- region 0
    refine WC.region ?_
    -- R0.0 8 := model.go:248 assign
    refine WL.v (by first | exact r_assign (v := .bool _) rfl | exact r_assign rfl) rfl rfl rfl ?_
    refine WL.fin hK1070 (fun _ _ h => h) ?_
    refine WC.seq fun K1071 hK1071 => ?_
    refine WC.seq fun K1072 hK1072 => ?_
    -- region 1
    refine WC.region ?_
    -- R1.0 12 := model.go:249 move
    refine WL.v (by first | exact r_move (v := .int _ _) rfl | exact r_move rfl) rfl rfl rfl ?_
    -- R1.1 13 := model.go:249 move
    refine WL.v (by first | exact r_move (v := .pointer _) rfl | exact r_move rfl) rfl rfl rfl ?_
    -- R1.2 14 := model.go:249 nilCheck
    refine WL.v (by exact r_nilCheck rfl) rfl rfl rfl ?_
    -- R1.3 15 := model.go:249 fieldAddr
    refine WL.v (by exact r_field ty_fld98_7 rfl) rfl rfl rfl ?_
    -- R1.4 16 := model.go:249 move
    refine WL.v (by first | exact r_move (v := .int _ _) rfl | exact r_move rfl) rfl rfl rfl ?_
    -- R1.5 17 := model.go:249 call
    refine WL.call (r_call ty_call159 rfl) rfl rfl rfl (freeM_ok (r := r) (gone := 0) (held := s.held) (by decide) hr (fun t r => Nat.le_trans (hh t r) (by decide)) (matMH hm) st) ?_
    rintro _ w ⟨rfl, st⟩
    -- R1.6 18 := model.go:249 binOp
    refine WL.v (by exact r_gtr rfl rfl (decide_eq_true (by rw [hfe]; omega))) rfl rfl rfl ?_
    refine WL.fin hK1072 (fun _ _ h => h) ?_
    refine WC.condT rfl rfl ?_
    refine WC.seq fun K1073 hK1073 => ?_
    -- region 2
    refine WC.region ?_
    -- R2.0 8 := model.go:250 assign
    refine WL.v (by first | exact r_assign (v := .bool _) rfl | exact r_assign rfl) rfl rfl rfl ?_
    refine WL.fin hK1073 (fun _ _ h => h) ?_
    refine WC.ret1 Tryz.results158 (fun _ _ h => h) rfl ?_
    exact ⟨_, rfl, rfl, st⟩
  by_cases hm3 : s.mode = 3
  rotate_left
  · have e : admissibleP s t r u = true := by unfold admissibleP; rw [if_neg hf, if_neg hm3]
    rw [e]
    refine enter [.pointer (some ⟨bm, 0, none⟩), .int .i64 (t : Nat), .int .i64 (r : Nat), .int .i64 (u : Nat)] Tryz.func158 rfl Tryz.ntmps158 rfl ?_
    show WC _ _ _ 54 [] [(0, .pointer (some ⟨bm, 0, none⟩)), (1, .int .i64 (t : Nat)), (2, .int .i64 (r : Nat)), (3, .int .i64 (u : Nat))] _
    refine WC.seq fun K1074 hK1074 => ?_
    -- region 0
    refine WC.region ?_
    -- R0.0 8 := model.go:248 assign
    refine WL.v (by first | exact r_assign (v := .bool _) rfl | exact r_assign rfl) rfl rfl rfl ?_
    refine WL.fin hK1074 (fun _ _ h => h) ?_
    refine WC.seq fun K1075 hK1075 => ?_
    refine WC.seq fun K1076 hK1076 => ?_
    -- region 1
    refine WC.region ?_
    -- R1.0 12 := model.go:249 move
    refine WL.v (by first | exact r_move (v := .int _ _) rfl | exact r_move rfl) rfl rfl rfl ?_
    -- R1.1 13 := model.go:249 move
    refine WL.v (by first | exact r_move (v := .pointer _) rfl | exact r_move rfl) rfl rfl rfl ?_
    -- R1.2 14 := model.go:249 nilCheck
    refine WL.v (by exact r_nilCheck rfl) rfl rfl rfl ?_
    -- R1.3 15 := model.go:249 fieldAddr
    refine WL.v (by exact r_field ty_fld98_7 rfl) rfl rfl rfl ?_
    -- R1.4 16 := model.go:249 move
    refine WL.v (by first | exact r_move (v := .int _ _) rfl | exact r_move rfl) rfl rfl rfl ?_
    -- R1.5 17 := model.go:249 call
    refine WL.call (r_call ty_call159 rfl) rfl rfl rfl (freeM_ok (r := r) (gone := 0) (held := s.held) (by decide) hr (fun t r => Nat.le_trans (hh t r) (by decide)) (matMH hm) st) ?_
    rintro _ w ⟨rfl, st⟩
    -- R1.6 18 := model.go:249 binOp
    refine WL.v (by exact r_gtr rfl rfl (decide_eq_false (by rw [hfe]; omega))) rfl rfl rfl ?_
    refine WL.fin hK1076 (fun _ _ h => h) ?_
    refine WC.condF rfl rfl ?_
    refine WC.skipF hK1075 (fun _ _ h => h) ?_
    refine WC.seq fun K1077 hK1077 => ?_
    refine WC.seq fun K1078 hK1078 => ?_
    -- region 3
    refine WC.region ?_
    -- R3.0 19 := model.go:252 move
    refine WL.v (by first | exact r_move (v := .pointer _) rfl | exact r_move rfl) rfl rfl rfl ?_
    -- R3.1 20 := model.go:252 nilCheck
    refine WL.v (by exact r_nilCheck rfl) rfl rfl rfl ?_
    -- R3.2 21 := model.go:252 fieldAddr
    refine WL.v (by exact r_field ty_fld98_0 rfl) rfl rfl rfl ?_
    -- R3.3 22 := model.go:252 load
    refine WL.v (by exact r_load1 (v := .int .i64 (s.mode : Nat)) ty_one40 rfl (c_m hm (by decide) rfl st)) rfl rfl rfl ?_
    -- R3.4 23 := model.go:252 binOp
    refine WL.v (by exact r_neq rfl rfl (decide_eq_true (by omega))) rfl rfl rfl ?_
    refine WL.fin hK1078 (fun _ _ h => h) ?_
    refine WC.condT rfl rfl ?_
    refine WC.seq fun K1079 hK1079 => ?_
    -- region 4
    refine WC.region ?_
    -- R4.0 8 := model.go:253 assign
    refine WL.v (by first | exact r_assign (v := .bool _) rfl | exact r_assign rfl) rfl rfl rfl ?_
    refine WL.fin hK1079 (fun _ _ h => h) ?_
    refine WC.ret1 Tryz.results158 (fun _ _ h => h) rfl ?_
    exact ⟨_, rfl, rfl, st⟩
  have hhq := hh t r
  have hh32 : ∀ a b, upd2 s.held t r (s.held t r + u) a b ≤ 32 := fun a b => by
    unfold upd2
    split
    · omega
    · exact Nat.le_trans (hh a b) (by decide)
  refine enter [.pointer (some ⟨bm, 0, none⟩), .int .i64 (t : Nat), .int .i64 (r : Nat), .int .i64 (u : Nat)] Tryz.func158 rfl Tryz.ntmps158 rfl ?_
  show WC _ _ _ 54 [] [(0, .pointer (some ⟨bm, 0, none⟩)), (1, .int .i64 (t : Nat)), (2, .int .i64 (r : Nat)), (3, .int .i64 (u : Nat))] _
  refine WC.seq fun K1080 hK1080 => ?_
  -- region 0
  refine WC.region ?_
  -- R0.0 8 := model.go:248 assign
  refine WL.v (by first | exact r_assign (v := .bool _) rfl | exact r_assign rfl) rfl rfl rfl ?_
  refine WL.fin hK1080 (fun _ _ h => h) ?_
  refine WC.seq fun K1081 hK1081 => ?_
  refine WC.seq fun K1082 hK1082 => ?_
  -- region 1
  refine WC.region ?_
  -- R1.0 12 := model.go:249 move
  refine WL.v (by first | exact r_move (v := .int _ _) rfl | exact r_move rfl) rfl rfl rfl ?_
  -- R1.1 13 := model.go:249 move
  refine WL.v (by first | exact r_move (v := .pointer _) rfl | exact r_move rfl) rfl rfl rfl ?_
  -- R1.2 14 := model.go:249 nilCheck
  refine WL.v (by exact r_nilCheck rfl) rfl rfl rfl ?_
  -- R1.3 15 := model.go:249 fieldAddr
  refine WL.v (by exact r_field ty_fld98_7 rfl) rfl rfl rfl ?_
  -- R1.4 16 := model.go:249 move
  refine WL.v (by first | exact r_move (v := .int _ _) rfl | exact r_move rfl) rfl rfl rfl ?_
  -- R1.5 17 := model.go:249 call
  refine WL.call (r_call ty_call159 rfl) rfl rfl rfl (freeM_ok (r := r) (gone := 0) (held := s.held) (by decide) hr (fun t r => Nat.le_trans (hh t r) (by decide)) (matMH hm) st) ?_
  rintro _ w ⟨rfl, st⟩
  -- R1.6 18 := model.go:249 binOp
  refine WL.v (by exact r_gtr rfl rfl (decide_eq_false (by rw [hfe]; omega))) rfl rfl rfl ?_
  refine WL.fin hK1082 (fun _ _ h => h) ?_
  refine WC.condF rfl rfl ?_
  refine WC.skipF hK1081 (fun _ _ h => h) ?_
  refine WC.seq fun K1083 hK1083 => ?_
  refine WC.seq fun K1084 hK1084 => ?_
  -- region 3
  refine WC.region ?_
  -- R3.0 19 := model.go:252 move
  refine WL.v (by first | exact r_move (v := .pointer _) rfl | exact r_move rfl) rfl rfl rfl ?_
  -- R3.1 20 := model.go:252 nilCheck
  refine WL.v (by exact r_nilCheck rfl) rfl rfl rfl ?_
  -- R3.2 21 := model.go:252 fieldAddr
  refine WL.v (by exact r_field ty_fld98_0 rfl) rfl rfl rfl ?_
  -- R3.3 22 := model.go:252 load
  refine WL.v (by exact r_load1 (v := .int .i64 (s.mode : Nat)) ty_one40 rfl (c_m hm (by decide) rfl st)) rfl rfl rfl ?_
  -- R3.4 23 := model.go:252 binOp
  refine WL.v (by exact r_neq rfl rfl (decide_eq_false (by omega))) rfl rfl rfl ?_
  refine WL.fin hK1084 (fun _ _ h => h) ?_
  refine WC.condF rfl rfl ?_
  refine WC.skipF hK1083 (fun _ _ h => h) ?_
  refine WC.seq fun K1085 hK1085 => ?_
  -- region 5
  refine WC.region ?_
  -- R5.0 24 := model.go:255 move
  refine WL.v (by first | exact r_move (v := .pointer _) rfl | exact r_move rfl) rfl rfl rfl ?_
  -- R5.1 25 := model.go:255 nilCheck
  refine WL.v (by exact r_nilCheck rfl) rfl rfl rfl ?_
  -- R5.2 26 := model.go:255 fieldAddr
  refine WL.v (by exact r_field ty_fld98_7 rfl) rfl rfl rfl ?_
  -- R5.3 27 := model.go:255 load
  refine WL.v (by exact r_loadN (f := hM s.held) ty_agg45 rfl (fun k hk => c_m hm (by omega) (by rw [show 0 + 52 + k = 52 + k by omega]; exact mo_held hk) st)) rfl rfl rfl ?_
  -- R5.4 9 := model.go:255 alloc
  refine WL.allocN (m := 320) st ty_zeroN45 rfl rfl ?_
  intro b9 w st
  -- R5.5 None := model.go:255 store
  refine WL.storeN (v := hM s.held) st ty_agg45 rfl rfl (fun _ _ => rfl) (by decide) rfl rfl ?_
  intro w st
  have st : S0 w0 ((b9, Row 45 320 (hM s.held)) :: l) w := stE (fun k hk => by rw [upds_eq, if_pos (by omega), Nat.sub_zero]) st
  refine WL.fin hK1085 (fun _ _ h => h) ?_
  refine WC.seq fun K1086 hK1086 => ?_
  -- region 6 (draws)
  refine WC.tailS 9 st ty_mixed (by kernel_rfl) fun w st Kq hKq => ?_
  -- R6.0 28 := model.go:256 move
  refine SL.v (by first | exact r_move (v := .int _ _) rfl | exact r_move rfl) rfl rfl rfl ?_
  -- R6.1 29 := model.go:256 move
  refine SL.v (by first | exact r_move (v := .int _ _) rfl | exact r_move rfl) rfl rfl rfl ?_
  -- R6.2 30 := model.go:256 indexAddr
  refine SL.v (by exact r_indexA (j := t) ty_ar45 rfl rfl rfl ht) rfl rfl rfl ?_
  -- R6.3 31 := model.go:256 indexAddr
  refine SL.v (by exact r_indexA (j := r) ty_ar44 rfl rfl rfl hr) rfl rfl rfl ?_
  -- R6.4 32 := model.go:256 load
  refine SL.v (by exact r_load1 (v := .int .i64 (s.held t r : Nat)) ty_one3 rfl ((matM List.mem_cons_self).cell ht hr (by omega) st)) rfl rfl rfl ?_
  -- R6.5 33 := model.go:256 move
  refine SL.v (by first | exact r_move (v := .int _ _) rfl | exact r_move rfl) rfl rfl rfl ?_
  -- R6.6 34 := model.go:256 binOp
  refine SL.v (by exact r_add (r := ((s.held t r + u : Nat) : Int)) rfl rfl ((wi64 (by omega) (by omega)).trans (by omega))) rfl rfl rfl ?_
  -- R6.7 35 := model.go:256 indexAddr
  refine SL.v (by exact r_indexA (j := t) ty_ar45 rfl rfl rfl ht) rfl rfl rfl ?_
  -- R6.8 36 := model.go:256 indexAddr
  refine SL.v (by exact r_indexA (j := r) ty_ar44 rfl rfl rfl hr) rfl rfl rfl ?_
  refine SL.fin hKq ?_
  -- R6.9 None := model.go:256 store
  refine WL.store (v := .int .i64 ((s.held t r + u : Nat) : Int)) st ty_one3 rfl rfl rfl (by omega) rfl rfl ?_
  intro w st
  have st : S0 w0 ((b9, Row 45 320 (hM (upd2 s.held t r (s.held t r + u)))) :: l) w := stE (hM_set2 ht hr) st
  refine WL.fin hK1086 (fun _ _ h => h) ?_
  refine WC.seq fun K1087 hK1087 => ?_
  -- region 7
  refine WC.region ?_
  -- R7.0 10 := model.go:259 assign
  refine WL.v (by first | exact r_assign (v := .int _ _) rfl | exact r_assign rfl) rfl rfl rfl ?_
  refine WL.fin hK1087 (fun _ _ h => h) ?_
  refine WC.seq fun K1088 hK1088 => ?_
  refine WC.seq fun K1089 hK1089 => ?_
  -- region 8
  refine WC.region ?_
  -- R8.0 37 := model.go:260 move
  refine WL.v (by first | exact r_move (v := .int _ _) rfl | exact r_move rfl) rfl rfl rfl ?_
  refine WL.fin hK1089 (fun _ _ h => h) ?_
  refine WC.block ?_
  obtain ⟨hA, hHA⟩ : ∃ hA, hA = upd2 s.held t r (s.held t r + u) := ⟨_, rfl⟩
  rw [← hHA] at st hh32
  refine WC.loop (ι := Nat) (fun k => [(0, .pointer (some ⟨bm, 0, none⟩)), (9, .pointer (some ⟨b9, 0, none⟩)), (10, .int .u16 (idleM hA k : Nat)), (37, .int .i64 (k : Nat))])
    (fun k w' => k ≤ 16 ∧ S0 w0 ((b9, Row 45 320 (hM hA)) :: l) w') (fun k => 16 - k) 0 ⟨Nat.zero_le _, st⟩ ?_ ?_
  · skip
    repeat (first | exact sub_nil _ | refine sub_cons rfl rfl ?_)
  clear st
  rintro k w ⟨hk, st⟩ K1 hK1
  have hmH : MatAt ((b9, Row 45 320 (hM hA)) :: l) b9 0 hA := matM List.mem_cons_self
  by_cases h16 : k = 16
  rotate_left
  · have hk' : k < 16 := by omega
    have hlt : idleM hA k < 65536 := maskP_lt _ k (by omega)
    have e : idleM hA (k + 1) = if allN (fun r => decide (hA k r = 0)) 20 then idleM hA k ||| 2 ^ k else idleM hA k := rfl
    rcases hz : allN (fun r => decide (hA k r = 0)) 20 with _ | _
    · rw [hz] at e
      have e : idleM hA (k + 1) = idleM hA k := e
      refine WC.seq fun K1090 hK1090 => ?_
      -- region 9
      refine WC.region ?_
      -- R9.0 38 := model.go:260 binOp
      refine WL.v (by first | exact r_lss rfl rfl (decide_eq_true (by omega)) | exact r_lss rfl rfl (decide_eq_false (by omega)) | exact r_lss rfl rfl rfl) rfl rfl rfl ?_
      refine WL.fin hK1090 (fun _ _ h => h) ?_
      refine WC.seq fun K1091 hK1091 => ?_
      refine WC.condT rfl rfl ?_
      refine WC.skipF hK1091 (fun _ _ h => h) ?_
      refine WC.seq fun K1092 hK1092 => ?_
      refine WC.block ?_
      refine WC.seq fun K1093 hK1093 => ?_
      -- region 10
      refine WC.region ?_
      -- R10.0 39 := model.go:260 move
      refine WL.v (by first | exact r_move (v := .int _ _) rfl | exact r_move rfl) rfl rfl rfl ?_
      -- R10.1 11 := model.go:260 assign
      refine WL.v (by first | exact r_assign (v := .int _ _) rfl | exact r_assign rfl) rfl rfl rfl ?_
      refine WL.fin hK1093 (fun _ _ h => h) ?_
      refine WC.seq fun K1094 hK1094 => ?_
      -- region 11
      refine WC.region ?_
      -- R11.0 40 := model.go:261 move
      refine WL.v (by first | exact r_move (v := .int _ _) rfl | exact r_move rfl) rfl rfl rfl ?_
      -- R11.1 41 := model.go:261 indexAddr
      refine WL.v (by exact r_indexA (j := k) ty_ar45 rfl rfl rfl hk') rfl rfl rfl ?_
      -- R11.2 42 := model.go:261 load
      refine WL.v (by exact r_loadN (f := (fun r => .int .i64 (hA k r : Nat))) ty_agg44 rfl (fun r hr => hmH.cell hk' hr (by omega) st)) rfl rfl rfl ?_
      -- R11.3 43 := model.go:261 build
      refine WL.v (by exact r_buildN (n := 20) (z := fun _ => .int .i64 0) (v := fun _ => .int .i64 0) (ps := []) ty_pl44 ty_zeroN44 rfl fill_nil) rfl rfl rfl ?_
      -- R11.4 44 := model.go:261 binOp
      refine WL.v (by exact r_aeql (n := 20) (F := fun r => .int .i64 (hA k r : Nat)) (G := fun _ => .int .i64 0) (t := false) eqH List.length_replicate rfl rfl (fun i hi => by rw [rep_get hi]; exact KFit.int) ⟨(fun q => by cases q), fun q => by rw [allN_iff.2 fun r hr => decide_eq_true (by have := q r hr; injection this with _ h2; omega)] at hz; cases hz⟩) rfl rfl rfl ?_
      refine WL.fin hK1094 (fun _ _ h => h) ?_
      refine WC.condF rfl rfl ?_
      refine WC.skipF hK1092 (fun _ _ h => h) ?_
      -- region 13
      refine WC.region ?_
      -- R13.0 49 := model.go:260 binOp
      refine WL.v (by first | exact r_add rfl rfl (wi64 (by omega) (by omega)) | exact r_add rfl rfl rfl) rfl rfl rfl ?_
      -- R13.1 37 := model.go:260 move
      refine WL.v (by first | exact r_move (v := .int _ _) rfl | exact r_move rfl) rfl rfl rfl ?_
      refine WL.next hK1 (fun _ _ h => h) (k + 1) ⟨hk', st⟩ (by omega) (by rw [e]; repeat (first | exact sub_nil _ | refine sub_cons rfl rfl ?_))
    · rw [hz] at e
      have e : idleM hA (k + 1) = idleM hA k ||| 2 ^ k := e
      refine WC.seq fun K1095 hK1095 => ?_
      -- region 9
      refine WC.region ?_
      -- R9.0 38 := model.go:260 binOp
      refine WL.v (by first | exact r_lss rfl rfl (decide_eq_true (by omega)) | exact r_lss rfl rfl (decide_eq_false (by omega)) | exact r_lss rfl rfl rfl) rfl rfl rfl ?_
      refine WL.fin hK1095 (fun _ _ h => h) ?_
      refine WC.seq fun K1096 hK1096 => ?_
      refine WC.condT rfl rfl ?_
      refine WC.skipF hK1096 (fun _ _ h => h) ?_
      refine WC.seq fun K1097 hK1097 => ?_
      refine WC.block ?_
      refine WC.seq fun K1098 hK1098 => ?_
      -- region 10
      refine WC.region ?_
      -- R10.0 39 := model.go:260 move
      refine WL.v (by first | exact r_move (v := .int _ _) rfl | exact r_move rfl) rfl rfl rfl ?_
      -- R10.1 11 := model.go:260 assign
      refine WL.v (by first | exact r_assign (v := .int _ _) rfl | exact r_assign rfl) rfl rfl rfl ?_
      refine WL.fin hK1098 (fun _ _ h => h) ?_
      refine WC.seq fun K1099 hK1099 => ?_
      -- region 11
      refine WC.region ?_
      -- R11.0 40 := model.go:261 move
      refine WL.v (by first | exact r_move (v := .int _ _) rfl | exact r_move rfl) rfl rfl rfl ?_
      -- R11.1 41 := model.go:261 indexAddr
      refine WL.v (by exact r_indexA (j := k) ty_ar45 rfl rfl rfl hk') rfl rfl rfl ?_
      -- R11.2 42 := model.go:261 load
      refine WL.v (by exact r_loadN (f := (fun r => .int .i64 (hA k r : Nat))) ty_agg44 rfl (fun r hr => hmH.cell hk' hr (by omega) st)) rfl rfl rfl ?_
      -- R11.3 43 := model.go:261 build
      refine WL.v (by exact r_buildN (n := 20) (z := fun _ => .int .i64 0) (v := fun _ => .int .i64 0) (ps := []) ty_pl44 ty_zeroN44 rfl fill_nil) rfl rfl rfl ?_
      -- R11.4 44 := model.go:261 binOp
      refine WL.v (by exact r_aeql (n := 20) (F := fun r => .int .i64 (hA k r : Nat)) (G := fun _ => .int .i64 0) (t := true) eqH List.length_replicate rfl rfl (fun i hi => by rw [rep_get hi]; exact KFit.int) ⟨fun _ r hr => by rw [of_decide_eq_true (allN_iff.1 hz r hr)]; rfl, fun _ => rfl⟩) rfl rfl rfl ?_
      refine WL.fin hK1099 (fun _ _ h => h) ?_
      refine WC.condT rfl rfl ?_
      -- region 12
      refine WC.region ?_
      -- R12.0 45 := model.go:262 move
      refine WL.v (by first | exact r_move (v := .int _ _) rfl | exact r_move rfl) rfl rfl rfl ?_
      -- R12.1 46 := model.go:262 move
      refine WL.v (by first | exact r_move (v := .int _ _) rfl | exact r_move rfl) rfl rfl rfl ?_
      -- R12.2 47 := model.go:262 call
      refine WL.call (r_call ty_call30 rfl) rfl rfl rfl (bit_ok hk' st) ?_
      rintro _ w ⟨rfl, st⟩
      -- R12.3 48 := model.go:262 binOp
      refine WL.v (by exact r_or (r := ((idleM hA k ||| 2 ^ k : Nat) : Int)) rfl rfl (or16 hlt (pow16 hk'))) rfl rfl rfl ?_
      -- R12.4 10 := model.go:262 assign
      refine WL.v (by first | exact r_assign (v := .int _ _) rfl | exact r_assign rfl) rfl rfl rfl ?_
      refine WL.fin hK1097 (fun _ _ h => h) ?_
      -- region 13
      refine WC.region ?_
      -- R13.0 49 := model.go:260 binOp
      refine WL.v (by first | exact r_add rfl rfl (wi64 (by omega) (by omega)) | exact r_add rfl rfl rfl) rfl rfl rfl ?_
      -- R13.1 37 := model.go:260 move
      refine WL.v (by first | exact r_move (v := .int _ _) rfl | exact r_move rfl) rfl rfl rfl ?_
      refine WL.next hK1 (fun _ _ h => h) (k + 1) ⟨hk', st⟩ (by omega) (by rw [e]; repeat (first | exact sub_nil _ | refine sub_cons rfl rfl ?_))
  subst h16
  have hlt : idleM hA 16 < 65536 := maskP_lt _ 16 (Nat.le_refl _)
  have hiff : Sf s.claim hA ↔ CanB (fitC s.claim hA) (idleM hA 16).testBit := Sf.last hct fun t ht hb r hr => by
    unfold idleM at hb
    rw [maskP_bit, Bool.and_eq_true] at hb
    exact of_decide_eq_true (allN_iff.1 hb.2 r hr)
  refine WC.seq fun K1100 hK1100 => ?_
  -- region 9
  refine WC.region ?_
  -- R9.0 38 := model.go:260 binOp
  refine WL.v (by first | exact r_lss rfl rfl (decide_eq_true (by omega)) | exact r_lss rfl rfl (decide_eq_false (by omega)) | exact r_lss rfl rfl rfl) rfl rfl rfl ?_
  refine WL.fin hK1100 (fun _ _ h => h) ?_
  refine WC.seq fun K1101 hK1101 => ?_
  refine WC.condF rfl rfl ?_
  refine WC.exitF hK1088 (fun _ _ h => h) ?_
  refine WC.seq fun K1102 hK1102 => ?_
  -- region 14
  refine WC.region ?_
  -- R14.0 50 := model.go:265 move
  refine WL.v (by first | exact r_move (v := .pointer _) rfl | exact r_move rfl) rfl rfl rfl ?_
  -- R14.1 51 := model.go:265 move
  refine WL.v (by first | exact r_move (v := .int _ _) rfl | exact r_move rfl) rfl rfl rfl ?_
  -- R14.2 52 := model.go:265 makeMap
  refine WL.mkmap (keyGood Go.Proofs.Tryz.prog 38) st rfl rfl ?_
  intro bf w st
  -- R14.3 53 := model.go:265 call
  refine WL.call (r_call ty_call188 rfl) rfl rfl rfl (canFinish_ok (claim := s.claim) hD hh32 (fun t r => Nat.le_trans (hcl t r) (by decide)) 65536 (idleM hA 16) (fun _ => none) _ _ (by omega) hlt (fun g => ⟨false, rfl⟩) (fun g _ k => by cases k) hmH (matMC (List.mem_cons_of_mem _ hm)) st) ?_
  rintro _ w ⟨bb, G', rfl, hbb, hG', st⟩
  -- R14.4 8 := model.go:265 assign
  refine WL.v (by first | exact r_assign (v := .bool _) rfl | exact r_assign rfl) rfl rfl rfl ?_
  refine WL.fin hK1102 (fun _ _ h => h) ?_
  refine WC.ret1 Tryz.results158 (fun _ _ h => h) rfl ?_
  refine ⟨_, rfl, ?_, st.drop.drop⟩
  refine congrArg Value.bool (Bool.eq_iff_iff.2 (hbb.trans (hiff.symm.trans ?_)))
  rw [adm_iff, hHA]
  exact ⟨fun h => ⟨by omega, fun _ => h⟩, fun h => h.2 hm3⟩
end Go.Proofs.Qxb6500834aGreatDoor

