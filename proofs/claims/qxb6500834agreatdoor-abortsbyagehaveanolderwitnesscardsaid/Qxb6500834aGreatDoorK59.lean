import Derived.Test.Qxb6500834aGreatDoorK58
import Derived.Test.Qxb6500834aGreatDoorE34
set_option linter.unusedVariables false
set_option linter.unusedSimpArgs false
set_option maxRecDepth 20000
namespace Go.Proofs.Qxb6500834aGreatDoor
open Go.RowKit Go.E1 Go.Kern
theorem ty_agg36 : aggT Tryz.prog 36 = some 10 := by kernel_rfl
theorem ty_bool4 : Program.underlying Tryz.prog 4 = some .bool := by kernel_rfl
theorem ty_call29 : callT Tryz.prog 29 = true := by kernel_rfl
theorem ty_call33 : callT Tryz.prog 33 = true := by kernel_rfl
theorem ty_call59 : callT Tryz.prog 59 = true := by kernel_rfl
theorem ty_fld42_1 : fldOff Tryz.prog 42 1 = some 1 := by kernel_rfl
theorem ty_fld42_5 : fldOff Tryz.prog 42 5 = some 5 := by kernel_rfl
variable {w0 : World} {l X : List HI} {w : World} {s s' s0 : KS} {t r N n : Nat} {qv qv' : Nat → Value}

/-! Law: a rollback leaves others alone. -/
def okM (s : KS) (o : Kern.Op) (code : Int) (ans : List (Nat × Nat × Nat)) : Nat := if cfB s o = true ∧ code = 0 then toldP ans 0 ||| 2 ^ o.A.toNat else toldP ans 0
def abL (T : TK) : List Value := [.bool true, .int .u64 (T.birth : Nat), .int .u64 (inc64 T.epoch : Nat), .bool false, .int .u64 0, .int .i64 0]
theorem abL_fit {T U : TK} : ∀ i, i < 6 → KFit (pat6[i]?.getD false) (nth (abL T) i) (nth (abL U) i)
  | 0, _ => KFit.bool
  | 1, _ => KFit.int
  | 2, _ => KFit.int
  | 3, _ => KFit.bool
  | 4, _ => KFit.int
  | 5, _ => KFit.int
  | k + 6, h => by omega
set_option maxHeartbeats 4000000 in
theorem rollback1_ok {o : Kern.Op} {bB bA : Nat} {code task : Int} {ov : Value} {ans : List (Nat × Nat × Nat)}  (h16 : ∀ a, a ∈ ans → a.1 < 16) (hRL : toldP ans 3 ≠ 0 → s'.claim = s.claim ∧ (∀ t, t < 16 → (toldP ans 3).testBit t = true → (s'.tk t).live = true ∧ (s'.tk t).birth = (s.tk t).birth ∧ (s'.tk t).epoch = inc64 (s.tk t).epoch ∧ (s'.tk t).waiting = false ∧ (s'.tk t).deadline = 0 ∧ (s'.tk t).n = 0 ∧ ∀ r, s'.held t r = 0) ∧ (∀ t, t < 16 → (toldP ans 3).testBit t = false → (s'.tk t).n = (s.tk t).n ∧ (s'.tk t).epoch = (s.tk t).epoch ∧ (s'.tk t).live = (s.tk t).live ∧ (∀ r, s.held t r ≤ s'.held t r) ∧ ((okM s o code ans).testBit t = false → ∀ r, s'.held t r = s.held t r))) (hck : CK s s' ans bB bA qv qv' ov l) (st : S0 w0 l w) :
    Calls Tryz.prog 59 #[.agg (stepL o bB bA code task ov).toArray] w (Ret fun v w' => v = .bool true ∧ S0 w0 l w') := by
  obtain ⟨XO, ho, hXO⟩ := hck.a
  obtain ⟨a, c, b, rfl, hc1, hc2, ha, hcell⟩ := ho.form
  obtain ⟨fs, hfs⟩ : ∃ fs : Nat → Value, fs = nth (stepL o bB bA code task (.slice a ans.length c)) := ⟨_, rfl⟩
  have f0 : fs 0 = .int .u8 (o.kind : Nat) := by rw [hfs]; rfl
  have f1 : fs 1 = .int .i64 o.A := by rw [hfs]; rfl
  have f2 : fs 2 = .int .i64 o.B := by rw [hfs]; rfl
  have f3 : fs 3 = .int .i64 o.C := by rw [hfs]; rfl
  have f4 : fs 4 = .int .u64 (o.X : Nat) := by rw [hfs]; rfl
  have f5 : fs 5 = .pointer (some ⟨bB, 0, none⟩) := by rw [hfs]; rfl
  have f6 : fs 6 = .pointer (some ⟨bA, 0, none⟩) := by rw [hfs]; rfl
  have f7 : fs 7 = .int .i64 code := by rw [hfs]; rfl
  have f8 : fs 8 = .int .i64 task := by rw [hfs]; rfl
  have f9 : fs 9 = .slice a ans.length c := by rw [hfs]; rfl
  have hlt3 : toldP ans 3 < 65536 := toldL_lt ans (by decide) h16
  have hlt0 : toldP ans 0 < 65536 := toldL_lt ans (by decide) h16
  by_cases hb0 : toldP ans 3 = 0
  · skip
    refine enter [.agg (stepL o bB bA code task (.slice a ans.length c)).toArray] Tryz.func59 rfl Tryz.ntmps59 rfl ?_
    show WC _ _ _ 151 [] [(0, .agg (stepL o bB bA code task (.slice a ans.length c)).toArray)] _
    refine WC.seq fun K2058 hK2058 => ?_
    -- region 0
    refine WC.region ?_
    -- R0.0 1 := law.go:381 box
    refine WL.box (m := 10) (vs := stepL o bB bA code task (.slice a ans.length c)) st rfl rfl rfl rfl rfl rfl ?_
    intro b1 w st
    have st : S0 w0 ((b1, Row 36 10 fs) :: l) w := by rw [hfs]; exact st
    -- R0.1 2 := law.go:381 assign
    refine WL.v (by first | exact r_assign (v := .bool _) rfl | exact r_assign rfl) rfl rfl rfl ?_
    refine WL.fin hK2058 (fun _ _ h => h) ?_
    refine WC.seq fun K2059 hK2059 => ?_
    -- region 1
    refine WC.region ?_
    -- R1.0 11 := law.go:382 load
    refine WL.v (by exact r_loadL (vs := stepL o bB bA code task (.slice a ans.length c)) ty_agg36 rfl ⟨(st.c0 (by decide)).trans (congrArg some f0), (st.c0 (by decide)).trans (congrArg some f1), (st.c0 (by decide)).trans (congrArg some f2), (st.c0 (by decide)).trans (congrArg some f3), (st.c0 (by decide)).trans (congrArg some f4), (st.c0 (by decide)).trans (congrArg some f5), (st.c0 (by decide)).trans (congrArg some f6), (st.c0 (by decide)).trans (congrArg some f7), (st.c0 (by decide)).trans (congrArg some f8), (st.c0 (by decide)).trans (congrArg some f9), trivial⟩) rfl rfl rfl ?_
    -- R1.1 12 := law.go:382 call
    refine WL.call (r_call ty_call29 rfl) rfl rfl rfl (told_ok (o := o) (cd := 3) (hck.c) h16 st) ?_
    rintro _ w ⟨rfl, st⟩
    -- R1.2 3 := law.go:382 assign
    refine WL.v (by first | exact r_assign (v := .int _ _) rfl | exact r_assign rfl) rfl rfl rfl ?_
    refine WL.fin hK2059 (fun _ _ h => h) ?_
    refine WC.seq fun K2060 hK2060 => ?_
    refine WC.seq fun K2061 hK2061 => ?_
    -- region 2
    refine WC.region ?_
    -- R2.0 13 := law.go:383 move
    refine WL.v (by first | exact r_move (v := .int _ _) rfl | exact r_move rfl) rfl rfl rfl ?_
    -- R2.1 14 := law.go:383 binOp
    refine WL.v (by exact r_eql rfl rfl (decide_eq_true (by rw [hb0]; rfl))) rfl rfl rfl ?_
    refine WL.fin hK2061 (fun _ _ h => h) ?_
    refine WC.condT rfl rfl ?_
    refine WC.seq fun K2062 hK2062 => ?_
    -- region 3
    refine WC.region ?_
    -- R3.0 2 := law.go:384 assign
    refine WL.v (by first | exact r_assign (v := .bool _) rfl | exact r_assign rfl) rfl rfl rfl ?_
    refine WL.fin hK2062 (fun _ _ h => h) ?_
    refine WC.ret1 Tryz.results59 (fun _ _ h => h) rfl ?_
    exact ⟨_, rfl, rfl, st.drop⟩
  obtain ⟨hcl, hab, hnt⟩ := hRL hb0
  obtain ⟨gm, hgm⟩ : ∃ gm, gm = okM s o code ans := ⟨_, rfl⟩
  rw [← hgm] at hnt
  refine enter [.agg (stepL o bB bA code task (.slice a ans.length c)).toArray] Tryz.func59 rfl Tryz.ntmps59 rfl ?_
  show WC _ _ _ 151 [] [(0, .agg (stepL o bB bA code task (.slice a ans.length c)).toArray)] _
  refine WC.seq fun K2063 hK2063 => ?_
  -- region 0
  refine WC.region ?_
  -- R0.0 1 := law.go:381 box
  refine WL.box (m := 10) (vs := stepL o bB bA code task (.slice a ans.length c)) st rfl rfl rfl rfl rfl rfl ?_
  intro b1 w st
  have st : S0 w0 ((b1, Row 36 10 fs) :: l) w := by rw [hfs]; exact st
  -- R0.1 2 := law.go:381 assign
  refine WL.v (by first | exact r_assign (v := .bool _) rfl | exact r_assign rfl) rfl rfl rfl ?_
  refine WL.fin hK2063 (fun _ _ h => h) ?_
  refine WC.seq fun K2064 hK2064 => ?_
  -- region 1
  refine WC.region ?_
  -- R1.0 11 := law.go:382 load
  refine WL.v (by exact r_loadL (vs := stepL o bB bA code task (.slice a ans.length c)) ty_agg36 rfl ⟨(st.c0 (by decide)).trans (congrArg some f0), (st.c0 (by decide)).trans (congrArg some f1), (st.c0 (by decide)).trans (congrArg some f2), (st.c0 (by decide)).trans (congrArg some f3), (st.c0 (by decide)).trans (congrArg some f4), (st.c0 (by decide)).trans (congrArg some f5), (st.c0 (by decide)).trans (congrArg some f6), (st.c0 (by decide)).trans (congrArg some f7), (st.c0 (by decide)).trans (congrArg some f8), (st.c0 (by decide)).trans (congrArg some f9), trivial⟩) rfl rfl rfl ?_
  -- R1.1 12 := law.go:382 call
  refine WL.call (r_call ty_call29 rfl) rfl rfl rfl (told_ok (o := o) (cd := 3) (hck.c) h16 st) ?_
  rintro _ w ⟨rfl, st⟩
  -- R1.2 3 := law.go:382 assign
  refine WL.v (by first | exact r_assign (v := .int _ _) rfl | exact r_assign rfl) rfl rfl rfl ?_
  refine WL.fin hK2064 (fun _ _ h => h) ?_
  refine WC.seq fun K2065 hK2065 => ?_
  refine WC.seq fun K2066 hK2066 => ?_
  -- region 2
  refine WC.region ?_
  -- R2.0 13 := law.go:383 move
  refine WL.v (by first | exact r_move (v := .int _ _) rfl | exact r_move rfl) rfl rfl rfl ?_
  -- R2.1 14 := law.go:383 binOp
  refine WL.v (by exact r_eql rfl rfl (decide_eq_false (by omega))) rfl rfl rfl ?_
  refine WL.fin hK2066 (fun _ _ h => h) ?_
  refine WC.condF rfl rfl ?_
  refine WC.skipF hK2065 (fun _ _ h => h) ?_
  refine WC.seq fun K2067 hK2067 => ?_
  -- region 4
  refine WC.region ?_
  -- R4.0 15 := law.go:386 load
  refine WL.v (by exact r_loadL (vs := stepL o bB bA code task (.slice a ans.length c)) ty_agg36 rfl ⟨(st.c0 (by decide)).trans (congrArg some f0), (st.c0 (by decide)).trans (congrArg some f1), (st.c0 (by decide)).trans (congrArg some f2), (st.c0 (by decide)).trans (congrArg some f3), (st.c0 (by decide)).trans (congrArg some f4), (st.c0 (by decide)).trans (congrArg some f5), (st.c0 (by decide)).trans (congrArg some f6), (st.c0 (by decide)).trans (congrArg some f7), (st.c0 (by decide)).trans (congrArg some f8), (st.c0 (by decide)).trans (congrArg some f9), trivial⟩) rfl rfl rfl ?_
  -- R4.1 16 := law.go:386 call
  refine WL.call (r_call ty_call29 rfl) rfl rfl rfl (told_ok (o := o) (cd := 0) (hck.c) h16 st) ?_
  rintro _ w ⟨rfl, st⟩
  -- R4.2 4 := law.go:386 assign
  refine WL.v (by first | exact r_assign (v := .int _ _) rfl | exact r_assign rfl) rfl rfl rfl ?_
  refine WL.fin hK2067 (fun _ _ h => h) ?_
  refine WC.cut (ι := Unit) (fun _ => [(1, .pointer (some ⟨b1, 0, none⟩)), (3, .int .u16 (toldP ans 3 : Nat)), (4, .int .u16 (gm : Nat))]) (fun _ w' => gm < 65536 ∧ S0 w0 ((b1, Row 36 10 fs) :: l) w') ?_ ?_
  rotate_left
  · intro KC hKC
    rcases hF : cfB s o with _ | _
    · have e : gm = toldP ans 0 := by rw [hgm]; exact if_neg (fun k => by rw [hF] at k; cases k.1)
      subst e
      refine WC.seq fun K2068 hK2068 => ?_
      -- region 5
      refine WC.region ?_
      -- R5.0 18 := law.go:387 load
      refine WL.v (by exact r_loadL (vs := stepL o bB bA code task (.slice a ans.length c)) ty_agg36 rfl ⟨(st.c0 (by decide)).trans (congrArg some f0), (st.c0 (by decide)).trans (congrArg some f1), (st.c0 (by decide)).trans (congrArg some f2), (st.c0 (by decide)).trans (congrArg some f3), (st.c0 (by decide)).trans (congrArg some f4), (st.c0 (by decide)).trans (congrArg some f5), (st.c0 (by decide)).trans (congrArg some f6), (st.c0 (by decide)).trans (congrArg some f7), (st.c0 (by decide)).trans (congrArg some f8), (st.c0 (by decide)).trans (congrArg some f9), trivial⟩) rfl rfl rfl ?_
      -- R5.1 19 := law.go:387 call
      refine WL.call (r_call ty_call33 rfl) rfl rfl rfl (callerL_ok (o := o) (List.mem_cons_of_mem _ hck.B) rfl st) ?_
      rintro _ w ⟨rfl, st⟩
      -- R5.2 17 := law.go:387 move
      refine WL.v (by first | exact r_move (v := .tuple _) rfl | exact r_move rfl) rfl rfl rfl ?_
      -- R5.3 20 := law.go:387 extract
      refine WL.v (by first | exact r_extract (v := .int _ _) rfl rfl | exact r_extract rfl rfl) rfl rfl rfl ?_
      -- R5.4 21 := law.go:387 extract
      refine WL.v (by first | exact r_extract (v := .bool _) rfl rfl | exact r_extract rfl rfl) rfl rfl rfl ?_
      -- R5.5 5 := law.go:387 assign
      refine WL.v (by first | exact r_assign (v := .int _ _) rfl | exact r_assign rfl) rfl rfl rfl ?_
      -- R5.6 6 := law.go:387 assign
      refine WL.v (by first | exact r_assign (v := .bool _) rfl | exact r_assign rfl) rfl rfl rfl ?_
      refine WL.fin hK2068 (fun _ _ h => h) ?_
      refine WC.seq fun K2069 hK2069 => ?_
      -- region 6
      refine WC.region ?_
      -- R6.0 22 := law.go:387 move
      refine WL.v (by exact r_move (v := .bool false) (congrArg Value.bool hF)) rfl rfl rfl ?_
      -- R6.1 23 := law.go:387 move
      refine WL.v (by first | exact r_move (v := .bool _) rfl | exact r_move rfl) rfl rfl rfl ?_
      -- R6.2 24 := law.go:387 fieldAddr
      refine WL.no rfl rfl ?_
      -- R6.3 25 := law.go:387 fieldAddr
      refine WL.no rfl rfl ?_
      -- R6.4 26 := law.go:387 load
      refine WL.no rfl rfl ?_
      -- R6.5 27 := law.go:387 binOp
      refine WL.no rfl rfl ?_
      -- R6.6 28 := law.go:387 pick
      refine WL.v (by first | exact r_pickT (v := .bool _) rfl rfl | exact r_pickF (v := .bool _) rfl rfl) rfl rfl rfl ?_
      refine WL.fin hK2069 (fun _ _ h => h) ?_
      refine WC.condF rfl rfl ?_
      refine WC.skipJ hKC (fun _ _ h => h) () ⟨hlt0, st⟩ (by repeat (first | exact sub_nil _ | refine sub_cons rfl rfl ?_))
    by_cases hc0 : code = 0
    rotate_left
    · have e : gm = toldP ans 0 := by rw [hgm]; exact if_neg (fun k => hc0 k.2)
      subst e
      refine WC.seq fun K2070 hK2070 => ?_
      -- region 5
      refine WC.region ?_
      -- R5.0 18 := law.go:387 load
      refine WL.v (by exact r_loadL (vs := stepL o bB bA code task (.slice a ans.length c)) ty_agg36 rfl ⟨(st.c0 (by decide)).trans (congrArg some f0), (st.c0 (by decide)).trans (congrArg some f1), (st.c0 (by decide)).trans (congrArg some f2), (st.c0 (by decide)).trans (congrArg some f3), (st.c0 (by decide)).trans (congrArg some f4), (st.c0 (by decide)).trans (congrArg some f5), (st.c0 (by decide)).trans (congrArg some f6), (st.c0 (by decide)).trans (congrArg some f7), (st.c0 (by decide)).trans (congrArg some f8), (st.c0 (by decide)).trans (congrArg some f9), trivial⟩) rfl rfl rfl ?_
      -- R5.1 19 := law.go:387 call
      refine WL.call (r_call ty_call33 rfl) rfl rfl rfl (callerL_ok (o := o) (List.mem_cons_of_mem _ hck.B) rfl st) ?_
      rintro _ w ⟨rfl, st⟩
      -- R5.2 17 := law.go:387 move
      refine WL.v (by first | exact r_move (v := .tuple _) rfl | exact r_move rfl) rfl rfl rfl ?_
      -- R5.3 20 := law.go:387 extract
      refine WL.v (by first | exact r_extract (v := .int _ _) rfl rfl | exact r_extract rfl rfl) rfl rfl rfl ?_
      -- R5.4 21 := law.go:387 extract
      refine WL.v (by first | exact r_extract (v := .bool _) rfl rfl | exact r_extract rfl rfl) rfl rfl rfl ?_
      -- R5.5 5 := law.go:387 assign
      refine WL.v (by first | exact r_assign (v := .int _ _) rfl | exact r_assign rfl) rfl rfl rfl ?_
      -- R5.6 6 := law.go:387 assign
      refine WL.v (by first | exact r_assign (v := .bool _) rfl | exact r_assign rfl) rfl rfl rfl ?_
      refine WL.fin hK2070 (fun _ _ h => h) ?_
      refine WC.seq fun K2071 hK2071 => ?_
      -- region 6
      refine WC.region ?_
      -- R6.0 22 := law.go:387 move
      refine WL.v (by exact r_move (v := .bool true) (congrArg Value.bool hF)) rfl rfl rfl ?_
      -- R6.1 23 := law.go:387 move
      refine WL.v (by first | exact r_move (v := .bool _) rfl | exact r_move rfl) rfl rfl rfl ?_
      -- R6.2 24 := law.go:387 fieldAddr
      refine WL.v (by exact r_field ty_fld36_3 rfl) rfl rfl rfl ?_
      -- R6.3 25 := law.go:387 fieldAddr
      refine WL.v (by exact r_field ty_fld34_0 rfl) rfl rfl rfl ?_
      -- R6.4 26 := law.go:387 load
      refine WL.v (by exact r_load1 (v := .int .i64 code) ty_one30 rfl (by rw [← f7]; exact st.c0 (by decide))) rfl rfl rfl ?_
      -- R6.5 27 := law.go:387 binOp
      refine WL.v (by first | exact r_eql rfl rfl (decide_eq_true (by omega)) | exact r_eql rfl rfl (decide_eq_false (by omega)) | exact r_eql rfl rfl rfl) rfl rfl rfl ?_
      -- R6.6 28 := law.go:387 pick
      refine WL.v (by first | exact r_pickT (v := .bool _) rfl rfl | exact r_pickF (v := .bool _) rfl rfl) rfl rfl rfl ?_
      refine WL.fin hK2071 (fun _ _ h => h) ?_
      refine WC.condF rfl rfl ?_
      refine WC.skipJ hKC (fun _ _ h => h) () ⟨hlt0, st⟩ (by repeat (first | exact sub_nil _ | refine sub_cons rfl rfl ?_))
    obtain ⟨t, ht16, hAt, hT, hl, hwt⟩ := cf_T hF
    have e : gm = toldP ans 0 ||| 2 ^ t := by rw [hgm]; unfold okM; rw [if_pos ⟨hF, hc0⟩, hAt]; rfl
    subst e
    refine WC.seq fun K2072 hK2072 => ?_
    -- region 5
    refine WC.region ?_
    -- R5.0 18 := law.go:387 load
    refine WL.v (by exact r_loadL (vs := stepL o bB bA code task (.slice a ans.length c)) ty_agg36 rfl ⟨(st.c0 (by decide)).trans (congrArg some f0), (st.c0 (by decide)).trans (congrArg some f1), (st.c0 (by decide)).trans (congrArg some f2), (st.c0 (by decide)).trans (congrArg some f3), (st.c0 (by decide)).trans (congrArg some f4), (st.c0 (by decide)).trans (congrArg some f5), (st.c0 (by decide)).trans (congrArg some f6), (st.c0 (by decide)).trans (congrArg some f7), (st.c0 (by decide)).trans (congrArg some f8), (st.c0 (by decide)).trans (congrArg some f9), trivial⟩) rfl rfl rfl ?_
    -- R5.1 19 := law.go:387 call
    refine WL.call (r_call ty_call33 rfl) rfl rfl rfl (callerL_ok (o := o) (List.mem_cons_of_mem _ hck.B) rfl st) ?_
    rintro _ w ⟨rfl, st⟩
    -- R5.2 17 := law.go:387 move
    refine WL.v (by first | exact r_move (v := .tuple _) rfl | exact r_move rfl) rfl rfl rfl ?_
    -- R5.3 20 := law.go:387 extract
    refine WL.v (by first | exact r_extract (v := .int _ _) rfl rfl | exact r_extract rfl rfl) rfl rfl rfl ?_
    -- R5.4 21 := law.go:387 extract
    refine WL.v (by first | exact r_extract (v := .bool _) rfl rfl | exact r_extract rfl rfl) rfl rfl rfl ?_
    -- R5.5 5 := law.go:387 assign
    refine WL.v (by first | exact r_assign (v := .int _ _) rfl | exact r_assign rfl) rfl rfl rfl ?_
    -- R5.6 6 := law.go:387 assign
    refine WL.v (by first | exact r_assign (v := .bool _) rfl | exact r_assign rfl) rfl rfl rfl ?_
    refine WL.fin hK2072 (fun _ _ h => h) ?_
    refine WC.seq fun K2073 hK2073 => ?_
    -- region 6
    refine WC.region ?_
    -- R6.0 22 := law.go:387 move
    refine WL.v (by exact r_move (v := .bool true) (congrArg Value.bool hF)) rfl rfl rfl ?_
    -- R6.1 23 := law.go:387 move
    refine WL.v (by first | exact r_move (v := .bool _) rfl | exact r_move rfl) rfl rfl rfl ?_
    -- R6.2 24 := law.go:387 fieldAddr
    refine WL.v (by exact r_field ty_fld36_3 rfl) rfl rfl rfl ?_
    -- R6.3 25 := law.go:387 fieldAddr
    refine WL.v (by exact r_field ty_fld34_0 rfl) rfl rfl rfl ?_
    -- R6.4 26 := law.go:387 load
    refine WL.v (by exact r_load1 (v := .int .i64 code) ty_one30 rfl (by rw [← f7]; exact st.c0 (by decide))) rfl rfl rfl ?_
    -- R6.5 27 := law.go:387 binOp
    refine WL.v (by first | exact r_eql rfl rfl (decide_eq_true (by omega)) | exact r_eql rfl rfl (decide_eq_false (by omega)) | exact r_eql rfl rfl rfl) rfl rfl rfl ?_
    -- R6.6 28 := law.go:387 pick
    refine WL.v (by first | exact r_pickT (v := .bool _) rfl rfl | exact r_pickF (v := .bool _) rfl rfl) rfl rfl rfl ?_
    refine WL.fin hK2073 (fun _ _ h => h) ?_
    refine WC.condT rfl rfl ?_
    -- region 7
    refine WC.region ?_
    -- R7.0 29 := law.go:388 move
    refine WL.v (by first | exact r_move (v := .int _ _) rfl | exact r_move rfl) rfl rfl rfl ?_
    -- R7.1 30 := law.go:388 move
    refine WL.v (by exact r_move (v := .int .i64 (t : Nat)) (congrArg (Value.int .i64) hT)) rfl rfl rfl ?_
    -- R7.2 31 := law.go:388 call
    refine WL.call (r_call ty_call30 rfl) rfl rfl rfl (bit_ok ht16 st) ?_
    rintro _ w ⟨rfl, st⟩
    -- R7.3 32 := law.go:388 binOp
    refine WL.v (by exact r_or (r := ((toldP ans 0 ||| 2 ^ t : Nat) : Int)) rfl rfl (or16 hlt0 (pow16 ht16))) rfl rfl rfl ?_
    -- R7.4 4 := law.go:388 assign
    refine WL.v (by first | exact r_assign (v := .int _ _) rfl | exact r_assign rfl) rfl rfl rfl ?_
    refine WL.join hKC (fun _ _ h => h) () ⟨orlt hlt0 (pow16 ht16), st⟩ (by repeat (first | exact sub_nil _ | refine sub_cons rfl rfl ?_))
  clear st
  rintro _ w ⟨hglt, st⟩
  refine WC.seq fun K2074 hK2074 => ?_
  refine WC.seq fun K2075 hK2075 => ?_
  -- region 8
  refine WC.region ?_
  -- R8.0 7 := law.go:390 assign
  refine WL.v (by first | exact r_assign (v := .int _ _) rfl | exact r_assign rfl) rfl rfl rfl ?_
  refine WL.fin hK2075 (fun _ _ h => h) ?_
  refine WC.block ?_
  refine WC.loop (ι := Nat) (fun i => [(1, .pointer (some ⟨b1, 0, none⟩)), (3, .int .u16 (toldP ans 3 : Nat)), (4, .int .u16 (gm : Nat)), (7, .int .i64 (i : Nat))])
    (fun i w' => i ≤ 16 ∧ S0 w0 ((b1, Row 36 10 fs) :: l) w') (fun i => 16 - i) 0 ⟨Nat.zero_le _, st⟩ ?_ ?_
  · skip
    repeat (first | exact sub_nil _ | refine sub_cons rfl rfl ?_)
  clear st
  rintro i w ⟨hi, st⟩ K2 hK2
  by_cases h16' : i = 16
  · skip
    refine WC.seq fun K2076 hK2076 => ?_
    refine WC.seq fun K2077 hK2077 => ?_
    -- region 9
    refine WC.region ?_
    -- R9.0 33 := law.go:390 move
    refine WL.v (by first | exact r_move (v := .int _ _) rfl | exact r_move rfl) rfl rfl rfl ?_
    -- R9.1 34 := law.go:390 binOp
    refine WL.v (by first | exact r_lss rfl rfl (decide_eq_true (by omega)) | exact r_lss rfl rfl (decide_eq_false (by omega)) | exact r_lss rfl rfl rfl) rfl rfl rfl ?_
    refine WL.fin hK2077 (fun _ _ h => h) ?_
    refine WC.condF rfl rfl ?_
    refine WC.exitF hK2074 (fun _ _ h => h) ?_
    refine WC.seq fun K2078 hK2078 => ?_
    -- region 27
    refine WC.region ?_
    -- R27.0 2 := law.go:413 assign
    refine WL.v (by first | exact r_assign (v := .bool _) rfl | exact r_assign rfl) rfl rfl rfl ?_
    refine WL.fin hK2078 (fun _ _ h => h) ?_
    refine WC.ret1 Tryz.results59 (fun _ _ h => h) rfl ?_
    exact ⟨_, rfl, rfl, st.drop⟩
  have hi' : i < 16 := by omega
  have hab := hab i hi'
  have hnt := hnt i hi'
  have hck1 := hck.c (a := (b1, Row 36 10 fs))
  have hck3 := fun a b => (hck1.c (a := a)).c (a := b)
  refine WC.seq fun K2079 hK2079 => ?_
  refine WC.seq fun K2080 hK2080 => ?_
  -- region 9
  refine WC.region ?_
  -- R9.0 33 := law.go:390 move
  refine WL.v (by first | exact r_move (v := .int _ _) rfl | exact r_move rfl) rfl rfl rfl ?_
  -- R9.1 34 := law.go:390 binOp
  refine WL.v (by first | exact r_lss rfl rfl (decide_eq_true (by omega)) | exact r_lss rfl rfl (decide_eq_false (by omega)) | exact r_lss rfl rfl rfl) rfl rfl rfl ?_
  refine WL.fin hK2080 (fun _ _ h => h) ?_
  refine WC.condT rfl rfl ?_
  refine WC.skipF hK2079 (fun _ _ h => h) ?_
  refine WC.seq fun K2081 hK2081 => ?_
  refine WC.block ?_
  refine WC.cut (ι := Nat × Nat) (fun y => [(1, .pointer (some ⟨b1, 0, none⟩)), (3, .int .u16 (toldP ans 3 : Nat)), (4, .int .u16 (gm : Nat)), (7, .int .i64 (i : Nat)), (8, .pointer (some ⟨y.1, 0, none⟩)), (9, .pointer (some ⟨y.2, 0, none⟩))]) (fun y w' => S0 w0 ((y.2, Row 42 6 (nth [.bool (s'.tk i).live, .int .u64 ((s'.tk i).birth : Nat), .int .u64 ((s'.tk i).epoch : Nat), .bool (s'.tk i).waiting, .int .u64 ((s'.tk i).deadline : Nat), .int .i64 ((s'.tk i).n : Nat)])) :: (y.1, Row 42 6 (nth [.bool (s.tk i).live, .int .u64 ((s.tk i).birth : Nat), .int .u64 ((s.tk i).epoch : Nat), .bool (s.tk i).waiting, .int .u64 ((s.tk i).deadline : Nat), .int .i64 ((s.tk i).n : Nat)])) :: (b1, Row 36 10 fs) :: l) w') ?_ ?_
  rotate_left
  · intro KC hKC
    refine WC.heldW [17] 14 15 [15, 16, 17] [14, 16, 17] [0, 1, 2, 3, 4, 5, 6, 7, 8, 9, 10, 11, 12, 13] st st ty_mixed (by kernel_rfl) fun w st Kq hKq => ?_
    -- R11.0 37 := law.go:391 fieldAddr
    refine HL.v (fun w st => by exact r_field ty_fld36_1 rfl) rfl rfl rfl ?_
    -- R11.1 38 := law.go:391 load
    refine HL.v (fun w st => by exact r_load1 (v := .pointer (some ⟨bB, 0, none⟩)) ty_one29 rfl (by rw [← f5]; exact st.c0 (by decide))) rfl rfl rfl ?_
    -- R11.2 39 := law.go:391 move
    refine HL.v (fun w st => by first | exact r_move (v := .int _ _) rfl | exact r_move rfl) rfl rfl rfl ?_
    -- R11.3 40 := law.go:391 nilCheck
    refine HL.v (fun w st => by exact r_nilCheck rfl) rfl rfl rfl ?_
    -- R11.4 41 := law.go:391 fieldAddr
    refine HL.v (fun w st => by exact r_field ty_fld50_3 rfl) rfl rfl rfl ?_
    -- R11.5 42 := law.go:391 indexAddr
    refine HL.v (fun w st => by exact r_indexA (j := i) ty_ar43 rfl rfl rfl hi') rfl rfl rfl ?_
    -- R11.6 43 := law.go:391 load
    refine HL.v (fun w st => by exact r_loadL (vs := [.bool (s.tk i).live, .int .u64 ((s.tk i).birth : Nat), .int .u64 ((s.tk i).epoch : Nat), .bool (s.tk i).waiting, .int .u64 ((s.tk i).deadline : Nat), .int .i64 ((s.tk i).n : Nat)]) ty_agg42 rfl ⟨c_sT hck1.B hi' (j := 0) (by decide) (by omega) st, c_sT hck1.B hi' (j := 1) (by decide) (by omega) st, c_sT hck1.B hi' (j := 2) (by decide) (by omega) st, c_sT hck1.B hi' (j := 3) (by decide) (by omega) st, c_sT hck1.B hi' (j := 4) (by decide) (by omega) st, c_sT hck1.B hi' (j := 5) (by decide) (by omega) st, trivial⟩) rfl rfl rfl ?_
    -- R11.7 44 := law.go:391 fieldAddr
    refine HL.v (fun w st => by exact r_field ty_fld36_2 rfl) rfl rfl rfl ?_
    -- R11.8 45 := law.go:391 load
    refine HL.v (fun w st => by exact r_load1 (v := .pointer (some ⟨bA, 0, none⟩)) ty_one29 rfl (by rw [← f6]; exact st.c0 (by decide))) rfl rfl rfl ?_
    -- R11.9 46 := law.go:391 move
    refine HL.v (fun w st => by first | exact r_move (v := .int _ _) rfl | exact r_move rfl) rfl rfl rfl ?_
    -- R11.10 47 := law.go:391 nilCheck
    refine HL.v (fun w st => by exact r_nilCheck rfl) rfl rfl rfl ?_
    -- R11.11 48 := law.go:391 fieldAddr
    refine HL.v (fun w st => by exact r_field ty_fld50_3 rfl) rfl rfl rfl ?_
    -- R11.12 49 := law.go:391 indexAddr
    refine HL.v (fun w st => by exact r_indexA (j := i) ty_ar43 rfl rfl rfl hi') rfl rfl rfl ?_
    -- R11.13 50 := law.go:391 load
    refine HL.v (fun w st => by exact r_loadL (vs := [.bool (s'.tk i).live, .int .u64 ((s'.tk i).birth : Nat), .int .u64 ((s'.tk i).epoch : Nat), .bool (s'.tk i).waiting, .int .u64 ((s'.tk i).deadline : Nat), .int .i64 ((s'.tk i).n : Nat)]) ty_agg42 rfl ⟨c_sT hck1.A hi' (j := 0) (by decide) (by omega) st, c_sT hck1.A hi' (j := 1) (by decide) (by omega) st, c_sT hck1.A hi' (j := 2) (by decide) (by omega) st, c_sT hck1.A hi' (j := 3) (by decide) (by omega) st, c_sT hck1.A hi' (j := 4) (by decide) (by omega) st, c_sT hck1.A hi' (j := 5) (by decide) (by omega) st, trivial⟩) rfl rfl rfl ?_
    refine HL.fin hKq ⟨?_, ?_⟩
    · skip
      refine TL.at ?_
      -- R11.14 8 := law.go:391 alloc
      refine WL.alloc (m := 6) st ty_zero42 rfl rfl rfl ?_
      intro b8 w st
      refine TL.nxt (by first | exact st | exact st.drop | exact st.drop1 | exact st.drop2 | exact st.drop3 | exact st.drop4 | exact st.drop.drop | exact st.drop.drop1 | exact st.drop.drop2 | exact st.drop.drop3 | exact st.drop.drop4 | exact st.drop.drop.drop | exact st.drop.drop.drop.drop | exact st_dropL st | exact st_dropL st.drop | exact st_none st) ?_
      refine TL.at ?_
      -- R11.15 9 := law.go:391 alloc
      refine WL.alloc (m := 6) st ty_zero42 rfl rfl rfl ?_
      intro b9 w st
      refine TL.nxt (by first | exact st | exact st.drop | exact st.drop1 | exact st.drop2 | exact st.drop3 | exact st.drop4 | exact st.drop.drop | exact st.drop.drop1 | exact st.drop.drop2 | exact st.drop.drop3 | exact st.drop.drop4 | exact st.drop.drop.drop | exact st.drop.drop.drop.drop | exact st_dropL st | exact st_dropL st.drop | exact st_none st) ?_
      refine TL.at ?_
      -- R11.16 None := law.go:391 store
      first | refine WL.storeW (vs := [_, _, _, _, _, _]) st ty_agg42 rfl rfl rfl rfl rfl rfl ?_ | refine WL.storeL (vs := [_, _, _, _, _, _]) st ty_agg42 rfl rfl rfl rfl (by first | decide | omega) rfl rfl ?_ | refine WL.storeW (vs := [_, _, _, _, _, _]) st.front1 ty_agg42 rfl rfl rfl rfl rfl rfl ?_ | refine WL.storeL (vs := [_, _, _, _, _, _]) st.front1 ty_agg42 rfl rfl rfl rfl (by first | decide | omega) rfl rfl ?_ | refine WL.storeW (vs := [_, _, _, _, _, _]) st.front2 ty_agg42 rfl rfl rfl rfl rfl rfl ?_ | refine WL.storeL (vs := [_, _, _, _, _, _]) st.front2 ty_agg42 rfl rfl rfl rfl (by first | decide | omega) rfl rfl ?_ | refine WL.storeW (vs := [_, _, _, _, _, _]) st.front3 ty_agg42 rfl rfl rfl rfl rfl rfl ?_ | refine WL.storeL (vs := [_, _, _, _, _, _]) st.front3 ty_agg42 rfl rfl rfl rfl (by first | decide | omega) rfl rfl ?_ | refine WL.storeW (vs := [_, _, _, _, _, _]) st.front4 ty_agg42 rfl rfl rfl rfl rfl rfl ?_ | refine WL.storeL (vs := [_, _, _, _, _, _]) st.front4 ty_agg42 rfl rfl rfl rfl (by first | decide | omega) rfl rfl ?_ | refine WL.storeW (vs := [_, _, _, _, _, _]) st.front5 ty_agg42 rfl rfl rfl rfl rfl rfl ?_ | refine WL.storeL (vs := [_, _, _, _, _, _]) st.front5 ty_agg42 rfl rfl rfl rfl (by first | decide | omega) rfl rfl ?_ | refine WL.storeW (vs := [_, _, _, _, _, _]) st.front6 ty_agg42 rfl rfl rfl rfl rfl rfl ?_ | refine WL.storeL (vs := [_, _, _, _, _, _]) st.front6 ty_agg42 rfl rfl rfl rfl (by first | decide | omega) rfl rfl ?_ | refine WL.storeW (vs := [_, _, _, _, _, _]) st.front7 ty_agg42 rfl rfl rfl rfl rfl rfl ?_ | refine WL.storeL (vs := [_, _, _, _, _, _]) st.front7 ty_agg42 rfl rfl rfl rfl (by first | decide | omega) rfl rfl ?_ | refine WL.storeW (vs := [_, _, _, _, _, _]) st.front8 ty_agg42 rfl rfl rfl rfl rfl rfl ?_ | refine WL.storeL (vs := [_, _, _, _, _, _]) st.front8 ty_agg42 rfl rfl rfl rfl (by first | decide | omega) rfl rfl ?_
      intro w st
      refine TL.nxt (by first | exact st | exact st.drop | exact st.drop1 | exact st.drop2 | exact st.drop3 | exact st.drop4 | exact st.drop.drop | exact st.drop.drop1 | exact st.drop.drop2 | exact st.drop.drop3 | exact st.drop.drop4 | exact st.drop.drop.drop | exact st.drop.drop.drop.drop | exact st_dropL st | exact st_dropL st.drop | exact st_none st) ?_
      refine TL.at ?_
      -- R11.17 None := law.go:391 store
      first | refine WL.storeW (vs := [_, _, _, _, _, _]) st ty_agg42 rfl rfl rfl rfl rfl rfl ?_ | refine WL.storeL (vs := [_, _, _, _, _, _]) st ty_agg42 rfl rfl rfl rfl (by first | decide | omega) rfl rfl ?_ | refine WL.storeW (vs := [_, _, _, _, _, _]) st.front1 ty_agg42 rfl rfl rfl rfl rfl rfl ?_ | refine WL.storeL (vs := [_, _, _, _, _, _]) st.front1 ty_agg42 rfl rfl rfl rfl (by first | decide | omega) rfl rfl ?_ | refine WL.storeW (vs := [_, _, _, _, _, _]) st.front2 ty_agg42 rfl rfl rfl rfl rfl rfl ?_ | refine WL.storeL (vs := [_, _, _, _, _, _]) st.front2 ty_agg42 rfl rfl rfl rfl (by first | decide | omega) rfl rfl ?_ | refine WL.storeW (vs := [_, _, _, _, _, _]) st.front3 ty_agg42 rfl rfl rfl rfl rfl rfl ?_ | refine WL.storeL (vs := [_, _, _, _, _, _]) st.front3 ty_agg42 rfl rfl rfl rfl (by first | decide | omega) rfl rfl ?_ | refine WL.storeW (vs := [_, _, _, _, _, _]) st.front4 ty_agg42 rfl rfl rfl rfl rfl rfl ?_ | refine WL.storeL (vs := [_, _, _, _, _, _]) st.front4 ty_agg42 rfl rfl rfl rfl (by first | decide | omega) rfl rfl ?_ | refine WL.storeW (vs := [_, _, _, _, _, _]) st.front5 ty_agg42 rfl rfl rfl rfl rfl rfl ?_ | refine WL.storeL (vs := [_, _, _, _, _, _]) st.front5 ty_agg42 rfl rfl rfl rfl (by first | decide | omega) rfl rfl ?_ | refine WL.storeW (vs := [_, _, _, _, _, _]) st.front6 ty_agg42 rfl rfl rfl rfl rfl rfl ?_ | refine WL.storeL (vs := [_, _, _, _, _, _]) st.front6 ty_agg42 rfl rfl rfl rfl (by first | decide | omega) rfl rfl ?_ | refine WL.storeW (vs := [_, _, _, _, _, _]) st.front7 ty_agg42 rfl rfl rfl rfl rfl rfl ?_ | refine WL.storeL (vs := [_, _, _, _, _, _]) st.front7 ty_agg42 rfl rfl rfl rfl (by first | decide | omega) rfl rfl ?_ | refine WL.storeW (vs := [_, _, _, _, _, _]) st.front8 ty_agg42 rfl rfl rfl rfl rfl rfl ?_ | refine WL.storeL (vs := [_, _, _, _, _, _]) st.front8 ty_agg42 rfl rfl rfl rfl (by first | decide | omega) rfl rfl ?_
      intro w st
      refine TL.nxt' rfl ?_
      refine TL.wl ?_
      refine WL.join hKC (fun _ _ h => h) (b8, b9) st (by repeat (first | exact sub_nil _ | refine sub_cons rfl rfl ?_))
    · skip
      refine TL.at ?_
      -- R11.15 9 := law.go:391 alloc
      refine WL.alloc (m := 6) st ty_zero42 rfl rfl rfl ?_
      intro b9 w st
      refine TL.nxt (by first | exact st | exact st.drop | exact st.drop1 | exact st.drop2 | exact st.drop3 | exact st.drop4 | exact st.drop.drop | exact st.drop.drop1 | exact st.drop.drop2 | exact st.drop.drop3 | exact st.drop.drop4 | exact st.drop.drop.drop | exact st.drop.drop.drop.drop | exact st_dropL st | exact st_dropL st.drop | exact st_none st) ?_
      refine TL.at ?_
      -- R11.14 8 := law.go:391 alloc
      refine WL.alloc (m := 6) st ty_zero42 rfl rfl rfl ?_
      intro b8 w st
      refine TL.nxt (by first | exact st | exact st.drop | exact st.drop1 | exact st.drop2 | exact st.drop3 | exact st.drop4 | exact st.drop.drop | exact st.drop.drop1 | exact st.drop.drop2 | exact st.drop.drop3 | exact st.drop.drop4 | exact st.drop.drop.drop | exact st.drop.drop.drop.drop | exact st_dropL st | exact st_dropL st.drop | exact st_none st) ?_
      refine TL.at ?_
      -- R11.16 None := law.go:391 store
      first | refine WL.storeW (vs := [_, _, _, _, _, _]) st ty_agg42 rfl rfl rfl rfl rfl rfl ?_ | refine WL.storeL (vs := [_, _, _, _, _, _]) st ty_agg42 rfl rfl rfl rfl (by first | decide | omega) rfl rfl ?_ | refine WL.storeW (vs := [_, _, _, _, _, _]) st.front1 ty_agg42 rfl rfl rfl rfl rfl rfl ?_ | refine WL.storeL (vs := [_, _, _, _, _, _]) st.front1 ty_agg42 rfl rfl rfl rfl (by first | decide | omega) rfl rfl ?_ | refine WL.storeW (vs := [_, _, _, _, _, _]) st.front2 ty_agg42 rfl rfl rfl rfl rfl rfl ?_ | refine WL.storeL (vs := [_, _, _, _, _, _]) st.front2 ty_agg42 rfl rfl rfl rfl (by first | decide | omega) rfl rfl ?_ | refine WL.storeW (vs := [_, _, _, _, _, _]) st.front3 ty_agg42 rfl rfl rfl rfl rfl rfl ?_ | refine WL.storeL (vs := [_, _, _, _, _, _]) st.front3 ty_agg42 rfl rfl rfl rfl (by first | decide | omega) rfl rfl ?_ | refine WL.storeW (vs := [_, _, _, _, _, _]) st.front4 ty_agg42 rfl rfl rfl rfl rfl rfl ?_ | refine WL.storeL (vs := [_, _, _, _, _, _]) st.front4 ty_agg42 rfl rfl rfl rfl (by first | decide | omega) rfl rfl ?_ | refine WL.storeW (vs := [_, _, _, _, _, _]) st.front5 ty_agg42 rfl rfl rfl rfl rfl rfl ?_ | refine WL.storeL (vs := [_, _, _, _, _, _]) st.front5 ty_agg42 rfl rfl rfl rfl (by first | decide | omega) rfl rfl ?_ | refine WL.storeW (vs := [_, _, _, _, _, _]) st.front6 ty_agg42 rfl rfl rfl rfl rfl rfl ?_ | refine WL.storeL (vs := [_, _, _, _, _, _]) st.front6 ty_agg42 rfl rfl rfl rfl (by first | decide | omega) rfl rfl ?_ | refine WL.storeW (vs := [_, _, _, _, _, _]) st.front7 ty_agg42 rfl rfl rfl rfl rfl rfl ?_ | refine WL.storeL (vs := [_, _, _, _, _, _]) st.front7 ty_agg42 rfl rfl rfl rfl (by first | decide | omega) rfl rfl ?_ | refine WL.storeW (vs := [_, _, _, _, _, _]) st.front8 ty_agg42 rfl rfl rfl rfl rfl rfl ?_ | refine WL.storeL (vs := [_, _, _, _, _, _]) st.front8 ty_agg42 rfl rfl rfl rfl (by first | decide | omega) rfl rfl ?_
      intro w st
      refine TL.nxt (by first | exact st | exact st.drop | exact st.drop1 | exact st.drop2 | exact st.drop3 | exact st.drop4 | exact st.drop.drop | exact st.drop.drop1 | exact st.drop.drop2 | exact st.drop.drop3 | exact st.drop.drop4 | exact st.drop.drop.drop | exact st.drop.drop.drop.drop | exact st_dropL st | exact st_dropL st.drop | exact st_none st) ?_
      refine TL.at ?_
      -- R11.17 None := law.go:391 store
      first | refine WL.storeW (vs := [_, _, _, _, _, _]) st ty_agg42 rfl rfl rfl rfl rfl rfl ?_ | refine WL.storeL (vs := [_, _, _, _, _, _]) st ty_agg42 rfl rfl rfl rfl (by first | decide | omega) rfl rfl ?_ | refine WL.storeW (vs := [_, _, _, _, _, _]) st.front1 ty_agg42 rfl rfl rfl rfl rfl rfl ?_ | refine WL.storeL (vs := [_, _, _, _, _, _]) st.front1 ty_agg42 rfl rfl rfl rfl (by first | decide | omega) rfl rfl ?_ | refine WL.storeW (vs := [_, _, _, _, _, _]) st.front2 ty_agg42 rfl rfl rfl rfl rfl rfl ?_ | refine WL.storeL (vs := [_, _, _, _, _, _]) st.front2 ty_agg42 rfl rfl rfl rfl (by first | decide | omega) rfl rfl ?_ | refine WL.storeW (vs := [_, _, _, _, _, _]) st.front3 ty_agg42 rfl rfl rfl rfl rfl rfl ?_ | refine WL.storeL (vs := [_, _, _, _, _, _]) st.front3 ty_agg42 rfl rfl rfl rfl (by first | decide | omega) rfl rfl ?_ | refine WL.storeW (vs := [_, _, _, _, _, _]) st.front4 ty_agg42 rfl rfl rfl rfl rfl rfl ?_ | refine WL.storeL (vs := [_, _, _, _, _, _]) st.front4 ty_agg42 rfl rfl rfl rfl (by first | decide | omega) rfl rfl ?_ | refine WL.storeW (vs := [_, _, _, _, _, _]) st.front5 ty_agg42 rfl rfl rfl rfl rfl rfl ?_ | refine WL.storeL (vs := [_, _, _, _, _, _]) st.front5 ty_agg42 rfl rfl rfl rfl (by first | decide | omega) rfl rfl ?_ | refine WL.storeW (vs := [_, _, _, _, _, _]) st.front6 ty_agg42 rfl rfl rfl rfl rfl rfl ?_ | refine WL.storeL (vs := [_, _, _, _, _, _]) st.front6 ty_agg42 rfl rfl rfl rfl (by first | decide | omega) rfl rfl ?_ | refine WL.storeW (vs := [_, _, _, _, _, _]) st.front7 ty_agg42 rfl rfl rfl rfl rfl rfl ?_ | refine WL.storeL (vs := [_, _, _, _, _, _]) st.front7 ty_agg42 rfl rfl rfl rfl (by first | decide | omega) rfl rfl ?_ | refine WL.storeW (vs := [_, _, _, _, _, _]) st.front8 ty_agg42 rfl rfl rfl rfl rfl rfl ?_ | refine WL.storeL (vs := [_, _, _, _, _, _]) st.front8 ty_agg42 rfl rfl rfl rfl (by first | decide | omega) rfl rfl ?_
      intro w st
      refine TL.nxt' rfl ?_
      refine TL.wl ?_
      refine WL.join hKC (fun _ _ h => h) (b8, b9) st (by repeat (first | exact sub_nil _ | refine sub_cons rfl rfl ?_))
  clear st
  rintro ⟨b8, b9⟩ w st
  dsimp only at st ⊢
  rcases hbit : (toldP ans 3).testBit i with _ | _
  rotate_left
  · obtain ⟨a1, a2, a3, a4, a5, a6, a7⟩ := hab hbit
    refine WC.seq fun K2082 hK2082 => ?_
    refine WC.seq fun K2083 hK2083 => ?_
    -- region 12 (draws)
    refine WC.quietS st ty_mixed (by kernel_rfl) fun Kq hKq => ?_
    -- R12.0 51 := law.go:392 fieldAddr
    refine QL.v (fun w st => by exact r_field ty_fld36_2 rfl) rfl rfl rfl ?_
    -- R12.1 52 := law.go:392 load
    refine QL.v (fun w st => by exact r_load1 (v := .pointer (some ⟨bA, 0, none⟩)) ty_one29 rfl (by rw [← f6]; exact st.c2 (by decide))) rfl rfl rfl ?_
    -- R12.2 53 := law.go:392 move
    refine QL.v (fun w st => by first | exact r_move (v := .int _ _) rfl | exact r_move rfl) rfl rfl rfl ?_
    -- R12.3 54 := law.go:392 nilCheck
    refine QL.v (fun w st => by exact r_nilCheck rfl) rfl rfl rfl ?_
    -- R12.4 55 := law.go:392 fieldAddr
    refine QL.v (fun w st => by exact r_field ty_fld50_5 rfl) rfl rfl rfl ?_
    -- R12.5 56 := law.go:392 indexAddr
    refine QL.v (fun w st => by exact r_indexA (j := i) ty_ar45 rfl rfl rfl hi') rfl rfl rfl ?_
    -- R12.6 57 := law.go:392 load
    refine QL.v (fun w st => by exact r_loadN (f := (fun r => .int .i64 (s'.claim i r : Nat))) ty_agg44 rfl (fun k hk => c_sC (hck3 _ _).A hi' hk (by omega) st)) rfl rfl rfl ?_
    -- R12.7 58 := law.go:392 fieldAddr
    refine QL.v (fun w st => by exact r_field ty_fld36_1 rfl) rfl rfl rfl ?_
    -- R12.8 59 := law.go:392 load
    refine QL.v (fun w st => by exact r_load1 (v := .pointer (some ⟨bB, 0, none⟩)) ty_one29 rfl (by rw [← f5]; exact st.c2 (by decide))) rfl rfl rfl ?_
    -- R12.9 60 := law.go:392 move
    refine QL.v (fun w st => by first | exact r_move (v := .int _ _) rfl | exact r_move rfl) rfl rfl rfl ?_
    -- R12.10 61 := law.go:392 nilCheck
    refine QL.v (fun w st => by exact r_nilCheck rfl) rfl rfl rfl ?_
    -- R12.11 62 := law.go:392 fieldAddr
    refine QL.v (fun w st => by exact r_field ty_fld50_5 rfl) rfl rfl rfl ?_
    -- R12.12 63 := law.go:392 indexAddr
    refine QL.v (fun w st => by exact r_indexA (j := i) ty_ar45 rfl rfl rfl hi') rfl rfl rfl ?_
    -- R12.13 64 := law.go:392 load
    refine QL.v (fun w st => by exact r_loadN (f := (fun r => .int .i64 (s.claim i r : Nat))) ty_agg44 rfl (fun k hk => c_sC (hck3 _ _).B hi' hk (by omega) st)) rfl rfl rfl ?_
    -- R12.14 65 := law.go:392 binOp
    refine QL.v (fun w st => by exact r_aneq (n := 20) (F := fun r => .int .i64 (s'.claim i r : Nat)) (G := fun r => .int .i64 (s.claim i r : Nat)) (t := false) eqH List.length_replicate rfl rfl (fun i hi => by rw [rep_get hi]; exact KFit.int) ⟨fun _ j hj => by rw [hcl], fun _ => rfl⟩) rfl rfl rfl ?_
    refine QL.wl hKq fun w st => ?_
    refine WL.fin hK2083 (fun _ _ h => h) ?_
    refine WC.condF rfl rfl ?_
    refine WC.skipF hK2082 (fun _ _ h => h) ?_
    refine WC.seq fun K2084 hK2084 => ?_
    refine WC.seq fun K2085 hK2085 => ?_
    -- region 14
    refine WC.region ?_
    -- R14.0 66 := law.go:395 move
    refine WL.v (by first | exact r_move (v := .int _ _) rfl | exact r_move rfl) rfl rfl rfl ?_
    -- R14.1 67 := law.go:395 move
    refine WL.v (by first | exact r_move (v := .int _ _) rfl | exact r_move rfl) rfl rfl rfl ?_
    -- R14.2 68 := law.go:395 call
    refine WL.call (r_call ty_call28 rfl) rfl rfl rfl (has_ok hlt3 hi' st) ?_
    rintro _ w ⟨he, st⟩
    rw [hbit] at he
    subst he
    refine WL.fin hK2085 (fun _ _ h => h) ?_
    refine WC.condT rfl rfl ?_
    refine WC.seq fun K2086 hK2086 => ?_
    refine WC.seq fun K2087 hK2087 => ?_
    -- region 15
    refine WC.region ?_
    -- R15.0 69 := law.go:396 load
    refine WL.v (by exact r_loadL (vs := abL (s.tk i)) ty_agg42 rfl ⟨(st.c0 (by decide)).trans (congrArg some (congrArg Value.bool a1)), (st.c0 (by decide)).trans (congrArg (fun x : Nat => some (Value.int .u64 (x : Int))) a2), (st.c0 (by decide)).trans (congrArg (fun x : Nat => some (Value.int .u64 (x : Int))) a3), (st.c0 (by decide)).trans (congrArg some (congrArg Value.bool a4)), (st.c0 (by decide)).trans (congrArg (fun x : Nat => some (Value.int .u64 (x : Int))) a5), (st.c0 (by decide)).trans (congrArg (fun x : Nat => some (Value.int .i64 (x : Int))) a6), trivial⟩) rfl rfl rfl ?_
    -- R15.1 70 := law.go:396 fieldAddr
    refine WL.v (by exact r_field ty_fld42_1 rfl) rfl rfl rfl ?_
    -- R15.2 71 := law.go:396 load
    refine WL.v (by exact r_load1 (v := .int .u64 ((s.tk i).birth : Nat)) ty_one26 rfl (st.c1 (by decide))) rfl rfl rfl ?_
    -- R15.3 72 := law.go:396 fieldAddr
    refine WL.v (by exact r_field ty_fld42_2 rfl) rfl rfl rfl ?_
    -- R15.4 73 := law.go:396 load
    refine WL.v (by exact r_load1 (v := .int .u64 ((s.tk i).epoch : Nat)) ty_one26 rfl (st.c1 (by decide))) rfl rfl rfl ?_
    -- R15.5 74 := law.go:396 binOp
    refine WL.v (by exact r_add (r := ((inc64 (s.tk i).epoch : Nat) : Int)) rfl rfl (by show (((s.tk i).epoch : Nat) + 1 : Int) % 18446744073709551616 = (((s.tk i).epoch + 1) % 18446744073709551616 : Nat); omega)) rfl rfl rfl ?_
    -- R15.6 75 := law.go:396 build
    refine WL.v (by exact r_build (ps := [(0, .bool true), (1, .int .u64 ((s.tk i).birth : Nat)), (2, .int .u64 ((inc64 (s.tk i).epoch : Nat) : Int))]) (vs := abL (s.tk i)) ty_pl42 ty_zero42 rfl rfl) rfl rfl rfl ?_
    -- R15.7 76 := law.go:396 binOp
    refine WL.v (by exact r_aneq (n := 6) (F := nth (abL (s.tk i))) (G := nth (abL (s.tk i))) (t := false) eqTs rfl rfl rfl abL_fit ⟨fun _ _ _ => rfl, fun _ => rfl⟩) rfl rfl rfl ?_
    -- R15.8 77 := law.go:396 move
    refine WL.v (by first | exact r_move (v := .bool _) rfl | exact r_move rfl) rfl rfl rfl ?_
    -- R15.9 78 := law.go:396 fieldAddr
    refine WL.v (by exact r_field ty_fld36_2 rfl) rfl rfl rfl ?_
    -- R15.10 79 := law.go:396 load
    refine WL.v (by exact r_load1 (v := .pointer (some ⟨bA, 0, none⟩)) ty_one29 rfl (by rw [← f6]; exact st.c2 (by decide))) rfl rfl rfl ?_
    -- R15.11 80 := law.go:396 move
    refine WL.v (by first | exact r_move (v := .int _ _) rfl | exact r_move rfl) rfl rfl rfl ?_
    -- R15.12 81 := law.go:396 nilCheck
    refine WL.v (by exact r_nilCheck rfl) rfl rfl rfl ?_
    -- R15.13 82 := law.go:396 fieldAddr
    refine WL.v (by exact r_field ty_fld50_4 rfl) rfl rfl rfl ?_
    -- R15.14 83 := law.go:396 indexAddr
    refine WL.v (by exact r_indexA (j := i) ty_ar45 rfl rfl rfl hi') rfl rfl rfl ?_
    -- R15.15 84 := law.go:396 load
    refine WL.v (by exact r_loadN (f := (fun r => .int .i64 (s'.held i r : Nat))) ty_agg44 rfl (fun k hk => c_sH (hck3 _ _).A hi' hk (by omega) st)) rfl rfl rfl ?_
    -- R15.16 85 := law.go:396 build
    refine WL.v (by exact r_buildN (n := 20) (z := fun _ => .int .i64 0) (v := fun _ => .int .i64 0) (ps := []) ty_pl44 ty_zeroN44 rfl fill_nil) rfl rfl rfl ?_
    -- R15.17 86 := law.go:396 binOp
    refine WL.v (by exact r_aneq (n := 20) (F := fun r => .int .i64 (s'.held i r : Nat)) (G := fun _ => .int .i64 0) (t := false) eqH List.length_replicate rfl rfl (fun i hi => by rw [rep_get hi]; exact KFit.int) ⟨fun _ j hj => by rw [a7]; rfl, fun _ => rfl⟩) rfl rfl rfl ?_
    -- R15.18 87 := law.go:396 pick
    refine WL.v (by first | exact r_pickT (v := .bool _) rfl rfl | exact r_pickF (v := .bool _) rfl rfl) rfl rfl rfl ?_
    refine WL.fin hK2087 (fun _ _ h => h) ?_
    refine WC.condF rfl rfl ?_
    refine WC.skipF hK2086 (fun _ _ h => h) ?_
    refine WC.exitF hK2081 (fun _ _ h => h) ?_
    -- region 10
    refine WC.region ?_
    -- R10.0 35 := law.go:390 move
    refine WL.v (by first | exact r_move (v := .int _ _) rfl | exact r_move rfl) rfl rfl rfl ?_
    -- R10.1 36 := law.go:390 binOp
    refine WL.v (by first | exact r_add rfl rfl (wi64 (by omega) (by omega)) | exact r_add rfl rfl rfl) rfl rfl rfl ?_
    -- R10.2 7 := law.go:390 assign
    refine WL.v (by first | exact r_assign (v := .int _ _) rfl | exact r_assign rfl) rfl rfl rfl ?_
    refine WL.next hK2 (fun _ _ h => h) (i + 1) ⟨hi', st.drop.drop⟩ (by omega) (by repeat (first | exact sub_nil _ | refine sub_cons rfl rfl ?_))
  obtain ⟨n1, n2, n3, n4, n5⟩ := hnt hbit
  rcases hgb : gm.testBit i with _ | _
  · have n5 := n5 hgb

    refine WC.seq fun K2088 hK2088 => ?_
    refine WC.seq fun K2089 hK2089 => ?_
    -- region 12 (draws)
    refine WC.quietS st ty_mixed (by kernel_rfl) fun Kq hKq => ?_
    -- R12.0 51 := law.go:392 fieldAddr
    refine QL.v (fun w st => by exact r_field ty_fld36_2 rfl) rfl rfl rfl ?_
    -- R12.1 52 := law.go:392 load
    refine QL.v (fun w st => by exact r_load1 (v := .pointer (some ⟨bA, 0, none⟩)) ty_one29 rfl (by rw [← f6]; exact st.c2 (by decide))) rfl rfl rfl ?_
    -- R12.2 53 := law.go:392 move
    refine QL.v (fun w st => by first | exact r_move (v := .int _ _) rfl | exact r_move rfl) rfl rfl rfl ?_
    -- R12.3 54 := law.go:392 nilCheck
    refine QL.v (fun w st => by exact r_nilCheck rfl) rfl rfl rfl ?_
    -- R12.4 55 := law.go:392 fieldAddr
    refine QL.v (fun w st => by exact r_field ty_fld50_5 rfl) rfl rfl rfl ?_
    -- R12.5 56 := law.go:392 indexAddr
    refine QL.v (fun w st => by exact r_indexA (j := i) ty_ar45 rfl rfl rfl hi') rfl rfl rfl ?_
    -- R12.6 57 := law.go:392 load
    refine QL.v (fun w st => by exact r_loadN (f := (fun r => .int .i64 (s'.claim i r : Nat))) ty_agg44 rfl (fun k hk => c_sC (hck3 _ _).A hi' hk (by omega) st)) rfl rfl rfl ?_
    -- R12.7 58 := law.go:392 fieldAddr
    refine QL.v (fun w st => by exact r_field ty_fld36_1 rfl) rfl rfl rfl ?_
    -- R12.8 59 := law.go:392 load
    refine QL.v (fun w st => by exact r_load1 (v := .pointer (some ⟨bB, 0, none⟩)) ty_one29 rfl (by rw [← f5]; exact st.c2 (by decide))) rfl rfl rfl ?_
    -- R12.9 60 := law.go:392 move
    refine QL.v (fun w st => by first | exact r_move (v := .int _ _) rfl | exact r_move rfl) rfl rfl rfl ?_
    -- R12.10 61 := law.go:392 nilCheck
    refine QL.v (fun w st => by exact r_nilCheck rfl) rfl rfl rfl ?_
    -- R12.11 62 := law.go:392 fieldAddr
    refine QL.v (fun w st => by exact r_field ty_fld50_5 rfl) rfl rfl rfl ?_
    -- R12.12 63 := law.go:392 indexAddr
    refine QL.v (fun w st => by exact r_indexA (j := i) ty_ar45 rfl rfl rfl hi') rfl rfl rfl ?_
    -- R12.13 64 := law.go:392 load
    refine QL.v (fun w st => by exact r_loadN (f := (fun r => .int .i64 (s.claim i r : Nat))) ty_agg44 rfl (fun k hk => c_sC (hck3 _ _).B hi' hk (by omega) st)) rfl rfl rfl ?_
    -- R12.14 65 := law.go:392 binOp
    refine QL.v (fun w st => by exact r_aneq (n := 20) (F := fun r => .int .i64 (s'.claim i r : Nat)) (G := fun r => .int .i64 (s.claim i r : Nat)) (t := false) eqH List.length_replicate rfl rfl (fun i hi => by rw [rep_get hi]; exact KFit.int) ⟨fun _ j hj => by rw [hcl], fun _ => rfl⟩) rfl rfl rfl ?_
    refine QL.wl hKq fun w st => ?_
    refine WL.fin hK2089 (fun _ _ h => h) ?_
    refine WC.condF rfl rfl ?_
    refine WC.skipF hK2088 (fun _ _ h => h) ?_
    refine WC.seq fun K2090 hK2090 => ?_
    refine WC.seq fun K2091 hK2091 => ?_
    -- region 14
    refine WC.region ?_
    -- R14.0 66 := law.go:395 move
    refine WL.v (by first | exact r_move (v := .int _ _) rfl | exact r_move rfl) rfl rfl rfl ?_
    -- R14.1 67 := law.go:395 move
    refine WL.v (by first | exact r_move (v := .int _ _) rfl | exact r_move rfl) rfl rfl rfl ?_
    -- R14.2 68 := law.go:395 call
    refine WL.call (r_call ty_call28 rfl) rfl rfl rfl (has_ok hlt3 hi' st) ?_
    rintro _ w ⟨he, st⟩
    rw [hbit] at he
    subst he
    refine WL.fin hK2091 (fun _ _ h => h) ?_
    refine WC.condF rfl rfl ?_
    refine WC.skipF hK2090 (fun _ _ h => h) ?_
    refine WC.seq fun K2092 hK2092 => ?_
    refine WC.seq fun K2093 hK2093 => ?_
    -- region 17
    refine WC.region ?_
    -- R17.0 88 := law.go:401 fieldAddr
    refine WL.v (by exact r_field ty_fld42_5 rfl) rfl rfl rfl ?_
    -- R17.1 89 := law.go:401 load
    refine WL.v (by exact r_load1 (v := .int .i64 ((s'.tk i).n : Nat)) ty_one3 rfl (st.c0 (by decide))) rfl rfl rfl ?_
    -- R17.2 90 := law.go:401 fieldAddr
    refine WL.v (by exact r_field ty_fld42_5 rfl) rfl rfl rfl ?_
    -- R17.3 91 := law.go:401 load
    refine WL.v (by exact r_load1 (v := .int .i64 ((s.tk i).n : Nat)) ty_one3 rfl (st.c1 (by decide))) rfl rfl rfl ?_
    -- R17.4 92 := law.go:401 binOp
    refine WL.v (by exact r_neq rfl rfl (decide_eq_false (by omega))) rfl rfl rfl ?_
    -- R17.5 93 := law.go:401 move
    refine WL.v (by first | exact r_move (v := .bool _) rfl | exact r_move rfl) rfl rfl rfl ?_
    -- R17.6 94 := law.go:401 fieldAddr
    refine WL.v (by exact r_field ty_fld42_2 rfl) rfl rfl rfl ?_
    -- R17.7 95 := law.go:401 load
    refine WL.v (by exact r_load1 (v := .int .u64 ((s'.tk i).epoch : Nat)) ty_one26 rfl (st.c0 (by decide))) rfl rfl rfl ?_
    -- R17.8 96 := law.go:401 fieldAddr
    refine WL.v (by exact r_field ty_fld42_2 rfl) rfl rfl rfl ?_
    -- R17.9 97 := law.go:401 load
    refine WL.v (by exact r_load1 (v := .int .u64 ((s.tk i).epoch : Nat)) ty_one26 rfl (st.c1 (by decide))) rfl rfl rfl ?_
    -- R17.10 98 := law.go:401 binOp
    refine WL.v (by exact r_neq rfl rfl (decide_eq_false (by omega))) rfl rfl rfl ?_
    -- R17.11 99 := law.go:401 pick
    refine WL.v (by first | exact r_pickT (v := .bool _) rfl rfl | exact r_pickF (v := .bool _) rfl rfl) rfl rfl rfl ?_
    -- R17.12 100 := law.go:401 move
    refine WL.v (by first | exact r_move (v := .bool _) rfl | exact r_move rfl) rfl rfl rfl ?_
    -- R17.13 101 := law.go:401 fieldAddr
    refine WL.v (by exact r_field ty_fld42_0 rfl) rfl rfl rfl ?_
    -- R17.14 102 := law.go:401 load
    refine WL.v (by exact r_load1 (v := .bool (s'.tk i).live) ty_one4 rfl (st.c0 (by decide))) rfl rfl rfl ?_
    -- R17.15 103 := law.go:401 fieldAddr
    refine WL.v (by exact r_field ty_fld42_0 rfl) rfl rfl rfl ?_
    -- R17.16 104 := law.go:401 load
    refine WL.v (by exact r_load1 (v := .bool (s.tk i).live) ty_one4 rfl (st.c1 (by decide))) rfl rfl rfl ?_
    -- R17.17 105 := law.go:401 binOp
    refine WL.v (by exact r_bneq (t := false) ty_bool4 rfl rfl (by rw [n3]; simp)) rfl rfl rfl ?_
    -- R17.18 106 := law.go:401 pick
    refine WL.v (by first | exact r_pickT (v := .bool _) rfl rfl | exact r_pickF (v := .bool _) rfl rfl) rfl rfl rfl ?_
    refine WL.fin hK2093 (fun _ _ h => h) ?_
    refine WC.condF rfl rfl ?_
    refine WC.skipF hK2092 (fun _ _ h => h) ?_
    refine WC.seq fun K2094 hK2094 => ?_
    refine WC.seq fun K2095 hK2095 => ?_
    -- region 19 (draws)
    refine WC.quietS st ty_mixed (by kernel_rfl) fun Kq hKq => ?_
    -- R19.0 107 := law.go:404 move
    refine QL.v (fun w st => by first | exact r_move (v := .int _ _) rfl | exact r_move rfl) rfl rfl rfl ?_
    -- R19.1 108 := law.go:404 move
    refine QL.v (fun w st => by first | exact r_move (v := .int _ _) rfl | exact r_move rfl) rfl rfl rfl ?_
    -- R19.2 109 := law.go:404 call
    refine QL.call (val := .bool false) (fun w st => r_call ty_call28 rfl) rfl rfl rfl (fun w st => (has_ok hglt hi' st).mono (by rintro _ _ ⟨v, rfl, rfl, st⟩; exact ⟨_, rfl, by rw [hgb], st⟩)) ?_
    -- R19.3 110 := law.go:404 unOp
    refine QL.v (fun w st => by first | exact r_notT rfl | exact r_notF rfl | exact r_not rfl) rfl rfl rfl ?_
    -- R19.4 111 := law.go:404 move
    refine QL.v (fun w st => by first | exact r_move (v := .bool _) rfl | exact r_move rfl) rfl rfl rfl ?_
    -- R19.5 112 := law.go:404 fieldAddr
    refine QL.v (fun w st => by exact r_field ty_fld36_2 rfl) rfl rfl rfl ?_
    -- R19.6 113 := law.go:404 load
    refine QL.v (fun w st => by exact r_load1 (v := .pointer (some ⟨bA, 0, none⟩)) ty_one29 rfl (by rw [← f6]; exact st.c2 (by decide))) rfl rfl rfl ?_
    -- R19.7 114 := law.go:404 move
    refine QL.v (fun w st => by first | exact r_move (v := .int _ _) rfl | exact r_move rfl) rfl rfl rfl ?_
    -- R19.8 115 := law.go:404 nilCheck
    refine QL.v (fun w st => by exact r_nilCheck rfl) rfl rfl rfl ?_
    -- R19.9 116 := law.go:404 fieldAddr
    refine QL.v (fun w st => by exact r_field ty_fld50_4 rfl) rfl rfl rfl ?_
    -- R19.10 117 := law.go:404 indexAddr
    refine QL.v (fun w st => by exact r_indexA (j := i) ty_ar45 rfl rfl rfl hi') rfl rfl rfl ?_
    -- R19.11 118 := law.go:404 load
    refine QL.v (fun w st => by exact r_loadN (f := (fun r => .int .i64 (s'.held i r : Nat))) ty_agg44 rfl (fun k hk => c_sH (hck3 _ _).A hi' hk (by omega) st)) rfl rfl rfl ?_
    -- R19.12 119 := law.go:404 fieldAddr
    refine QL.v (fun w st => by exact r_field ty_fld36_1 rfl) rfl rfl rfl ?_
    -- R19.13 120 := law.go:404 load
    refine QL.v (fun w st => by exact r_load1 (v := .pointer (some ⟨bB, 0, none⟩)) ty_one29 rfl (by rw [← f5]; exact st.c2 (by decide))) rfl rfl rfl ?_
    -- R19.14 121 := law.go:404 move
    refine QL.v (fun w st => by first | exact r_move (v := .int _ _) rfl | exact r_move rfl) rfl rfl rfl ?_
    -- R19.15 122 := law.go:404 nilCheck
    refine QL.v (fun w st => by exact r_nilCheck rfl) rfl rfl rfl ?_
    -- R19.16 123 := law.go:404 fieldAddr
    refine QL.v (fun w st => by exact r_field ty_fld50_4 rfl) rfl rfl rfl ?_
    -- R19.17 124 := law.go:404 indexAddr
    refine QL.v (fun w st => by exact r_indexA (j := i) ty_ar45 rfl rfl rfl hi') rfl rfl rfl ?_
    -- R19.18 125 := law.go:404 load
    refine QL.v (fun w st => by exact r_loadN (f := (fun r => .int .i64 (s.held i r : Nat))) ty_agg44 rfl (fun k hk => c_sH (hck3 _ _).B hi' hk (by omega) st)) rfl rfl rfl ?_
    -- R19.19 126 := law.go:404 binOp
    refine QL.v (fun w st => by exact r_aneq (n := 20) (F := fun r => .int .i64 (s'.held i r : Nat)) (G := fun r => .int .i64 (s.held i r : Nat)) (t := false) eqH List.length_replicate rfl rfl (fun i hi => by rw [rep_get hi]; exact KFit.int) ⟨fun _ j hj => by rw [n5], fun _ => rfl⟩) rfl rfl rfl ?_
    -- R19.20 127 := law.go:404 pick
    refine QL.v (fun w st => by first | exact r_pickT (v := .bool _) rfl rfl | exact r_pickF (v := .bool _) rfl rfl) rfl rfl rfl ?_
    refine QL.wl hKq fun w st => ?_
    refine WL.fin hK2095 (fun _ _ h => h) ?_
    refine WC.condF rfl rfl ?_
    refine WC.skipF hK2094 (fun _ _ h => h) ?_
    refine WC.seq fun K2096 hK2096 => ?_
    -- region 21
    refine WC.region ?_
    -- R21.0 128 := law.go:407 move
    refine WL.v (by first | exact r_move (v := .int _ _) rfl | exact r_move rfl) rfl rfl rfl ?_
    refine WL.fin hK2096 (fun _ _ h => h) ?_
    refine WC.block ?_
    refine WC.loop (ι := Nat) (fun r => [(1, .pointer (some ⟨b1, 0, none⟩)), (3, .int .u16 (toldP ans 3 : Nat)), (4, .int .u16 (gm : Nat)), (7, .int .i64 (i : Nat)), (128, .int .i64 (r : Nat))])
      (fun r w' => r ≤ 20 ∧ S0 w0 ((b1, Row 36 10 fs) :: l) w') (fun r => 20 - r) 0 ⟨Nat.zero_le _, st.drop.drop⟩ ?_ ?_
    · skip
      repeat (first | exact sub_nil _ | refine sub_cons rfl rfl ?_)
    clear st
    rintro r w ⟨hr, st⟩ K3 hK3
    by_cases h20 : r = 20
    · skip
      refine WC.seq fun K2097 hK2097 => ?_
      -- region 22
      refine WC.region ?_
      -- R22.0 129 := law.go:407 binOp
      refine WL.v (by first | exact r_lss rfl rfl (decide_eq_true (by omega)) | exact r_lss rfl rfl (decide_eq_false (by omega)) | exact r_lss rfl rfl rfl) rfl rfl rfl ?_
      refine WL.fin hK2097 (fun _ _ h => h) ?_
      refine WC.seq fun K2098 hK2098 => ?_
      refine WC.condF rfl rfl ?_
      refine WC.exitF hK2081 (fun _ _ h => h) ?_
      -- region 10
      refine WC.region ?_
      -- R10.0 35 := law.go:390 move
      refine WL.v (by first | exact r_move (v := .int _ _) rfl | exact r_move rfl) rfl rfl rfl ?_
      -- R10.1 36 := law.go:390 binOp
      refine WL.v (by first | exact r_add rfl rfl (wi64 (by omega) (by omega)) | exact r_add rfl rfl rfl) rfl rfl rfl ?_
      -- R10.2 7 := law.go:390 assign
      refine WL.v (by first | exact r_assign (v := .int _ _) rfl | exact r_assign rfl) rfl rfl rfl ?_
      refine WL.next hK2 (fun _ _ h => h) (i + 1) ⟨hi', st⟩ (by omega) (by repeat (first | exact sub_nil _ | refine sub_cons rfl rfl ?_))
    have hr' : r < 20 := by omega
    have n4r := n4 r
    refine WC.seq fun K2099 hK2099 => ?_
    -- region 22
    refine WC.region ?_
    -- R22.0 129 := law.go:407 binOp
    refine WL.v (by first | exact r_lss rfl rfl (decide_eq_true (by omega)) | exact r_lss rfl rfl (decide_eq_false (by omega)) | exact r_lss rfl rfl rfl) rfl rfl rfl ?_
    refine WL.fin hK2099 (fun _ _ h => h) ?_
    refine WC.seq fun K2100 hK2100 => ?_
    refine WC.condT rfl rfl ?_
    refine WC.skipF hK2100 (fun _ _ h => h) ?_
    refine WC.seq fun K2101 hK2101 => ?_
    refine WC.block ?_
    refine WC.seq fun K2102 hK2102 => ?_
    -- region 23
    refine WC.region ?_
    -- R23.0 130 := law.go:407 move
    refine WL.v (by first | exact r_move (v := .int _ _) rfl | exact r_move rfl) rfl rfl rfl ?_
    -- R23.1 10 := law.go:407 assign
    refine WL.v (by first | exact r_assign (v := .int _ _) rfl | exact r_assign rfl) rfl rfl rfl ?_
    refine WL.fin hK2102 (fun _ _ h => h) ?_
    refine WC.seq fun K2103 hK2103 => ?_
    -- region 24 (draws)
    refine WC.quietS st ty_mixed (by kernel_rfl) fun Kq hKq => ?_
    -- R24.0 131 := law.go:408 fieldAddr
    refine QL.v (fun w st => by exact r_field ty_fld36_2 rfl) rfl rfl rfl ?_
    -- R24.1 132 := law.go:408 load
    refine QL.v (fun w st => by exact r_load1 (v := .pointer (some ⟨bA, 0, none⟩)) ty_one29 rfl (by rw [← f6]; exact st.c0 (by decide))) rfl rfl rfl ?_
    -- R24.2 133 := law.go:408 move
    refine QL.v (fun w st => by first | exact r_move (v := .int _ _) rfl | exact r_move rfl) rfl rfl rfl ?_
    -- R24.3 134 := law.go:408 move
    refine QL.v (fun w st => by first | exact r_move (v := .int _ _) rfl | exact r_move rfl) rfl rfl rfl ?_
    -- R24.4 135 := law.go:408 nilCheck
    refine QL.v (fun w st => by exact r_nilCheck rfl) rfl rfl rfl ?_
    -- R24.5 136 := law.go:408 fieldAddr
    refine QL.v (fun w st => by exact r_field ty_fld50_4 rfl) rfl rfl rfl ?_
    -- R24.6 137 := law.go:408 indexAddr
    refine QL.v (fun w st => by exact r_indexA (j := i) ty_ar45 rfl rfl rfl hi') rfl rfl rfl ?_
    -- R24.7 138 := law.go:408 indexAddr
    refine QL.v (fun w st => by exact r_indexA (j := r) ty_ar44 rfl rfl rfl hr') rfl rfl rfl ?_
    -- R24.8 139 := law.go:408 load
    refine QL.v (fun w st => by exact r_load1 (v := .int .i64 (s'.held i r : Nat)) ty_one3 rfl (c_sH hck1.A hi' hr' (by omega) st)) rfl rfl rfl ?_
    -- R24.9 140 := law.go:408 fieldAddr
    refine QL.v (fun w st => by exact r_field ty_fld36_1 rfl) rfl rfl rfl ?_
    -- R24.10 141 := law.go:408 load
    refine QL.v (fun w st => by exact r_load1 (v := .pointer (some ⟨bB, 0, none⟩)) ty_one29 rfl (by rw [← f5]; exact st.c0 (by decide))) rfl rfl rfl ?_
    -- R24.11 142 := law.go:408 move
    refine QL.v (fun w st => by first | exact r_move (v := .int _ _) rfl | exact r_move rfl) rfl rfl rfl ?_
    -- R24.12 143 := law.go:408 move
    refine QL.v (fun w st => by first | exact r_move (v := .int _ _) rfl | exact r_move rfl) rfl rfl rfl ?_
    -- R24.13 144 := law.go:408 nilCheck
    refine QL.v (fun w st => by exact r_nilCheck rfl) rfl rfl rfl ?_
    -- R24.14 145 := law.go:408 fieldAddr
    refine QL.v (fun w st => by exact r_field ty_fld50_4 rfl) rfl rfl rfl ?_
    -- R24.15 146 := law.go:408 indexAddr
    refine QL.v (fun w st => by exact r_indexA (j := i) ty_ar45 rfl rfl rfl hi') rfl rfl rfl ?_
    -- R24.16 147 := law.go:408 indexAddr
    refine QL.v (fun w st => by exact r_indexA (j := r) ty_ar44 rfl rfl rfl hr') rfl rfl rfl ?_
    -- R24.17 148 := law.go:408 load
    refine QL.v (fun w st => by exact r_load1 (v := .int .i64 (s.held i r : Nat)) ty_one3 rfl (c_sH hck1.B hi' hr' (by omega) st)) rfl rfl rfl ?_
    -- R24.18 149 := law.go:408 binOp
    refine QL.v (fun w st => by first | exact r_lss rfl rfl (decide_eq_true (by omega)) | exact r_lss rfl rfl (decide_eq_false (by omega)) | exact r_lss rfl rfl rfl) rfl rfl rfl ?_
    refine QL.wl hKq fun w st => ?_
    refine WL.fin hK2103 (fun _ _ h => h) ?_
    refine WC.condF rfl rfl ?_
    refine WC.skipF hK2101 (fun _ _ h => h) ?_
    -- region 26
    refine WC.region ?_
    -- R26.0 150 := law.go:407 binOp
    refine WL.v (by first | exact r_add rfl rfl (wi64 (by omega) (by omega)) | exact r_add rfl rfl rfl) rfl rfl rfl ?_
    -- R26.1 128 := law.go:407 move
    refine WL.v (by first | exact r_move (v := .int _ _) rfl | exact r_move rfl) rfl rfl rfl ?_
    refine WL.next hK3 (fun _ _ h => h) (r + 1) ⟨hr', st⟩ (by omega) (by repeat (first | exact sub_nil _ | refine sub_cons rfl rfl ?_))
  · skip

    refine WC.seq fun K2104 hK2104 => ?_
    refine WC.seq fun K2105 hK2105 => ?_
    -- region 12 (draws)
    refine WC.quietS st ty_mixed (by kernel_rfl) fun Kq hKq => ?_
    -- R12.0 51 := law.go:392 fieldAddr
    refine QL.v (fun w st => by exact r_field ty_fld36_2 rfl) rfl rfl rfl ?_
    -- R12.1 52 := law.go:392 load
    refine QL.v (fun w st => by exact r_load1 (v := .pointer (some ⟨bA, 0, none⟩)) ty_one29 rfl (by rw [← f6]; exact st.c2 (by decide))) rfl rfl rfl ?_
    -- R12.2 53 := law.go:392 move
    refine QL.v (fun w st => by first | exact r_move (v := .int _ _) rfl | exact r_move rfl) rfl rfl rfl ?_
    -- R12.3 54 := law.go:392 nilCheck
    refine QL.v (fun w st => by exact r_nilCheck rfl) rfl rfl rfl ?_
    -- R12.4 55 := law.go:392 fieldAddr
    refine QL.v (fun w st => by exact r_field ty_fld50_5 rfl) rfl rfl rfl ?_
    -- R12.5 56 := law.go:392 indexAddr
    refine QL.v (fun w st => by exact r_indexA (j := i) ty_ar45 rfl rfl rfl hi') rfl rfl rfl ?_
    -- R12.6 57 := law.go:392 load
    refine QL.v (fun w st => by exact r_loadN (f := (fun r => .int .i64 (s'.claim i r : Nat))) ty_agg44 rfl (fun k hk => c_sC (hck3 _ _).A hi' hk (by omega) st)) rfl rfl rfl ?_
    -- R12.7 58 := law.go:392 fieldAddr
    refine QL.v (fun w st => by exact r_field ty_fld36_1 rfl) rfl rfl rfl ?_
    -- R12.8 59 := law.go:392 load
    refine QL.v (fun w st => by exact r_load1 (v := .pointer (some ⟨bB, 0, none⟩)) ty_one29 rfl (by rw [← f5]; exact st.c2 (by decide))) rfl rfl rfl ?_
    -- R12.9 60 := law.go:392 move
    refine QL.v (fun w st => by first | exact r_move (v := .int _ _) rfl | exact r_move rfl) rfl rfl rfl ?_
    -- R12.10 61 := law.go:392 nilCheck
    refine QL.v (fun w st => by exact r_nilCheck rfl) rfl rfl rfl ?_
    -- R12.11 62 := law.go:392 fieldAddr
    refine QL.v (fun w st => by exact r_field ty_fld50_5 rfl) rfl rfl rfl ?_
    -- R12.12 63 := law.go:392 indexAddr
    refine QL.v (fun w st => by exact r_indexA (j := i) ty_ar45 rfl rfl rfl hi') rfl rfl rfl ?_
    -- R12.13 64 := law.go:392 load
    refine QL.v (fun w st => by exact r_loadN (f := (fun r => .int .i64 (s.claim i r : Nat))) ty_agg44 rfl (fun k hk => c_sC (hck3 _ _).B hi' hk (by omega) st)) rfl rfl rfl ?_
    -- R12.14 65 := law.go:392 binOp
    refine QL.v (fun w st => by exact r_aneq (n := 20) (F := fun r => .int .i64 (s'.claim i r : Nat)) (G := fun r => .int .i64 (s.claim i r : Nat)) (t := false) eqH List.length_replicate rfl rfl (fun i hi => by rw [rep_get hi]; exact KFit.int) ⟨fun _ j hj => by rw [hcl], fun _ => rfl⟩) rfl rfl rfl ?_
    refine QL.wl hKq fun w st => ?_
    refine WL.fin hK2105 (fun _ _ h => h) ?_
    refine WC.condF rfl rfl ?_
    refine WC.skipF hK2104 (fun _ _ h => h) ?_
    refine WC.seq fun K2106 hK2106 => ?_
    refine WC.seq fun K2107 hK2107 => ?_
    -- region 14
    refine WC.region ?_
    -- R14.0 66 := law.go:395 move
    refine WL.v (by first | exact r_move (v := .int _ _) rfl | exact r_move rfl) rfl rfl rfl ?_
    -- R14.1 67 := law.go:395 move
    refine WL.v (by first | exact r_move (v := .int _ _) rfl | exact r_move rfl) rfl rfl rfl ?_
    -- R14.2 68 := law.go:395 call
    refine WL.call (r_call ty_call28 rfl) rfl rfl rfl (has_ok hlt3 hi' st) ?_
    rintro _ w ⟨he, st⟩
    rw [hbit] at he
    subst he
    refine WL.fin hK2107 (fun _ _ h => h) ?_
    refine WC.condF rfl rfl ?_
    refine WC.skipF hK2106 (fun _ _ h => h) ?_
    refine WC.seq fun K2108 hK2108 => ?_
    refine WC.seq fun K2109 hK2109 => ?_
    -- region 17
    refine WC.region ?_
    -- R17.0 88 := law.go:401 fieldAddr
    refine WL.v (by exact r_field ty_fld42_5 rfl) rfl rfl rfl ?_
    -- R17.1 89 := law.go:401 load
    refine WL.v (by exact r_load1 (v := .int .i64 ((s'.tk i).n : Nat)) ty_one3 rfl (st.c0 (by decide))) rfl rfl rfl ?_
    -- R17.2 90 := law.go:401 fieldAddr
    refine WL.v (by exact r_field ty_fld42_5 rfl) rfl rfl rfl ?_
    -- R17.3 91 := law.go:401 load
    refine WL.v (by exact r_load1 (v := .int .i64 ((s.tk i).n : Nat)) ty_one3 rfl (st.c1 (by decide))) rfl rfl rfl ?_
    -- R17.4 92 := law.go:401 binOp
    refine WL.v (by exact r_neq rfl rfl (decide_eq_false (by omega))) rfl rfl rfl ?_
    -- R17.5 93 := law.go:401 move
    refine WL.v (by first | exact r_move (v := .bool _) rfl | exact r_move rfl) rfl rfl rfl ?_
    -- R17.6 94 := law.go:401 fieldAddr
    refine WL.v (by exact r_field ty_fld42_2 rfl) rfl rfl rfl ?_
    -- R17.7 95 := law.go:401 load
    refine WL.v (by exact r_load1 (v := .int .u64 ((s'.tk i).epoch : Nat)) ty_one26 rfl (st.c0 (by decide))) rfl rfl rfl ?_
    -- R17.8 96 := law.go:401 fieldAddr
    refine WL.v (by exact r_field ty_fld42_2 rfl) rfl rfl rfl ?_
    -- R17.9 97 := law.go:401 load
    refine WL.v (by exact r_load1 (v := .int .u64 ((s.tk i).epoch : Nat)) ty_one26 rfl (st.c1 (by decide))) rfl rfl rfl ?_
    -- R17.10 98 := law.go:401 binOp
    refine WL.v (by exact r_neq rfl rfl (decide_eq_false (by omega))) rfl rfl rfl ?_
    -- R17.11 99 := law.go:401 pick
    refine WL.v (by first | exact r_pickT (v := .bool _) rfl rfl | exact r_pickF (v := .bool _) rfl rfl) rfl rfl rfl ?_
    -- R17.12 100 := law.go:401 move
    refine WL.v (by first | exact r_move (v := .bool _) rfl | exact r_move rfl) rfl rfl rfl ?_
    -- R17.13 101 := law.go:401 fieldAddr
    refine WL.v (by exact r_field ty_fld42_0 rfl) rfl rfl rfl ?_
    -- R17.14 102 := law.go:401 load
    refine WL.v (by exact r_load1 (v := .bool (s'.tk i).live) ty_one4 rfl (st.c0 (by decide))) rfl rfl rfl ?_
    -- R17.15 103 := law.go:401 fieldAddr
    refine WL.v (by exact r_field ty_fld42_0 rfl) rfl rfl rfl ?_
    -- R17.16 104 := law.go:401 load
    refine WL.v (by exact r_load1 (v := .bool (s.tk i).live) ty_one4 rfl (st.c1 (by decide))) rfl rfl rfl ?_
    -- R17.17 105 := law.go:401 binOp
    refine WL.v (by exact r_bneq (t := false) ty_bool4 rfl rfl (by rw [n3]; simp)) rfl rfl rfl ?_
    -- R17.18 106 := law.go:401 pick
    refine WL.v (by first | exact r_pickT (v := .bool _) rfl rfl | exact r_pickF (v := .bool _) rfl rfl) rfl rfl rfl ?_
    refine WL.fin hK2109 (fun _ _ h => h) ?_
    refine WC.condF rfl rfl ?_
    refine WC.skipF hK2108 (fun _ _ h => h) ?_
    refine WC.seq fun K2110 hK2110 => ?_
    refine WC.seq fun K2111 hK2111 => ?_
    -- region 19 (draws)
    refine WC.quietS st ty_mixed (by kernel_rfl) fun Kq hKq => ?_
    -- R19.0 107 := law.go:404 move
    refine QL.v (fun w st => by first | exact r_move (v := .int _ _) rfl | exact r_move rfl) rfl rfl rfl ?_
    -- R19.1 108 := law.go:404 move
    refine QL.v (fun w st => by first | exact r_move (v := .int _ _) rfl | exact r_move rfl) rfl rfl rfl ?_
    -- R19.2 109 := law.go:404 call
    refine QL.call (val := .bool true) (fun w st => r_call ty_call28 rfl) rfl rfl rfl (fun w st => (has_ok hglt hi' st).mono (by rintro _ _ ⟨v, rfl, rfl, st⟩; exact ⟨_, rfl, by rw [hgb], st⟩)) ?_
    -- R19.3 110 := law.go:404 unOp
    refine QL.v (fun w st => by first | exact r_notT rfl | exact r_notF rfl | exact r_not rfl) rfl rfl rfl ?_
    -- R19.4 111 := law.go:404 move
    refine QL.v (fun w st => by first | exact r_move (v := .bool _) rfl | exact r_move rfl) rfl rfl rfl ?_
    -- R19.5 112 := law.go:404 fieldAddr
    refine QL.no rfl rfl ?_
    -- R19.6 113 := law.go:404 load
    refine QL.no rfl rfl ?_
    -- R19.7 114 := law.go:404 move
    refine QL.no rfl rfl ?_
    -- R19.8 115 := law.go:404 nilCheck
    refine QL.no rfl rfl ?_
    -- R19.9 116 := law.go:404 fieldAddr
    refine QL.no rfl rfl ?_
    -- R19.10 117 := law.go:404 indexAddr
    refine QL.no rfl rfl ?_
    -- R19.11 118 := law.go:404 load
    refine QL.no rfl rfl ?_
    -- R19.12 119 := law.go:404 fieldAddr
    refine QL.no rfl rfl ?_
    -- R19.13 120 := law.go:404 load
    refine QL.no rfl rfl ?_
    -- R19.14 121 := law.go:404 move
    refine QL.no rfl rfl ?_
    -- R19.15 122 := law.go:404 nilCheck
    refine QL.no rfl rfl ?_
    -- R19.16 123 := law.go:404 fieldAddr
    refine QL.no rfl rfl ?_
    -- R19.17 124 := law.go:404 indexAddr
    refine QL.no rfl rfl ?_
    -- R19.18 125 := law.go:404 load
    refine QL.no rfl rfl ?_
    -- R19.19 126 := law.go:404 binOp
    refine QL.no rfl rfl ?_
    -- R19.20 127 := law.go:404 pick
    refine QL.v (fun w st => by first | exact r_pickT (v := .bool _) rfl rfl | exact r_pickF (v := .bool _) rfl rfl) rfl rfl rfl ?_
    refine QL.wl hKq fun w st => ?_
    refine WL.fin hK2111 (fun _ _ h => h) ?_
    refine WC.condF rfl rfl ?_
    refine WC.skipF hK2110 (fun _ _ h => h) ?_
    refine WC.seq fun K2112 hK2112 => ?_
    -- region 21
    refine WC.region ?_
    -- R21.0 128 := law.go:407 move
    refine WL.v (by first | exact r_move (v := .int _ _) rfl | exact r_move rfl) rfl rfl rfl ?_
    refine WL.fin hK2112 (fun _ _ h => h) ?_
    refine WC.block ?_
    refine WC.loop (ι := Nat) (fun r => [(1, .pointer (some ⟨b1, 0, none⟩)), (3, .int .u16 (toldP ans 3 : Nat)), (4, .int .u16 (gm : Nat)), (7, .int .i64 (i : Nat)), (128, .int .i64 (r : Nat))])
      (fun r w' => r ≤ 20 ∧ S0 w0 ((b1, Row 36 10 fs) :: l) w') (fun r => 20 - r) 0 ⟨Nat.zero_le _, st.drop.drop⟩ ?_ ?_
    · skip
      repeat (first | exact sub_nil _ | refine sub_cons rfl rfl ?_)
    clear st
    rintro r w ⟨hr, st⟩ K3 hK3
    by_cases h20 : r = 20
    · skip
      refine WC.seq fun K2113 hK2113 => ?_
      -- region 22
      refine WC.region ?_
      -- R22.0 129 := law.go:407 binOp
      refine WL.v (by first | exact r_lss rfl rfl (decide_eq_true (by omega)) | exact r_lss rfl rfl (decide_eq_false (by omega)) | exact r_lss rfl rfl rfl) rfl rfl rfl ?_
      refine WL.fin hK2113 (fun _ _ h => h) ?_
      refine WC.seq fun K2114 hK2114 => ?_
      refine WC.condF rfl rfl ?_
      refine WC.exitF hK2081 (fun _ _ h => h) ?_
      -- region 10
      refine WC.region ?_
      -- R10.0 35 := law.go:390 move
      refine WL.v (by first | exact r_move (v := .int _ _) rfl | exact r_move rfl) rfl rfl rfl ?_
      -- R10.1 36 := law.go:390 binOp
      refine WL.v (by first | exact r_add rfl rfl (wi64 (by omega) (by omega)) | exact r_add rfl rfl rfl) rfl rfl rfl ?_
      -- R10.2 7 := law.go:390 assign
      refine WL.v (by first | exact r_assign (v := .int _ _) rfl | exact r_assign rfl) rfl rfl rfl ?_
      refine WL.next hK2 (fun _ _ h => h) (i + 1) ⟨hi', st⟩ (by omega) (by repeat (first | exact sub_nil _ | refine sub_cons rfl rfl ?_))
    have hr' : r < 20 := by omega
    have n4r := n4 r
    refine WC.seq fun K2115 hK2115 => ?_
    -- region 22
    refine WC.region ?_
    -- R22.0 129 := law.go:407 binOp
    refine WL.v (by first | exact r_lss rfl rfl (decide_eq_true (by omega)) | exact r_lss rfl rfl (decide_eq_false (by omega)) | exact r_lss rfl rfl rfl) rfl rfl rfl ?_
    refine WL.fin hK2115 (fun _ _ h => h) ?_
    refine WC.seq fun K2116 hK2116 => ?_
    refine WC.condT rfl rfl ?_
    refine WC.skipF hK2116 (fun _ _ h => h) ?_
    refine WC.seq fun K2117 hK2117 => ?_
    refine WC.block ?_
    refine WC.seq fun K2118 hK2118 => ?_
    -- region 23
    refine WC.region ?_
    -- R23.0 130 := law.go:407 move
    refine WL.v (by first | exact r_move (v := .int _ _) rfl | exact r_move rfl) rfl rfl rfl ?_
    -- R23.1 10 := law.go:407 assign
    refine WL.v (by first | exact r_assign (v := .int _ _) rfl | exact r_assign rfl) rfl rfl rfl ?_
    refine WL.fin hK2118 (fun _ _ h => h) ?_
    refine WC.seq fun K2119 hK2119 => ?_
    -- region 24 (draws)
    refine WC.quietS st ty_mixed (by kernel_rfl) fun Kq hKq => ?_
    -- R24.0 131 := law.go:408 fieldAddr
    refine QL.v (fun w st => by exact r_field ty_fld36_2 rfl) rfl rfl rfl ?_
    -- R24.1 132 := law.go:408 load
    refine QL.v (fun w st => by exact r_load1 (v := .pointer (some ⟨bA, 0, none⟩)) ty_one29 rfl (by rw [← f6]; exact st.c0 (by decide))) rfl rfl rfl ?_
    -- R24.2 133 := law.go:408 move
    refine QL.v (fun w st => by first | exact r_move (v := .int _ _) rfl | exact r_move rfl) rfl rfl rfl ?_
    -- R24.3 134 := law.go:408 move
    refine QL.v (fun w st => by first | exact r_move (v := .int _ _) rfl | exact r_move rfl) rfl rfl rfl ?_
    -- R24.4 135 := law.go:408 nilCheck
    refine QL.v (fun w st => by exact r_nilCheck rfl) rfl rfl rfl ?_
    -- R24.5 136 := law.go:408 fieldAddr
    refine QL.v (fun w st => by exact r_field ty_fld50_4 rfl) rfl rfl rfl ?_
    -- R24.6 137 := law.go:408 indexAddr
    refine QL.v (fun w st => by exact r_indexA (j := i) ty_ar45 rfl rfl rfl hi') rfl rfl rfl ?_
    -- R24.7 138 := law.go:408 indexAddr
    refine QL.v (fun w st => by exact r_indexA (j := r) ty_ar44 rfl rfl rfl hr') rfl rfl rfl ?_
    -- R24.8 139 := law.go:408 load
    refine QL.v (fun w st => by exact r_load1 (v := .int .i64 (s'.held i r : Nat)) ty_one3 rfl (c_sH hck1.A hi' hr' (by omega) st)) rfl rfl rfl ?_
    -- R24.9 140 := law.go:408 fieldAddr
    refine QL.v (fun w st => by exact r_field ty_fld36_1 rfl) rfl rfl rfl ?_
    -- R24.10 141 := law.go:408 load
    refine QL.v (fun w st => by exact r_load1 (v := .pointer (some ⟨bB, 0, none⟩)) ty_one29 rfl (by rw [← f5]; exact st.c0 (by decide))) rfl rfl rfl ?_
    -- R24.11 142 := law.go:408 move
    refine QL.v (fun w st => by first | exact r_move (v := .int _ _) rfl | exact r_move rfl) rfl rfl rfl ?_
    -- R24.12 143 := law.go:408 move
    refine QL.v (fun w st => by first | exact r_move (v := .int _ _) rfl | exact r_move rfl) rfl rfl rfl ?_
    -- R24.13 144 := law.go:408 nilCheck
    refine QL.v (fun w st => by exact r_nilCheck rfl) rfl rfl rfl ?_
    -- R24.14 145 := law.go:408 fieldAddr
    refine QL.v (fun w st => by exact r_field ty_fld50_4 rfl) rfl rfl rfl ?_
    -- R24.15 146 := law.go:408 indexAddr
    refine QL.v (fun w st => by exact r_indexA (j := i) ty_ar45 rfl rfl rfl hi') rfl rfl rfl ?_
    -- R24.16 147 := law.go:408 indexAddr
    refine QL.v (fun w st => by exact r_indexA (j := r) ty_ar44 rfl rfl rfl hr') rfl rfl rfl ?_
    -- R24.17 148 := law.go:408 load
    refine QL.v (fun w st => by exact r_load1 (v := .int .i64 (s.held i r : Nat)) ty_one3 rfl (c_sH hck1.B hi' hr' (by omega) st)) rfl rfl rfl ?_
    -- R24.18 149 := law.go:408 binOp
    refine QL.v (fun w st => by first | exact r_lss rfl rfl (decide_eq_true (by omega)) | exact r_lss rfl rfl (decide_eq_false (by omega)) | exact r_lss rfl rfl rfl) rfl rfl rfl ?_
    refine QL.wl hKq fun w st => ?_
    refine WL.fin hK2119 (fun _ _ h => h) ?_
    refine WC.condF rfl rfl ?_
    refine WC.skipF hK2117 (fun _ _ h => h) ?_
    -- region 26
    refine WC.region ?_
    -- R26.0 150 := law.go:407 binOp
    refine WL.v (by first | exact r_add rfl rfl (wi64 (by omega) (by omega)) | exact r_add rfl rfl rfl) rfl rfl rfl ?_
    -- R26.1 128 := law.go:407 move
    refine WL.v (by first | exact r_move (v := .int _ _) rfl | exact r_move rfl) rfl rfl rfl ?_
    refine WL.next hK3 (fun _ _ h => h) (r + 1) ⟨hr', st⟩ (by omega) (by repeat (first | exact sub_nil _ | refine sub_cons rfl rfl ?_))
theorem rollback_ok (a : Option Addr) (sb so n c : Nat) (op : Nat → Kern.Op) (hD : gD w) (hS : Scr w sb so n op) (hn63 : n ≤ 140737488355328) (ha : 0 < n → a = some ⟨sb, so, none⟩) :
    Calls Tryz.prog 16 #[.slice a n c] w (Ret fun v w' => v = .bool true ∧ S0 w [] w') := by
  have st : S0 w [] w := St.init w _
  by_cases hn : n ≤ 65536
  · have hC : CheckOK w 59 #[] op n fun _ LI => LI = [] := by
      refine check_pure fun i hi bB bA qv qv' ov l w' hck st' => ?_
      have hK := run_KI op i
      have hI := run_INV op i
      have hpn := (pend_step (o := op i) hK.b hI hK.told).1
      have h16 : ∀ a, a ∈ (stepP (runP op i) (op i)).1.told → a.1 < 16 := fun a ha => by
        obtain ⟨k, hk⟩ := List.getElem?_of_mem ha
        exact (PA_at hpn k a hk).1
      refine rollback1_ok (s := runP op i) (s' := runP op (i + 1)) h16 (fun hb => ?_) hck st'
      have hex : ∃ t, abB (stepP (runP op i) (op i)).1 t = true := by
        refine Classical.byContradiction fun k => hb (Nat.eq_of_testBit_eq fun j => ?_)
        rw [Nat.zero_testBit]
        cases hj : (toldP (stepP (runP op i) (op i)).1.told 3).testBit j with
        | false => rfl
        | true => exact absurd ⟨j, hj⟩ k
      have h := rb_step (o := op i) hK.b hI hK.told hex
      refine ⟨h.cl, fun t ht hbt => (h.ab t ht hbt).2, fun t ht hbt => ?_⟩
      obtain ⟨q1, q2, q3, q4, q5⟩ := h.nt t ht hbt
      refine ⟨q1, q2, q3, q4, fun hg => q5 fun k => ?_⟩
      unfold okM at hg
      rcases k with k | ⟨k1, k2, k3⟩
      · have k : (toldP (stepP (runP op i) (op i)).1.told 0).testBit t = true := k
        split at hg
        · rw [Nat.testBit_or, k] at hg; cases hg
        · rw [k] at hg; cases hg
      · rw [if_pos ⟨k1, k2⟩, Nat.testBit_or, Nat.testBit_two_pow, k3] at hg
        simp at hg
    refine enter [.slice a n c] Tryz.func16 rfl Tryz.ntmps16 rfl ?_
    show WC _ _ _ 8 [] [(0, .slice a n c)] _
    refine WC.seq fun K2120 hK2120 => ?_
    -- region 0
    refine WC.region ?_
    -- R0.0 2 := law.go:376 assign
    refine WL.v (by first | exact r_assign (v := .bool _) rfl | exact r_assign rfl) rfl rfl rfl ?_
    refine WL.fin hK2120 (fun _ _ h => h) ?_
    refine WC.seq fun K2121 hK2121 => ?_
    refine WC.seq fun K2122 hK2122 => ?_
    -- region 1
    refine WC.region ?_
    -- R1.0 3 := law.go:377 move
    refine WL.v (by first | exact r_move (v := .slice _ _ _) rfl | exact r_move rfl) rfl rfl rfl ?_
    -- R1.1 4 := law.go:377 call
    refine WL.call (r_call ty_call23 rfl) rfl rfl rfl (zzSmall1_ok a n c st) ?_
    rintro _ w' ⟨he, st⟩
    rw [decide_eq_true hn] at he
    subst he
    -- R1.2 5 := law.go:377 unOp
    refine WL.v (by first | exact r_notT rfl | exact r_notF rfl | exact r_not rfl) rfl rfl rfl ?_
    refine WL.fin hK2122 (fun _ _ h => h) ?_
    refine WC.condF rfl rfl ?_
    refine WC.skipF hK2121 (fun _ _ h => h) ?_
    refine WC.seq fun K2123 hK2123 => ?_
    -- region 3
    refine WC.region ?_
    -- R3.0 6 := law.go:381 move
    refine WL.v (by first | exact r_move (v := .slice _ _ _) rfl | exact r_move rfl) rfl rfl rfl ?_
    -- R3.1 7 := law.go:381 call
    refine WL.call (r_call ty_call24 rfl) rfl rfl rfl (play_ok (LI := []) (l := []) ty_call59 hD hS hn ha hC rfl st) ?_
    rintro _ w'' ⟨rfl, LI', rfl, st⟩
    -- R3.2 2 := law.go:381 assign
    refine WL.v (by first | exact r_assign (v := .bool _) rfl | exact r_assign rfl) rfl rfl rfl ?_
    refine WL.fin hK2123 (fun _ _ h => h) ?_
    refine WC.ret1 Tryz.results16 (fun _ _ h => h) rfl ?_
    exact ⟨_, rfl, rfl, st⟩
  · skip
    refine enter [.slice a n c] Tryz.func16 rfl Tryz.ntmps16 rfl ?_
    show WC _ _ _ 8 [] [(0, .slice a n c)] _
    refine WC.seq fun K2124 hK2124 => ?_
    -- region 0
    refine WC.region ?_
    -- R0.0 2 := law.go:376 assign
    refine WL.v (by first | exact r_assign (v := .bool _) rfl | exact r_assign rfl) rfl rfl rfl ?_
    refine WL.fin hK2124 (fun _ _ h => h) ?_
    refine WC.seq fun K2125 hK2125 => ?_
    refine WC.seq fun K2126 hK2126 => ?_
    -- region 1
    refine WC.region ?_
    -- R1.0 3 := law.go:377 move
    refine WL.v (by first | exact r_move (v := .slice _ _ _) rfl | exact r_move rfl) rfl rfl rfl ?_
    -- R1.1 4 := law.go:377 call
    refine WL.call (r_call ty_call23 rfl) rfl rfl rfl (zzSmall1_ok a n c st) ?_
    rintro _ w' ⟨he, st⟩
    rw [decide_eq_false hn] at he
    subst he
    -- R1.2 5 := law.go:377 unOp
    refine WL.v (by first | exact r_notT rfl | exact r_notF rfl | exact r_not rfl) rfl rfl rfl ?_
    refine WL.fin hK2126 (fun _ _ h => h) ?_
    refine WC.condT rfl rfl ?_
    refine WC.seq fun K2127 hK2127 => ?_
    -- region 2
    refine WC.region ?_
    -- R2.0 2 := law.go:378 assign
    refine WL.v (by first | exact r_assign (v := .bool _) rfl | exact r_assign rfl) rfl rfl rfl ?_
    refine WL.fin hK2127 (fun _ _ h => h) ?_
    refine WC.ret1 Tryz.results16 (fun _ _ h => h) rfl ?_
    exact ⟨_, rfl, rfl, st⟩
end Go.Proofs.Qxb6500834aGreatDoor

