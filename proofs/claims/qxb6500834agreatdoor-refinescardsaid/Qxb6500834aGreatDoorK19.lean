import Derived.Test.Qxb6500834aGreatDoorK18
set_option linter.unusedVariables false
set_option linter.unusedSimpArgs false
set_option maxRecDepth 20000
namespace Go.Kern
open Go Go.RowKit Go.E1
structure KA where
  bk : Nat
  bm : Nat
  br : Nat
  bp : Nat
end Go.Kern
namespace Go.Proofs.Qxb6500834aGreatDoor
open Go.RowKit Go.E1 Go.Kern
variable {w0 : World} {L L' l I J K K' X Y : List HI} {w : World} {s : KS} {B : KA} {t r : Nat}

/-! The kernel whole. -/
def KH (w0 : World) (B : KA) (s : KS) (l : List HI) (w : World) : Prop :=
  ∃ qv XQ tv XT ov XO, (∀ r, r < 20 → QL0 (qv r) (s.queue r) (XQ r)) ∧ TL0 tv s.timers XT ∧ OL0 ov s.told XO ∧
    S0 w0 (kR B.bk B.bm B.br B.bp s.tk s.cells s.births ov :: mI B.bm s.now s.armed tv :: rI B.br s.held qv :: pI B.bp s.mode s.claim :: (XT ++ (XO ++ (gather 20 XQ ++ l)))) w
structure KV (w0 : World) (B : KA) (s : KS) (l Y : List HI) (qv : Nat → Value) (XQ : Nat → List HI) (tv ov : Value) : Prop where
  k : kR B.bk B.bm B.br B.bp s.tk s.cells s.births ov ∈ Y
  m : mI B.bm s.now s.armed tv ∈ Y
  r : rI B.br s.held qv ∈ Y
  p : pI B.bp s.mode s.claim ∈ Y
  q : ∀ r, r < 20 → QL0 (qv r) (s.queue r) (XQ r)
  qs : ∀ r, r < 20 → XQ r ⊆ Y
  ls : l ⊆ Y
  back : ∀ {I : List HI} {w' : World}, S0 w0 (I ++ Y) w' → KH w0 B s (I ++ l) w'
theorem gather_sub {n r : Nat} {f : Nat → List HI} (h : r < n) : f r ⊆ gather n f := fun x hx => List.mem_flatMap.2 ⟨r, List.mem_range.2 h, hx⟩
theorem KH.view (h : KH w0 B s l w) : ∃ Y qv XQ tv ov, KV w0 B s l Y qv XQ tv ov ∧ S0 w0 Y w := by
  obtain ⟨qv, XQ, tv, XT, ov, XO, hq, ht, ho, st⟩ := h
  refine ⟨_, qv, XQ, tv, ov, ⟨by simp, by simp, by simp, by simp, hq, fun r hr x hx => ?_, fun x hx => ?_, fun {I w'} st' => ⟨qv, XQ, tv, XT, ov, XO, hq, ht, ho, st'.perm (by classical exact List.perm_iff_count.2 fun x => by simp only [List.count_append, List.count_cons, List.count_nil, List.append_eq, List.cons_append, List.nil_append, List.append_assoc, Nat.add_zero, Nat.zero_add] <;> ac_rfl)⟩⟩, st⟩
  · have := gather_sub hr hx
    simp only [List.mem_cons, List.mem_append]
    exact .inr (.inr (.inr (.inr (.inr (.inr (.inl this))))))
  · simp only [List.mem_cons, List.mem_append]
    exact .inr (.inr (.inr (.inr (.inr (.inr (.inr hx))))))
theorem KV.same {qv : Nat → Value} {XQ : Nat → List HI} {tv ov : Value} (V : KV w0 B s l Y qv XQ tv ov) (st : S0 w0 Y w) : KH w0 B s l w := V.back (I := []) st
theorem KH.tab (h : KH w0 B s l w) : ∃ Y, TH w0 B.br s.held s.queue Y w ∧ ∀ {held' : Nat → Nat → Nat} {queue' : Nat → List (Nat × Nat)} {w' : World}, TH w0 B.br held' queue' Y w' → KH w0 B { s with held := held', queue := queue' } l w' := by
  obtain ⟨qv, XQ, tv, XT, ov, XO, hq, ht, ho, st⟩ := h
  refine ⟨kR B.bk B.bm B.br B.bp s.tk s.cells s.births ov :: mI B.bm s.now s.armed tv :: pI B.bp s.mode s.claim :: (XT ++ (XO ++ l)), ⟨qv, XQ, hq, st.perm (by classical exact List.perm_iff_count.2 fun x => by simp only [List.count_append, List.count_cons, List.count_nil, List.append_eq, List.cons_append, List.nil_append, List.append_assoc, Nat.add_zero, Nat.zero_add] <;> ac_rfl)⟩, fun {held' queue' w'} h => ?_⟩
  obtain ⟨qv', XQ', hq', st'⟩ := h
  exact ⟨qv', XQ', tv, XT, ov, XO, hq', ht, ho, st'.perm (by classical exact List.perm_iff_count.2 fun x => by simp only [List.count_append, List.count_cons, List.count_nil, List.append_eq, List.cons_append, List.nil_append, List.append_assoc, Nat.add_zero, Nat.zero_add] <;> ac_rfl)⟩
theorem KH.mach (h : KH w0 B s l w) : ∃ Y, MH w0 B.bm s.now s.armed s.timers Y w ∧ ∀ {now' armed' : Nat} {timers' : List (Nat × Nat × Nat)} {I : List HI} {w' : World}, MH w0 B.bm now' armed' timers' (I ++ Y) w' → KH w0 B { s with now := now', armed := armed', timers := timers' } (I ++ l) w' := by
  obtain ⟨qv, XQ, tv, XT, ov, XO, hq, ht, ho, st⟩ := h
  refine ⟨kR B.bk B.bm B.br B.bp s.tk s.cells s.births ov :: rI B.br s.held qv :: pI B.bp s.mode s.claim :: (XO ++ (gather 20 XQ ++ l)), ⟨tv, XT, ht, st.perm (by classical exact List.perm_iff_count.2 fun x => by simp only [List.count_append, List.count_cons, List.count_nil, List.append_eq, List.cons_append, List.nil_append, List.append_assoc, Nat.add_zero, Nat.zero_add] <;> ac_rfl)⟩, fun {now' armed' timers' I w'} h => ?_⟩
  obtain ⟨tv', XT', ht', st'⟩ := h
  exact ⟨qv, XQ, tv', XT', ov, XO, hq, ht', ho, st'.perm (by classical exact List.perm_iff_count.2 fun x => by simp only [List.count_append, List.count_cons, List.count_nil, List.append_eq, List.cons_append, List.nil_append, List.append_assoc, Nat.add_zero, Nat.zero_add] <;> ac_rfl)⟩
theorem KH.pol (h : KH w0 B s l w) : ∃ Y, S0 w0 (pI B.bp s.mode s.claim :: Y) w ∧ ∀ {mode' : Nat} {claim' : Nat → Nat → Nat} {w' : World}, S0 w0 (pI B.bp mode' claim' :: Y) w' → KH w0 B { s with mode := mode', claim := claim' } l w' := by
  obtain ⟨qv, XQ, tv, XT, ov, XO, hq, ht, ho, st⟩ := h
  exact ⟨kR B.bk B.bm B.br B.bp s.tk s.cells s.births ov :: mI B.bm s.now s.armed tv :: rI B.br s.held qv :: (XT ++ (XO ++ (gather 20 XQ ++ l))), st.perm (by classical exact List.perm_iff_count.2 fun x => by simp only [List.count_append, List.count_cons, List.count_nil, List.append_eq, List.cons_append, List.nil_append, List.append_assoc, Nat.add_zero, Nat.zero_add] <;> ac_rfl), fun {mode' claim' w'} st' => ⟨qv, XQ, tv, XT, ov, XO, hq, ht, ho, st'.perm (by classical exact List.perm_iff_count.2 fun x => by simp only [List.count_append, List.count_cons, List.count_nil, List.append_eq, List.cons_append, List.nil_append, List.append_assoc, Nat.add_zero, Nat.zero_add] <;> ac_rfl)⟩⟩
theorem KH.ker (h : KH w0 B s l w) : ∃ ov Y, S0 w0 (kR B.bk B.bm B.br B.bp s.tk s.cells s.births ov :: Y) w ∧ ∀ {tk' : Nat → TK} {cells' : Nat → Nat} {births' : Nat} {w' : World}, S0 w0 (kR B.bk B.bm B.br B.bp tk' cells' births' ov :: Y) w' → KH w0 B { s with tk := tk', cells := cells', births := births' } l w' := by
  obtain ⟨qv, XQ, tv, XT, ov, XO, hq, ht, ho, st⟩ := h
  exact ⟨ov, _, st, fun {tk' cells' births' w'} st' => ⟨qv, XQ, tv, XT, ov, XO, hq, ht, ho, st'⟩⟩
theorem KH.told (h : KH w0 B s l w) : ∃ ov XO Y, OL0 ov s.told XO ∧ S0 w0 (XO ++ (kR B.bk B.bm B.br B.bp s.tk s.cells s.births ov :: (Y ++ l))) w ∧ ∀ {ov' : Value} {XO' I : List HI} {told' : List (Nat × Nat × Nat)} {w' : World}, OL0 ov' told' XO' → S0 w0 (XO' ++ (kR B.bk B.bm B.br B.bp s.tk s.cells s.births ov' :: (Y ++ I))) w' → KH w0 B { s with told := told' } I w' := by
  obtain ⟨qv, XQ, tv, XT, ov, XO, hq, ht, ho, st⟩ := h
  exact ⟨ov, XO, mI B.bm s.now s.armed tv :: rI B.br s.held qv :: pI B.bp s.mode s.claim :: (XT ++ gather 20 XQ), ho, st.perm (by classical exact List.perm_iff_count.2 fun x => by simp only [List.count_append, List.count_cons, List.count_nil, List.append_eq, List.cons_append, List.nil_append, List.append_assoc, Nat.add_zero, Nat.zero_add] <;> ac_rfl), fun {ov' XO' I told' w'} ho' st' => ⟨qv, XQ, tv, XT, ov', XO', hq, ht, ho', st'.perm (by classical exact List.perm_iff_count.2 fun x => by simp only [List.count_append, List.count_cons, List.count_nil, List.append_eq, List.cons_append, List.nil_append, List.append_assoc, Nat.add_zero, Nat.zero_add] <;> ac_rfl)⟩⟩
theorem KH.perm {l' : List HI} (h : KH w0 B s l w) (p : l.Perm l') : KH w0 B s l' w := by
  obtain ⟨qv, XQ, tv, XT, ov, XO, hq, ht, ho, st⟩ := h
  exact ⟨qv, XQ, tv, XT, ov, XO, hq, ht, ho, st.perm (((((p.append_left _).append_left _).append_left _).cons _ |>.cons _ |>.cons _ |>.cons _))⟩
theorem KH.sub {l' : List HI} (h : KH w0 B s l w) (p : l'.Sublist l) : KH w0 B s l' w := by
  obtain ⟨qv, XQ, tv, XT, ov, XO, hq, ht, ho, st⟩ := h
  exact ⟨qv, XQ, tv, XT, ov, XO, hq, ht, ho, st.sublist (((((p.append_left _).append_left _).append_left _).cons_cons _ |>.cons_cons _ |>.cons_cons _ |>.cons_cons _))⟩
theorem KH.drop {it : HI} (h : KH w0 B s (it :: l) w) : KH w0 B s l w := h.sub (List.sublist_cons_self _ _)
theorem KH.dropL (h : KH w0 B s (I ++ l) w) : KH w0 B s l w := h.sub (List.sublist_append_right _ _)
theorem KH.heldE {held' : Nat → Nat → Nat} (h : KH w0 B s l w) (e : ∀ t r, t < 16 → r < 20 → s.held t r = held' t r) : KH w0 B { s with held := held' } l w := by
  obtain ⟨qv, XQ, tv, XT, ov, XO, hq, ht, ho, st⟩ := h
  refine ⟨qv, XQ, tv, XT, ov, XO, hq, ht, ho, ?_⟩
  have : (rI B.br s.held qv) = rI B.br held' qv := by
    show (_, _) = (_, _)
    rw [rowE (g := rF held' qv) fun k hk => ?_]
    unfold rF
    split
    · rw [e _ _ (by omega) (by omega)]
    · rfl
  rw [← this]; exact st
section
variable {qv : Nat → Value} {XQ : Nat → List HI} {tv ov : Value}
theorem KV.cm (V : KV w0 B s l Y qv XQ tv ov) (st : S0 w0 Y w) : w.cell? ⟨B.bk, 0 + 0, none⟩ = some (.pointer (some ⟨B.bm, 0, none⟩)) := st.cell V.k (by decide)
theorem KV.cr (V : KV w0 B s l Y qv XQ tv ov) (st : S0 w0 Y w) : w.cell? ⟨B.bk, 0 + 1, none⟩ = some (.pointer (some ⟨B.br, 0, none⟩)) := st.cell V.k (by decide)
theorem KV.cp (V : KV w0 B s l Y qv XQ tv ov) (st : S0 w0 Y w) : w.cell? ⟨B.bk, 0 + 2, none⟩ = some (.pointer (some ⟨B.bp, 0, none⟩)) := st.cell V.k (by decide)
theorem KV.ct (V : KV w0 B s l Y qv XQ tv ov) (ht : t < 16) {a j : Nat} (hj : j < 135) (ha : a = 3 + t * 135 + j) (st : S0 w0 Y w) : w.cell? ⟨B.bk, a, none⟩ = some (tkF (s.tk t) j) := c_tk V.k ht hj ha st
theorem KV.cmode (V : KV w0 B s l Y qv XQ tv ov) (st : S0 w0 Y w) : w.cell? ⟨B.bp, 0 + 0, none⟩ = some (.int .i64 (s.mode : Nat)) := c_mode st V.p
end

def callerP (s : KS) (t : Int) : Int := if t < 0 ∨ 16 ≤ t then 10 else if (s.tk t.toNat).live = false then 11 else if (s.tk t.toNat).waiting then 12 else 0
theorem caller_ok {t : Int} (st : KH w0 B s l w) :
    Calls Tryz.prog 100 #[.pointer (some ⟨B.bk, 0, none⟩), .int .i64 t] w (Ret fun v w' => v = .int .i64 (callerP s t) ∧ KH w0 B s l w') := by
  obtain ⟨Y, qv, XQ, tv, ov, V, st⟩ := st.view
  by_cases h1 : t < 0
  · skip
    refine enter [.pointer (some ⟨B.bk, 0, none⟩), .int .i64 t] Tryz.func100 rfl Tryz.ntmps100 rfl ?_
    show WC _ _ _ 29 [] [(0, .pointer (some ⟨B.bk, 0, none⟩)), (1, .int .i64 t)] _
    refine WC.seq fun K561 hK561 => ?_
    -- region 0
    refine WC.region ?_
    -- R0.0 4 := kernel.go:59 assign
    refine WL.v (by first | exact r_assign (v := .int _ _) rfl | exact r_assign rfl) rfl rfl rfl ?_
    refine WL.fin hK561 (fun _ _ h => h) ?_
    refine WC.seq fun K562 hK562 => ?_
    refine WC.block ?_
    refine WC.seq fun K563 hK563 => ?_
    -- region 1
    refine WC.region ?_
    -- R1.0 6 := kernel.go:61 move
    refine WL.v (by first | exact r_move (v := .int _ _) rfl | exact r_move rfl) rfl rfl rfl ?_
    -- R1.1 7 := kernel.go:61 binOp
    refine WL.v (by first | exact r_lss rfl rfl (decide_eq_true (by omega)) | exact r_lss rfl rfl (decide_eq_false (by omega)) | exact r_lss rfl rfl rfl) rfl rfl rfl ?_
    -- R1.2 8 := kernel.go:61 move
    refine WL.v (by first | exact r_move (v := .bool _) rfl | exact r_move rfl) rfl rfl rfl ?_
    -- R1.3 9 := kernel.go:61 move
    refine WL.no rfl rfl ?_
    -- R1.4 10 := kernel.go:61 binOp
    refine WL.no rfl rfl ?_
    -- R1.5 11 := kernel.go:61 pick
    refine WL.v (by first | exact r_pickT (v := .bool _) rfl rfl | exact r_pickF (v := .bool _) rfl rfl) rfl rfl rfl ?_
    -- R1.6 5 := kernel.go:61 assign
    refine WL.v (by first | exact r_assign (v := .bool _) rfl | exact r_assign rfl) rfl rfl rfl ?_
    refine WL.fin hK563 (fun _ _ h => h) ?_
    refine WC.condT rfl rfl ?_
    refine WC.seq fun K564 hK564 => ?_
    -- region 2
    refine WC.region ?_
    -- R2.0 4 := kernel.go:62 assign
    refine WL.v (by first | exact r_assign (v := .int _ _) rfl | exact r_assign rfl) rfl rfl rfl ?_
    refine WL.fin hK564 (fun _ _ h => h) ?_
    refine WC.ret1 Tryz.results100 (fun _ _ h => h) rfl ?_
    exact ⟨_, rfl, congrArg (Value.int .i64) (show (10 : Int) = callerP s t by unfold callerP; rw [if_pos (.inl h1)]), V.same st⟩
  by_cases h2 : 16 ≤ t
  · skip
    refine enter [.pointer (some ⟨B.bk, 0, none⟩), .int .i64 t] Tryz.func100 rfl Tryz.ntmps100 rfl ?_
    show WC _ _ _ 29 [] [(0, .pointer (some ⟨B.bk, 0, none⟩)), (1, .int .i64 t)] _
    refine WC.seq fun K565 hK565 => ?_
    -- region 0
    refine WC.region ?_
    -- R0.0 4 := kernel.go:59 assign
    refine WL.v (by first | exact r_assign (v := .int _ _) rfl | exact r_assign rfl) rfl rfl rfl ?_
    refine WL.fin hK565 (fun _ _ h => h) ?_
    refine WC.seq fun K566 hK566 => ?_
    refine WC.block ?_
    refine WC.seq fun K567 hK567 => ?_
    -- region 1
    refine WC.region ?_
    -- R1.0 6 := kernel.go:61 move
    refine WL.v (by first | exact r_move (v := .int _ _) rfl | exact r_move rfl) rfl rfl rfl ?_
    -- R1.1 7 := kernel.go:61 binOp
    refine WL.v (by first | exact r_lss rfl rfl (decide_eq_true (by omega)) | exact r_lss rfl rfl (decide_eq_false (by omega)) | exact r_lss rfl rfl rfl) rfl rfl rfl ?_
    -- R1.2 8 := kernel.go:61 move
    refine WL.v (by first | exact r_move (v := .bool _) rfl | exact r_move rfl) rfl rfl rfl ?_
    -- R1.3 9 := kernel.go:61 move
    refine WL.v (by first | exact r_move (v := .int _ _) rfl | exact r_move rfl) rfl rfl rfl ?_
    -- R1.4 10 := kernel.go:61 binOp
    refine WL.v (by first | exact r_geq rfl rfl (decide_eq_true (by omega)) | exact r_geq rfl rfl (decide_eq_false (by omega)) | exact r_geq rfl rfl rfl) rfl rfl rfl ?_
    -- R1.5 11 := kernel.go:61 pick
    refine WL.v (by first | exact r_pickT (v := .bool _) rfl rfl | exact r_pickF (v := .bool _) rfl rfl) rfl rfl rfl ?_
    -- R1.6 5 := kernel.go:61 assign
    refine WL.v (by first | exact r_assign (v := .bool _) rfl | exact r_assign rfl) rfl rfl rfl ?_
    refine WL.fin hK567 (fun _ _ h => h) ?_
    refine WC.condT rfl rfl ?_
    refine WC.seq fun K568 hK568 => ?_
    -- region 2
    refine WC.region ?_
    -- R2.0 4 := kernel.go:62 assign
    refine WL.v (by first | exact r_assign (v := .int _ _) rfl | exact r_assign rfl) rfl rfl rfl ?_
    refine WL.fin hK568 (fun _ _ h => h) ?_
    refine WC.ret1 Tryz.results100 (fun _ _ h => h) rfl ?_
    exact ⟨_, rfl, congrArg (Value.int .i64) (show (10 : Int) = callerP s t by unfold callerP; rw [if_pos (.inr h2)]), V.same st⟩
  obtain ⟨n, rfl⟩ : ∃ n : Nat, t = n := ⟨t.toNat, by omega⟩
  have hn : n < 16 := by omega
  have eC : callerP s n = if (s.tk n).live = false then 11 else if (s.tk n).waiting then 12 else 0 := by unfold callerP; rw [if_neg (by omega), Int.toNat_natCast]
  rcases Bool.eq_false_or_eq_true (s.tk n).live with hl | hl
  · skip
    rcases Bool.eq_false_or_eq_true (s.tk n).waiting with hw | hw
    · skip
      refine enter [.pointer (some ⟨B.bk, 0, none⟩), .int .i64 (n : Nat)] Tryz.func100 rfl Tryz.ntmps100 rfl ?_
      show WC _ _ _ 29 [] [(0, .pointer (some ⟨B.bk, 0, none⟩)), (1, .int .i64 (n : Nat))] _
      refine WC.seq fun K569 hK569 => ?_
      -- region 0
      refine WC.region ?_
      -- R0.0 4 := kernel.go:59 assign
      refine WL.v (by first | exact r_assign (v := .int _ _) rfl | exact r_assign rfl) rfl rfl rfl ?_
      refine WL.fin hK569 (fun _ _ h => h) ?_
      refine WC.seq fun K570 hK570 => ?_
      refine WC.block ?_
      refine WC.seq fun K571 hK571 => ?_
      -- region 1
      refine WC.region ?_
      -- R1.0 6 := kernel.go:61 move
      refine WL.v (by first | exact r_move (v := .int _ _) rfl | exact r_move rfl) rfl rfl rfl ?_
      -- R1.1 7 := kernel.go:61 binOp
      refine WL.v (by first | exact r_lss rfl rfl (decide_eq_true (by omega)) | exact r_lss rfl rfl (decide_eq_false (by omega)) | exact r_lss rfl rfl rfl) rfl rfl rfl ?_
      -- R1.2 8 := kernel.go:61 move
      refine WL.v (by first | exact r_move (v := .bool _) rfl | exact r_move rfl) rfl rfl rfl ?_
      -- R1.3 9 := kernel.go:61 move
      refine WL.v (by first | exact r_move (v := .int _ _) rfl | exact r_move rfl) rfl rfl rfl ?_
      -- R1.4 10 := kernel.go:61 binOp
      refine WL.v (by first | exact r_geq rfl rfl (decide_eq_true (by omega)) | exact r_geq rfl rfl (decide_eq_false (by omega)) | exact r_geq rfl rfl rfl) rfl rfl rfl ?_
      -- R1.5 11 := kernel.go:61 pick
      refine WL.v (by first | exact r_pickT (v := .bool _) rfl rfl | exact r_pickF (v := .bool _) rfl rfl) rfl rfl rfl ?_
      -- R1.6 5 := kernel.go:61 assign
      refine WL.v (by first | exact r_assign (v := .bool _) rfl | exact r_assign rfl) rfl rfl rfl ?_
      refine WL.fin hK571 (fun _ _ h => h) ?_
      refine WC.condF rfl rfl ?_
      refine WC.seq fun K572 hK572 => ?_
      -- region 3
      refine WC.region ?_
      -- R3.0 13 := kernel.go:63 move
      refine WL.v (by first | exact r_move (v := .pointer _) rfl | exact r_move rfl) rfl rfl rfl ?_
      -- R3.1 14 := kernel.go:63 move
      refine WL.v (by first | exact r_move (v := .int _ _) rfl | exact r_move rfl) rfl rfl rfl ?_
      -- R3.2 15 := kernel.go:63 nilCheck
      refine WL.v (by exact r_nilCheck rfl) rfl rfl rfl ?_
      -- R3.3 16 := kernel.go:63 fieldAddr
      refine WL.v (by exact r_field ty_fld120_3 rfl) rfl rfl rfl ?_
      -- R3.4 17 := kernel.go:63 indexAddr
      refine WL.v (by exact r_indexA (j := n) ty_ar118 rfl rfl rfl hn) rfl rfl rfl ?_
      -- R3.5 18 := kernel.go:63 fieldAddr
      refine WL.v (by exact r_field ty_fld117_0 rfl) rfl rfl rfl ?_
      -- R3.6 19 := kernel.go:63 load
      refine WL.v (by exact r_load1 (v := .bool true) ty_one4 rfl (by rw [V.ct hn (j := 0) (by decide) (by omega) st, ← hl]; rfl)) rfl rfl rfl ?_
      -- R3.7 20 := kernel.go:63 unOp
      refine WL.v (by first | exact r_notT rfl | exact r_notF rfl | exact r_not rfl) rfl rfl rfl ?_
      -- R3.8 12 := kernel.go:63 assign
      refine WL.v (by first | exact r_assign (v := .bool _) rfl | exact r_assign rfl) rfl rfl rfl ?_
      refine WL.fin hK572 (fun _ _ h => h) ?_
      refine WC.condF rfl rfl ?_
      refine WC.seq fun K573 hK573 => ?_
      -- region 5
      refine WC.region ?_
      -- R5.0 22 := kernel.go:65 move
      refine WL.v (by first | exact r_move (v := .pointer _) rfl | exact r_move rfl) rfl rfl rfl ?_
      -- R5.1 23 := kernel.go:65 move
      refine WL.v (by first | exact r_move (v := .int _ _) rfl | exact r_move rfl) rfl rfl rfl ?_
      -- R5.2 24 := kernel.go:65 nilCheck
      refine WL.v (by exact r_nilCheck rfl) rfl rfl rfl ?_
      -- R5.3 25 := kernel.go:65 fieldAddr
      refine WL.v (by exact r_field ty_fld120_3 rfl) rfl rfl rfl ?_
      -- R5.4 26 := kernel.go:65 indexAddr
      refine WL.v (by exact r_indexA (j := n) ty_ar118 rfl rfl rfl hn) rfl rfl rfl ?_
      -- R5.5 27 := kernel.go:65 fieldAddr
      refine WL.v (by exact r_field ty_fld117_3 rfl) rfl rfl rfl ?_
      -- R5.6 28 := kernel.go:65 load
      refine WL.v (by exact r_load1 (v := .bool true) ty_one4 rfl (by rw [V.ct hn (j := 3) (by decide) (by omega) st, ← hw]; rfl)) rfl rfl rfl ?_
      -- R5.7 21 := kernel.go:65 assign
      refine WL.v (by first | exact r_assign (v := .bool _) rfl | exact r_assign rfl) rfl rfl rfl ?_
      refine WL.fin hK573 (fun _ _ h => h) ?_
      refine WC.condT rfl rfl ?_
      refine WC.seq fun K574 hK574 => ?_
      -- region 6
      refine WC.region ?_
      -- R6.0 4 := kernel.go:66 assign
      refine WL.v (by first | exact r_assign (v := .int _ _) rfl | exact r_assign rfl) rfl rfl rfl ?_
      refine WL.fin hK574 (fun _ _ h => h) ?_
      refine WC.ret1 Tryz.results100 (fun _ _ h => h) rfl ?_
      exact ⟨_, rfl, congrArg (Value.int .i64) (show (12 : Int) = callerP s n by rw [eC, hl, hw]; rfl), V.same st⟩
    · skip
      refine enter [.pointer (some ⟨B.bk, 0, none⟩), .int .i64 (n : Nat)] Tryz.func100 rfl Tryz.ntmps100 rfl ?_
      show WC _ _ _ 29 [] [(0, .pointer (some ⟨B.bk, 0, none⟩)), (1, .int .i64 (n : Nat))] _
      refine WC.seq fun K575 hK575 => ?_
      -- region 0
      refine WC.region ?_
      -- R0.0 4 := kernel.go:59 assign
      refine WL.v (by first | exact r_assign (v := .int _ _) rfl | exact r_assign rfl) rfl rfl rfl ?_
      refine WL.fin hK575 (fun _ _ h => h) ?_
      refine WC.seq fun K576 hK576 => ?_
      refine WC.block ?_
      refine WC.seq fun K577 hK577 => ?_
      -- region 1
      refine WC.region ?_
      -- R1.0 6 := kernel.go:61 move
      refine WL.v (by first | exact r_move (v := .int _ _) rfl | exact r_move rfl) rfl rfl rfl ?_
      -- R1.1 7 := kernel.go:61 binOp
      refine WL.v (by first | exact r_lss rfl rfl (decide_eq_true (by omega)) | exact r_lss rfl rfl (decide_eq_false (by omega)) | exact r_lss rfl rfl rfl) rfl rfl rfl ?_
      -- R1.2 8 := kernel.go:61 move
      refine WL.v (by first | exact r_move (v := .bool _) rfl | exact r_move rfl) rfl rfl rfl ?_
      -- R1.3 9 := kernel.go:61 move
      refine WL.v (by first | exact r_move (v := .int _ _) rfl | exact r_move rfl) rfl rfl rfl ?_
      -- R1.4 10 := kernel.go:61 binOp
      refine WL.v (by first | exact r_geq rfl rfl (decide_eq_true (by omega)) | exact r_geq rfl rfl (decide_eq_false (by omega)) | exact r_geq rfl rfl rfl) rfl rfl rfl ?_
      -- R1.5 11 := kernel.go:61 pick
      refine WL.v (by first | exact r_pickT (v := .bool _) rfl rfl | exact r_pickF (v := .bool _) rfl rfl) rfl rfl rfl ?_
      -- R1.6 5 := kernel.go:61 assign
      refine WL.v (by first | exact r_assign (v := .bool _) rfl | exact r_assign rfl) rfl rfl rfl ?_
      refine WL.fin hK577 (fun _ _ h => h) ?_
      refine WC.condF rfl rfl ?_
      refine WC.seq fun K578 hK578 => ?_
      -- region 3
      refine WC.region ?_
      -- R3.0 13 := kernel.go:63 move
      refine WL.v (by first | exact r_move (v := .pointer _) rfl | exact r_move rfl) rfl rfl rfl ?_
      -- R3.1 14 := kernel.go:63 move
      refine WL.v (by first | exact r_move (v := .int _ _) rfl | exact r_move rfl) rfl rfl rfl ?_
      -- R3.2 15 := kernel.go:63 nilCheck
      refine WL.v (by exact r_nilCheck rfl) rfl rfl rfl ?_
      -- R3.3 16 := kernel.go:63 fieldAddr
      refine WL.v (by exact r_field ty_fld120_3 rfl) rfl rfl rfl ?_
      -- R3.4 17 := kernel.go:63 indexAddr
      refine WL.v (by exact r_indexA (j := n) ty_ar118 rfl rfl rfl hn) rfl rfl rfl ?_
      -- R3.5 18 := kernel.go:63 fieldAddr
      refine WL.v (by exact r_field ty_fld117_0 rfl) rfl rfl rfl ?_
      -- R3.6 19 := kernel.go:63 load
      refine WL.v (by exact r_load1 (v := .bool true) ty_one4 rfl (by rw [V.ct hn (j := 0) (by decide) (by omega) st, ← hl]; rfl)) rfl rfl rfl ?_
      -- R3.7 20 := kernel.go:63 unOp
      refine WL.v (by first | exact r_notT rfl | exact r_notF rfl | exact r_not rfl) rfl rfl rfl ?_
      -- R3.8 12 := kernel.go:63 assign
      refine WL.v (by first | exact r_assign (v := .bool _) rfl | exact r_assign rfl) rfl rfl rfl ?_
      refine WL.fin hK578 (fun _ _ h => h) ?_
      refine WC.condF rfl rfl ?_
      refine WC.seq fun K579 hK579 => ?_
      -- region 5
      refine WC.region ?_
      -- R5.0 22 := kernel.go:65 move
      refine WL.v (by first | exact r_move (v := .pointer _) rfl | exact r_move rfl) rfl rfl rfl ?_
      -- R5.1 23 := kernel.go:65 move
      refine WL.v (by first | exact r_move (v := .int _ _) rfl | exact r_move rfl) rfl rfl rfl ?_
      -- R5.2 24 := kernel.go:65 nilCheck
      refine WL.v (by exact r_nilCheck rfl) rfl rfl rfl ?_
      -- R5.3 25 := kernel.go:65 fieldAddr
      refine WL.v (by exact r_field ty_fld120_3 rfl) rfl rfl rfl ?_
      -- R5.4 26 := kernel.go:65 indexAddr
      refine WL.v (by exact r_indexA (j := n) ty_ar118 rfl rfl rfl hn) rfl rfl rfl ?_
      -- R5.5 27 := kernel.go:65 fieldAddr
      refine WL.v (by exact r_field ty_fld117_3 rfl) rfl rfl rfl ?_
      -- R5.6 28 := kernel.go:65 load
      refine WL.v (by exact r_load1 (v := .bool false) ty_one4 rfl (by rw [V.ct hn (j := 3) (by decide) (by omega) st, ← hw]; rfl)) rfl rfl rfl ?_
      -- R5.7 21 := kernel.go:65 assign
      refine WL.v (by first | exact r_assign (v := .bool _) rfl | exact r_assign rfl) rfl rfl rfl ?_
      refine WL.fin hK579 (fun _ _ h => h) ?_
      refine WC.condF rfl rfl ?_
      refine WC.skipF hK576 (fun _ _ h => h) ?_
      refine WC.seq fun K580 hK580 => ?_
      -- region 7
      refine WC.region ?_
      -- R7.0 4 := kernel.go:68 assign
      refine WL.v (by first | exact r_assign (v := .int _ _) rfl | exact r_assign rfl) rfl rfl rfl ?_
      refine WL.fin hK580 (fun _ _ h => h) ?_
      refine WC.ret1 Tryz.results100 (fun _ _ h => h) rfl ?_
      exact ⟨_, rfl, congrArg (Value.int .i64) (show (0 : Int) = callerP s n by rw [eC, hl, hw]; rfl), V.same st⟩
  · skip
    refine enter [.pointer (some ⟨B.bk, 0, none⟩), .int .i64 (n : Nat)] Tryz.func100 rfl Tryz.ntmps100 rfl ?_
    show WC _ _ _ 29 [] [(0, .pointer (some ⟨B.bk, 0, none⟩)), (1, .int .i64 (n : Nat))] _
    refine WC.seq fun K581 hK581 => ?_
    -- region 0
    refine WC.region ?_
    -- R0.0 4 := kernel.go:59 assign
    refine WL.v (by first | exact r_assign (v := .int _ _) rfl | exact r_assign rfl) rfl rfl rfl ?_
    refine WL.fin hK581 (fun _ _ h => h) ?_
    refine WC.seq fun K582 hK582 => ?_
    refine WC.block ?_
    refine WC.seq fun K583 hK583 => ?_
    -- region 1
    refine WC.region ?_
    -- R1.0 6 := kernel.go:61 move
    refine WL.v (by first | exact r_move (v := .int _ _) rfl | exact r_move rfl) rfl rfl rfl ?_
    -- R1.1 7 := kernel.go:61 binOp
    refine WL.v (by first | exact r_lss rfl rfl (decide_eq_true (by omega)) | exact r_lss rfl rfl (decide_eq_false (by omega)) | exact r_lss rfl rfl rfl) rfl rfl rfl ?_
    -- R1.2 8 := kernel.go:61 move
    refine WL.v (by first | exact r_move (v := .bool _) rfl | exact r_move rfl) rfl rfl rfl ?_
    -- R1.3 9 := kernel.go:61 move
    refine WL.v (by first | exact r_move (v := .int _ _) rfl | exact r_move rfl) rfl rfl rfl ?_
    -- R1.4 10 := kernel.go:61 binOp
    refine WL.v (by first | exact r_geq rfl rfl (decide_eq_true (by omega)) | exact r_geq rfl rfl (decide_eq_false (by omega)) | exact r_geq rfl rfl rfl) rfl rfl rfl ?_
    -- R1.5 11 := kernel.go:61 pick
    refine WL.v (by first | exact r_pickT (v := .bool _) rfl rfl | exact r_pickF (v := .bool _) rfl rfl) rfl rfl rfl ?_
    -- R1.6 5 := kernel.go:61 assign
    refine WL.v (by first | exact r_assign (v := .bool _) rfl | exact r_assign rfl) rfl rfl rfl ?_
    refine WL.fin hK583 (fun _ _ h => h) ?_
    refine WC.condF rfl rfl ?_
    refine WC.seq fun K584 hK584 => ?_
    -- region 3
    refine WC.region ?_
    -- R3.0 13 := kernel.go:63 move
    refine WL.v (by first | exact r_move (v := .pointer _) rfl | exact r_move rfl) rfl rfl rfl ?_
    -- R3.1 14 := kernel.go:63 move
    refine WL.v (by first | exact r_move (v := .int _ _) rfl | exact r_move rfl) rfl rfl rfl ?_
    -- R3.2 15 := kernel.go:63 nilCheck
    refine WL.v (by exact r_nilCheck rfl) rfl rfl rfl ?_
    -- R3.3 16 := kernel.go:63 fieldAddr
    refine WL.v (by exact r_field ty_fld120_3 rfl) rfl rfl rfl ?_
    -- R3.4 17 := kernel.go:63 indexAddr
    refine WL.v (by exact r_indexA (j := n) ty_ar118 rfl rfl rfl hn) rfl rfl rfl ?_
    -- R3.5 18 := kernel.go:63 fieldAddr
    refine WL.v (by exact r_field ty_fld117_0 rfl) rfl rfl rfl ?_
    -- R3.6 19 := kernel.go:63 load
    refine WL.v (by exact r_load1 (v := .bool false) ty_one4 rfl (by rw [V.ct hn (j := 0) (by decide) (by omega) st, ← hl]; rfl)) rfl rfl rfl ?_
    -- R3.7 20 := kernel.go:63 unOp
    refine WL.v (by first | exact r_notT rfl | exact r_notF rfl | exact r_not rfl) rfl rfl rfl ?_
    -- R3.8 12 := kernel.go:63 assign
    refine WL.v (by first | exact r_assign (v := .bool _) rfl | exact r_assign rfl) rfl rfl rfl ?_
    refine WL.fin hK584 (fun _ _ h => h) ?_
    refine WC.condT rfl rfl ?_
    refine WC.seq fun K585 hK585 => ?_
    -- region 4
    refine WC.region ?_
    -- R4.0 4 := kernel.go:64 assign
    refine WL.v (by first | exact r_assign (v := .int _ _) rfl | exact r_assign rfl) rfl rfl rfl ?_
    refine WL.fin hK585 (fun _ _ h => h) ?_
    refine WC.ret1 Tryz.results100 (fun _ _ h => h) rfl ?_
    exact ⟨_, rfl, congrArg (Value.int .i64) (show (11 : Int) = callerP s n by rw [eC, hl]; rfl), V.same st⟩

theorem done_ok {c : Int} (st : KH w0 B s l w) :
    Calls Tryz.prog 88 #[.pointer (some ⟨B.bk, 0, none⟩), .int .i64 c] w (Ret fun v w' => ∃ ov XO, OL0 ov s.told XO ∧ v = .agg #[.int .i64 c, .int .i64 (-1), ov] ∧ KH w0 B { s with told := [] } (XO ++ l) w') := by
  obtain ⟨ov, XO, Y, ho, st, back⟩ := st.told
  have ho' := ho
  obtain ⟨a, cc, b, rfl, -, -, -, -⟩ := ho.form
  have st : S0 w0 (kR B.bk B.bm B.br B.bp s.tk s.cells s.births (.slice a s.told.length cc) :: (Y ++ (XO ++ l))) w := st.perm (by classical exact List.perm_iff_count.2 fun x => by simp only [List.count_append, List.count_cons, List.count_nil, List.append_eq, List.cons_append, List.nil_append, List.append_assoc, Nat.add_zero, Nat.zero_add] <;> ac_rfl)
  refine enter [.pointer (some ⟨B.bk, 0, none⟩), .int .i64 c] Tryz.func88 rfl Tryz.ntmps88 rfl ?_
  show WC _ _ _ 16 [] [(0, .pointer (some ⟨B.bk, 0, none⟩)), (1, .int .i64 c)] _
  refine WC.seq fun K586 hK586 => ?_
  -- region 0
  refine WC.region ?_
  -- R0.0 4 := kernel.go:52 alloc
  refine WL.alloc (m := 3) st ty_zero34 rfl rfl rfl ?_
  intro b4 w st
  refine WL.fin hK586 (fun _ _ h => h) ?_
  refine WC.seq fun K587 hK587 => ?_
  -- region 1
  refine WC.region ?_
  -- R1.0 6 := kernel.go:53 move
  refine WL.v (by first | exact r_move (v := .int _ _) rfl | exact r_move rfl) rfl rfl rfl ?_
  -- R1.1 7 := kernel.go:53 move
  refine WL.v (by first | exact r_move (v := .pointer _) rfl | exact r_move rfl) rfl rfl rfl ?_
  -- R1.2 8 := kernel.go:53 nilCheck
  refine WL.v (by exact r_nilCheck rfl) rfl rfl rfl ?_
  -- R1.3 9 := kernel.go:53 fieldAddr
  refine WL.v (by exact r_field ty_fld120_6 rfl) rfl rfl rfl ?_
  -- R1.4 10 := kernel.go:53 load
  refine WL.v (by exact r_load1 (v := .slice a s.told.length cc) ty_one32 rfl (st.drop.c0 (by decide))) rfl rfl rfl ?_
  -- R1.5 11 := kernel.go:53 build
  refine WL.v (by exact r_build (ps := [(0, .int _ _), (1, .int _ _), (2, .slice _ _ _)]) (vs := [_, _, _]) ty_pl34 ty_zero34 rfl (fill_step (pv := [_]) (cs' := [_, _, _]) rfl rfl rfl rfl (fill_step (pv := [_]) (cs' := [_, _, _]) rfl rfl rfl rfl (fill_step (pv := [_]) (cs' := [_, _, _]) rfl rfl rfl rfl (fill_nil))))) rfl rfl rfl ?_
  -- R1.6 5 := kernel.go:53 alloc
  refine WL.alloc (m := 3) st ty_zero34 rfl rfl rfl ?_
  intro b5 w st
  -- R1.7 None := kernel.go:53 store
  first | refine WL.storeW (vs := [_, _, _]) st ty_agg34 rfl rfl rfl rfl rfl rfl ?_ | refine WL.storeL (vs := [_, _, _]) st ty_agg34 rfl rfl rfl rfl (by first | decide | omega) rfl rfl ?_ | refine WL.storeW (vs := [_, _, _]) st.front1 ty_agg34 rfl rfl rfl rfl rfl rfl ?_ | refine WL.storeL (vs := [_, _, _]) st.front1 ty_agg34 rfl rfl rfl rfl (by first | decide | omega) rfl rfl ?_ | refine WL.storeW (vs := [_, _, _]) st.front2 ty_agg34 rfl rfl rfl rfl rfl rfl ?_ | refine WL.storeL (vs := [_, _, _]) st.front2 ty_agg34 rfl rfl rfl rfl (by first | decide | omega) rfl rfl ?_ | refine WL.storeW (vs := [_, _, _]) st.front3 ty_agg34 rfl rfl rfl rfl rfl rfl ?_ | refine WL.storeL (vs := [_, _, _]) st.front3 ty_agg34 rfl rfl rfl rfl (by first | decide | omega) rfl rfl ?_ | refine WL.storeW (vs := [_, _, _]) st.front4 ty_agg34 rfl rfl rfl rfl rfl rfl ?_ | refine WL.storeL (vs := [_, _, _]) st.front4 ty_agg34 rfl rfl rfl rfl (by first | decide | omega) rfl rfl ?_ | refine WL.storeW (vs := [_, _, _]) st.front5 ty_agg34 rfl rfl rfl rfl rfl rfl ?_ | refine WL.storeL (vs := [_, _, _]) st.front5 ty_agg34 rfl rfl rfl rfl (by first | decide | omega) rfl rfl ?_ | refine WL.storeW (vs := [_, _, _]) st.front6 ty_agg34 rfl rfl rfl rfl rfl rfl ?_ | refine WL.storeL (vs := [_, _, _]) st.front6 ty_agg34 rfl rfl rfl rfl (by first | decide | omega) rfl rfl ?_ | refine WL.storeW (vs := [_, _, _]) st.front7 ty_agg34 rfl rfl rfl rfl rfl rfl ?_ | refine WL.storeL (vs := [_, _, _]) st.front7 ty_agg34 rfl rfl rfl rfl (by first | decide | omega) rfl rfl ?_ | refine WL.storeW (vs := [_, _, _]) st.front8 ty_agg34 rfl rfl rfl rfl rfl rfl ?_ | refine WL.storeL (vs := [_, _, _]) st.front8 ty_agg34 rfl rfl rfl rfl (by first | decide | omega) rfl rfl ?_
  intro w st
  refine WL.fin hK587 (fun _ _ h => h) ?_
  refine WC.seq fun K588 hK588 => ?_
  -- region 2
  refine WC.region ?_
  -- R2.0 12 := kernel.go:54 move
  refine WL.v (by first | exact r_move (v := .pointer _) rfl | exact r_move rfl) rfl rfl rfl ?_
  -- R2.1 13 := kernel.go:54 nilCheck
  refine WL.v (by exact r_nilCheck rfl) rfl rfl rfl ?_
  -- R2.2 14 := kernel.go:54 fieldAddr
  refine WL.v (by exact r_field ty_fld120_6 rfl) rfl rfl rfl ?_
  -- R2.3 None := kernel.go:54 store
  refine WL.store (v := .slice none 0 0) st.front2 ty_one32 rfl rfl rfl (by decide) rfl rfl ?_
  intro w st
  have st := stE kF_setO st
  refine WL.fin hK588 (fun _ _ h => h) ?_
  refine WC.seq fun K589 hK589 => ?_
  -- region 3
  refine WC.region ?_
  -- R3.0 15 := kernel.go:55 load
  refine WL.v (by exact r_loadL (vs := [_, _, _]) ty_agg34 rfl ⟨(by first | assumption | exact st.c0 (by first | decide | omega) | exact st.c1 (by first | decide | omega) | exact st.c2 (by first | decide | omega) | exact st.c3 (by first | decide | omega) | exact st.c4 (by first | decide | omega) | exact st.c5 (by first | decide | omega) | exact st.c6 (by first | decide | omega) | exact st.c7 (by first | decide | omega) | exact st.c8 (by first | decide | omega)), (by first | assumption | exact st.c0 (by first | decide | omega) | exact st.c1 (by first | decide | omega) | exact st.c2 (by first | decide | omega) | exact st.c3 (by first | decide | omega) | exact st.c4 (by first | decide | omega) | exact st.c5 (by first | decide | omega) | exact st.c6 (by first | decide | omega) | exact st.c7 (by first | decide | omega) | exact st.c8 (by first | decide | omega)), (by first | assumption | exact st.c0 (by first | decide | omega) | exact st.c1 (by first | decide | omega) | exact st.c2 (by first | decide | omega) | exact st.c3 (by first | decide | omega) | exact st.c4 (by first | decide | omega) | exact st.c5 (by first | decide | omega) | exact st.c6 (by first | decide | omega) | exact st.c7 (by first | decide | omega) | exact st.c8 (by first | decide | omega)), trivial⟩) rfl rfl rfl ?_
  -- R3.1 None := kernel.go:55 store
  first | refine WL.storeW (vs := [_, _, _]) st ty_agg34 rfl rfl rfl rfl rfl rfl ?_ | refine WL.storeL (vs := [_, _, _]) st ty_agg34 rfl rfl rfl rfl (by first | decide | omega) rfl rfl ?_ | refine WL.storeW (vs := [_, _, _]) st.front1 ty_agg34 rfl rfl rfl rfl rfl rfl ?_ | refine WL.storeL (vs := [_, _, _]) st.front1 ty_agg34 rfl rfl rfl rfl (by first | decide | omega) rfl rfl ?_ | refine WL.storeW (vs := [_, _, _]) st.front2 ty_agg34 rfl rfl rfl rfl rfl rfl ?_ | refine WL.storeL (vs := [_, _, _]) st.front2 ty_agg34 rfl rfl rfl rfl (by first | decide | omega) rfl rfl ?_ | refine WL.storeW (vs := [_, _, _]) st.front3 ty_agg34 rfl rfl rfl rfl rfl rfl ?_ | refine WL.storeL (vs := [_, _, _]) st.front3 ty_agg34 rfl rfl rfl rfl (by first | decide | omega) rfl rfl ?_ | refine WL.storeW (vs := [_, _, _]) st.front4 ty_agg34 rfl rfl rfl rfl rfl rfl ?_ | refine WL.storeL (vs := [_, _, _]) st.front4 ty_agg34 rfl rfl rfl rfl (by first | decide | omega) rfl rfl ?_ | refine WL.storeW (vs := [_, _, _]) st.front5 ty_agg34 rfl rfl rfl rfl rfl rfl ?_ | refine WL.storeL (vs := [_, _, _]) st.front5 ty_agg34 rfl rfl rfl rfl (by first | decide | omega) rfl rfl ?_ | refine WL.storeW (vs := [_, _, _]) st.front6 ty_agg34 rfl rfl rfl rfl rfl rfl ?_ | refine WL.storeL (vs := [_, _, _]) st.front6 ty_agg34 rfl rfl rfl rfl (by first | decide | omega) rfl rfl ?_ | refine WL.storeW (vs := [_, _, _]) st.front7 ty_agg34 rfl rfl rfl rfl rfl rfl ?_ | refine WL.storeL (vs := [_, _, _]) st.front7 ty_agg34 rfl rfl rfl rfl (by first | decide | omega) rfl rfl ?_ | refine WL.storeW (vs := [_, _, _]) st.front8 ty_agg34 rfl rfl rfl rfl rfl rfl ?_ | refine WL.storeL (vs := [_, _, _]) st.front8 ty_agg34 rfl rfl rfl rfl (by first | decide | omega) rfl rfl ?_
  intro w st
  refine WL.fin hK589 (fun _ _ h => h) ?_
  refine WC.retC (vs := [_, _, _]) Tryz.results88 (fun _ _ h => h) rfl ty_agg34 rfl ⟨(by first | assumption | exact st.c0 (by first | decide | omega) | exact st.c1 (by first | decide | omega) | exact st.c2 (by first | decide | omega) | exact st.c3 (by first | decide | omega) | exact st.c4 (by first | decide | omega) | exact st.c5 (by first | decide | omega) | exact st.c6 (by first | decide | omega) | exact st.c7 (by first | decide | omega) | exact st.c8 (by first | decide | omega)), (by first | assumption | exact st.c0 (by first | decide | omega) | exact st.c1 (by first | decide | omega) | exact st.c2 (by first | decide | omega) | exact st.c3 (by first | decide | omega) | exact st.c4 (by first | decide | omega) | exact st.c5 (by first | decide | omega) | exact st.c6 (by first | decide | omega) | exact st.c7 (by first | decide | omega) | exact st.c8 (by first | decide | omega)), (by first | assumption | exact st.c0 (by first | decide | omega) | exact st.c1 (by first | decide | omega) | exact st.c2 (by first | decide | omega) | exact st.c3 (by first | decide | omega) | exact st.c4 (by first | decide | omega) | exact st.c5 (by first | decide | omega) | exact st.c6 (by first | decide | omega) | exact st.c7 (by first | decide | omega) | exact st.c8 (by first | decide | omega)), trivial⟩ ?_
  exact ⟨_, rfl, _, XO, ho', rfl, back (LO.nil) st.drop.drop1⟩
end Go.Proofs.Qxb6500834aGreatDoor

