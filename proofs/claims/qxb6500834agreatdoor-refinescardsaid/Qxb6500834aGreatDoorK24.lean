import Derived.Test.Qxb6500834aGreatDoorK23
set_option linter.unusedVariables false
set_option linter.unusedSimpArgs false
set_option maxRecDepth 20000
namespace Go.Proofs.Qxb6500834aGreatDoor
open Go.RowKit Go.E1 Go.Kern
variable {w0 : World} {L L' l I J K K' X Y : List HI} {w : World} {s : KS} {B : KA} {t r N : Nat}

def RK (w0 : World) (B : KA) (s : KS) (c task : Int) (l : List HI) (v : Value) (w : World) : Prop := ∃ ov XO, OL0 ov s.told XO ∧ v = .agg #[.int .i64 c, .int .i64 task, ov] ∧ KH w0 B { s with told := [] } (XO ++ l) w
theorem KH.out {it : HI} (h : KH w0 B s (it :: l) w) : ∃ Y, S0 w0 (it :: Y) w ∧ ∀ {it' : HI} {w' : World}, S0 w0 (it' :: Y) w' → KH w0 B s (it' :: l) w' := by
  obtain ⟨qv, XQ, tv, XT, ov, XO, hq, ht, ho, st⟩ := h
  exact ⟨kR B.bk B.bm B.br B.bp s.tk s.cells s.births ov :: mI B.bm s.now s.armed tv :: rI B.br s.held qv :: pI B.bp s.mode s.claim :: (XT ++ (XO ++ (gather 20 XQ ++ l))), st.perm (by classical exact List.perm_iff_count.2 fun x => by simp only [List.count_append, List.count_cons, List.count_nil, List.append_eq, List.cons_append, List.nil_append, List.append_assoc, Nat.add_zero, Nat.zero_add] <;> ac_rfl), fun {it' w'} st' => ⟨qv, XQ, tv, XT, ov, XO, hq, ht, ho, st'.perm (by classical exact List.perm_iff_count.2 fun x => by simp only [List.count_append, List.count_cons, List.count_nil, List.append_eq, List.cons_append, List.nil_append, List.append_assoc, Nat.add_zero, Nat.zero_add] <;> ac_rfl)⟩⟩
theorem KH.ker2 (h : KH w0 B s l w) : ∃ ov Y, l ⊆ Y ∧ S0 w0 (kR B.bk B.bm B.br B.bp s.tk s.cells s.births ov :: Y) w ∧ ∀ {tk' : Nat → TK} {cells' : Nat → Nat} {births' : Nat} {w' : World}, S0 w0 (kR B.bk B.bm B.br B.bp tk' cells' births' ov :: Y) w' → KH w0 B { s with tk := tk', cells := cells', births := births' } l w' := by
  obtain ⟨qv, XQ, tv, XT, ov, XO, hq, ht, ho, st⟩ := h
  refine ⟨ov, _, fun x hx => ?_, st, fun {tk' cells' births' w'} st' => ⟨qv, XQ, tv, XT, ov, XO, hq, ht, ho, st'⟩⟩
  simp only [List.mem_cons, List.mem_append]
  exact .inr (.inr (.inr (.inr (.inr (.inr hx)))))
abbrev zR (b : Nat) : HI := (b, Row 34 3 (nth [.int .i64 0, .int .i64 0, .slice none 0 0]))

def rivalsP (s : KS) (t r : Nat) : Nat := (holdersP s.held r ||| queuedP (s.queue r)) &&& (65535 - 2 ^ t)
def grant1 (s : KS) (t r u : Nat) : KS := { s with held := upd2 s.held t r (s.held t r + u) }
def enq1 (s : KS) (t r u : Nat) : KS := { s with queue := updN s.queue r (s.queue r ++ [(t, u)]), tk := updN s.tk t { s.tk t with waiting := true } }
def arm1 (s : KS) (t k : Nat) : KS := { s with armed := s.armed + 1, timers := s.timers ++ [(s.armed + 1, deadP s.now k, t)], tk := updN s.tk t { s.tk t with timer := s.armed + 1, deadline := deadP s.now k } }
def enqP (s : KS) (t r u : Nat) : Option Nat → KS
  | none => enq1 s t r u
  | some k => arm1 (enq1 s t r u) t k
def acq2 (s : KS) (t r u : Nat) (tim : Option Nat) : KS × Int :=
  if atOnceP s t r u then (grant1 s t r u, 0)
  else if tim = some 0 then (s, 5)
  else if (judgeP s.mode (fun i => (s.tk i).birth) t (rivalsP s t r)).1 then (wakeP (abortP s t), 3)
  else if (judgeP s.mode (fun i => (s.tk i).birth) t (rivalsP s t r)).2 = 0 then (enqP s t r u tim, 1)
  else if atOnceP (wakeP ((tasksP (judgeP s.mode (fun i => (s.tk i).birth) t (rivalsP s t r)).2).foldl abortP s)) t r u then (grant1 (wakeP ((tasksP (judgeP s.mode (fun i => (s.tk i).birth) t (rivalsP s t r)).2).foldl abortP s)) t r u, 0)
  else (enqP (wakeP ((tasksP (judgeP s.mode (fun i => (s.tk i).birth) t (rivalsP s t r)).2).foldl abortP s)) t r u tim, 1)
def acquireP (s : KS) (t r u : Int) (tim : Option Nat) : KS × Int :=
  if callerP s t ≠ 0 then (s, callerP s t)
  else if checkP s.held t.toNat r u ≠ 0 then (s, checkP s.held t.toNat r u)
  else if s.mode = 3 ∧ (s.claim t.toNat r.toNat : Int) < (s.held t.toNat r.toNat : Nat) + u then (s, 21)
  else acq2 s t.toNat r.toNat u.toNat tim
theorem callerP_ok {t : Int} (h : callerP s t = 0) : 0 ≤ t ∧ t < 16 := by
  unfold callerP at h
  by_cases h1 : t < 0 ∨ 16 ≤ t
  · rw [if_pos h1] at h; cases h
  · omega
theorem checkP_ok {held : Nat → Nat → Nat} {r u : Int} (h : checkP held t r u = 0) : 0 ≤ r ∧ r < 20 ∧ 1 ≤ u ∧ (held t r.toNat : Int) + u ≤ totP r.toNat := by
  unfold checkP at h
  by_cases h1 : r < 0 ∨ 20 ≤ r
  · rw [if_pos h1] at h; cases h
  rw [if_neg h1] at h
  by_cases h2 : 8 ≤ r ∧ u ≠ 1 ∧ u ≠ 16
  · rw [if_pos h2] at h; cases h
  rw [if_neg h2] at h
  by_cases h3 : 8 ≤ r ∧ 0 < held t r.toNat
  · rw [if_pos h3] at h; cases h
  rw [if_neg h3] at h
  by_cases h4 : u < 1 ∨ (totP r.toNat : Int) < held t r.toNat + u
  · rw [if_pos h4] at h; cases h
  omega
theorem KB_aborts : ∀ (Ts : List Nat) {s : KS} {N : Nat}, KB N s → KB (N + Ts.length) (Ts.foldl abortP s)
  | [], s, N, h => h
  | t :: Ts, s, N, h => by
    have := KB_aborts Ts (h.abort (t := t))
    rw [show N + 1 + Ts.length = N + (t :: Ts).length by rw [List.length_cons]; omega] at this
    exact this
theorem KB.grant1 {u : Nat} (h : KB N s) (hu : s.held t r + u ≤ 16) : KB N (grant1 s t r u) := ⟨upd2_le h.held hu, h.claim, h.qt, h.n, h.ec, h.tt, h.td, h.ta, h.tn, h.nn⟩

theorem wakeR_ind {P : KS → Prop} (hP : ∀ s r q Q, P s → r < 20 → s.queue r = q :: Q → admissibleP s q.1 r q.2 = true → P (answerP (grantS s r q Q) q.1 0)) (hr : r < 20) : ∀ (n : Nat) {s : KS}, P s → P (wakeR n s r).1
  | 0, s, h => h
  | n + 1, s, h => by
    unfold wakeR
    split
    · exact h
    · rename_i q Q hQ
      split
      · rename_i ha
        exact wakeR_ind hP hr n (hP s r q Q h hr hQ ha)
      · exact h
theorem passN_ind {P : KS → Prop} (hP : ∀ s r q Q, P s → r < 20 → s.queue r = q :: Q → admissibleP s q.1 r q.2 = true → P (answerP (grantS s r q Q) q.1 0)) (h : P s) : ∀ r, r ≤ 20 → P (passN s r).1
  | 0, _ => h
  | r + 1, hr => wakeR_ind hP (r := r) (by omega) _ (passN_ind hP h r (by omega))
theorem wakeO_ind {P : KS → Prop} (hP : ∀ s r q Q, P s → r < 20 → s.queue r = q :: Q → admissibleP s q.1 r q.2 = true → P (answerP (grantS s r q Q) q.1 0)) : ∀ (k : Nat) {s : KS}, P s → P (wakeO k s)
  | 0, s, h => h
  | k + 1, s, h => by
    unfold wakeO
    split
    · exact wakeO_ind hP k (passN_ind hP h 20 (Nat.le_refl _))
    · exact passN_ind hP h 20 (Nat.le_refl _)
theorem wake_ind {P : KS → Prop} (hP : ∀ s r q Q, P s → r < 20 → s.queue r = q :: Q → admissibleP s q.1 r q.2 = true → P (answerP (grantS s r q Q) q.1 0)) (h : P s) : P (wakeP s) := wakeO_ind hP _ h
/-- What neither a rollback nor a grant touches. -/
structure Sm (s s' : KS) : Prop where
  mode : s'.mode = s.mode
  now : s'.now = s.now
  armed : s'.armed = s.armed
  births : s'.births = s.births
  claim : s'.claim = s.claim
theorem Sm.rfl' : Sm s s := ⟨rfl, rfl, rfl, rfl, rfl⟩
theorem Sm.trans {s1 s2 s3 : KS} (h : Sm s1 s2) (g : Sm s2 s3) : Sm s1 s3 := ⟨g.mode.trans h.mode, g.now.trans h.now, g.armed.trans h.armed, g.births.trans h.births, g.claim.trans h.claim⟩
theorem Sm.wake : Sm s (wakeP s) := wake_ind (P := fun x => Sm s x) (fun x r q Q h _ _ _ => h.trans ⟨rfl, rfl, rfl, rfl, rfl⟩) Sm.rfl'
theorem Sm.aborts : ∀ (Ts : List Nat) {s : KS}, Sm s (Ts.foldl abortP s)
  | [], s => Sm.rfl'
  | t :: Ts, s => Sm.trans (s2 := abortP s t) ⟨rfl, rfl, rfl, rfl, rfl⟩ (Sm.aborts Ts)
theorem foldl_snoc {α β : Type} {f : β → α → β} {b : β} {L : List α} {i : Nat} {a : α} (h : L[i]? = some a) : (L.take (i + 1)).foldl f b = f ((L.take i).foldl f b) a := by
  rw [List.take_add_one, h, List.foldl_append]; rfl

set_option maxHeartbeats 2000000 in
theorem acquire_ok {t r u : Int} {ticks : Nat} {timed : Bool} (hD : gD w0) (hB : KB N s) (hN : N + 20 ≤ 1000000) (hu : -1 ≤ u) (hu2 : u ≤ 16) (htk : ticks < 18446744073709551616) (hnow : s.now < 9223372036854775808) (harm : s.armed < 1000000) (st : KH w0 B s l w) :
    Calls Tryz.prog 103 #[.pointer (some ⟨B.bk, 0, none⟩), .int .i64 t, .int .i64 r, .int .i64 u, .int .u64 (ticks : Nat), .bool timed] w
      (Ret fun v w' => RK w0 B (acquireP s t r u (if timed then some ticks else none)).1 (acquireP s t r u (if timed then some ticks else none)).2 (-1) l v w') := by
  obtain ⟨Y, qv, XQ, tv, ov, V, st⟩ := st.view
  by_cases hc1 : callerP s t ≠ 0
  · have e : acquireP s t r u (if timed then some ticks else none) = (s, callerP s t) := if_pos hc1
    refine enter [.pointer (some ⟨B.bk, 0, none⟩), .int .i64 t, .int .i64 r, .int .i64 u, .int .u64 (ticks : Nat), .bool timed] Tryz.func103 rfl Tryz.ntmps103 rfl ?_
    show WC _ _ _ 210 [] [(0, .pointer (some ⟨B.bk, 0, none⟩)), (1, .int .i64 t), (2, .int .i64 r), (3, .int .i64 u), (4, .int .u64 (ticks : Nat)), (5, .bool timed)] _
    refine WC.seq fun K657 hK657 => ?_
    -- region 0
    refine WC.region ?_
    -- R0.0 12 := acquire.go:25 alloc
    refine WL.alloc (m := 3) st ty_zero34 rfl rfl rfl ?_
    intro b12 w st
    refine WL.fin hK657 (fun _ _ h => h) ?_
    refine WC.seq fun K658 hK658 => ?_
    refine WC.seq fun K659 hK659 => ?_
    -- region 1
    refine WC.region ?_
    -- R1.0 24 := acquire.go:26 move
    refine WL.v (by first | exact r_move (v := .pointer _) rfl | exact r_move rfl) rfl rfl rfl ?_
    -- R1.1 25 := acquire.go:26 move
    refine WL.v (by first | exact r_move (v := .int _ _) rfl | exact r_move rfl) rfl rfl rfl ?_
    -- R1.2 26 := acquire.go:26 call
    have st : KH w0 B s (zR b12 :: l) w := V.back (I := [_]) st
    refine WL.call (r_call ty_call100 rfl) rfl rfl rfl (caller_ok (t := t) st) ?_
    rintro _ w ⟨rfl, st⟩
    -- R1.3 13 := acquire.go:26 assign
    refine WL.v (by first | exact r_assign (v := .int _ _) rfl | exact r_assign rfl) rfl rfl rfl ?_
    refine WL.fin hK659 (fun _ _ h => h) ?_
    refine WC.seq fun K660 hK660 => ?_
    -- region 2
    refine WC.region ?_
    -- R2.0 27 := acquire.go:26 move
    refine WL.v (by first | exact r_move (v := .int _ _) rfl | exact r_move rfl) rfl rfl rfl ?_
    -- R2.1 28 := acquire.go:26 binOp
    refine WL.v (by first | exact r_neq rfl rfl (decide_eq_true (by omega)) | exact r_neq rfl rfl (decide_eq_false (by omega)) | exact r_neq rfl rfl rfl) rfl rfl rfl ?_
    refine WL.fin hK660 (fun _ _ h => h) ?_
    refine WC.condT rfl rfl ?_
    refine WC.seq fun K661 hK661 => ?_
    -- region 3
    refine WC.region ?_
    -- R3.0 29 := acquire.go:27 move
    refine WL.v (by first | exact r_move (v := .pointer _) rfl | exact r_move rfl) rfl rfl rfl ?_
    -- R3.1 30 := acquire.go:27 move
    refine WL.v (by first | exact r_move (v := .int _ _) rfl | exact r_move rfl) rfl rfl rfl ?_
    -- R3.2 31 := acquire.go:27 call
    refine WL.call (r_call ty_call88 rfl) rfl rfl rfl (done_ok st) ?_
    rintro _ w ⟨ovr, XO, hor, rfl, st⟩
    obtain ⟨ar, cr, br, rfl, -, -, -, -⟩ := hor.form
    obtain ⟨Yr, st, backr⟩ := KH.out (st.perm (List.perm_append_comm_assoc XO [_] l))
    -- R3.3 None := acquire.go:27 store
    first | refine WL.storeW (vs := [_, _, _]) st ty_agg34 rfl rfl rfl rfl rfl rfl ?_ | refine WL.storeL (vs := [_, _, _]) st ty_agg34 rfl rfl rfl rfl (by first | decide | omega) rfl rfl ?_ | refine WL.storeW (vs := [_, _, _]) st.front1 ty_agg34 rfl rfl rfl rfl rfl rfl ?_ | refine WL.storeL (vs := [_, _, _]) st.front1 ty_agg34 rfl rfl rfl rfl (by first | decide | omega) rfl rfl ?_ | refine WL.storeW (vs := [_, _, _]) st.front2 ty_agg34 rfl rfl rfl rfl rfl rfl ?_ | refine WL.storeL (vs := [_, _, _]) st.front2 ty_agg34 rfl rfl rfl rfl (by first | decide | omega) rfl rfl ?_ | refine WL.storeW (vs := [_, _, _]) st.front3 ty_agg34 rfl rfl rfl rfl rfl rfl ?_ | refine WL.storeL (vs := [_, _, _]) st.front3 ty_agg34 rfl rfl rfl rfl (by first | decide | omega) rfl rfl ?_ | refine WL.storeW (vs := [_, _, _]) st.front4 ty_agg34 rfl rfl rfl rfl rfl rfl ?_ | refine WL.storeL (vs := [_, _, _]) st.front4 ty_agg34 rfl rfl rfl rfl (by first | decide | omega) rfl rfl ?_ | refine WL.storeW (vs := [_, _, _]) st.front5 ty_agg34 rfl rfl rfl rfl rfl rfl ?_ | refine WL.storeL (vs := [_, _, _]) st.front5 ty_agg34 rfl rfl rfl rfl (by first | decide | omega) rfl rfl ?_ | refine WL.storeW (vs := [_, _, _]) st.front6 ty_agg34 rfl rfl rfl rfl rfl rfl ?_ | refine WL.storeL (vs := [_, _, _]) st.front6 ty_agg34 rfl rfl rfl rfl (by first | decide | omega) rfl rfl ?_ | refine WL.storeW (vs := [_, _, _]) st.front7 ty_agg34 rfl rfl rfl rfl rfl rfl ?_ | refine WL.storeL (vs := [_, _, _]) st.front7 ty_agg34 rfl rfl rfl rfl (by first | decide | omega) rfl rfl ?_ | refine WL.storeW (vs := [_, _, _]) st.front8 ty_agg34 rfl rfl rfl rfl rfl rfl ?_ | refine WL.storeL (vs := [_, _, _]) st.front8 ty_agg34 rfl rfl rfl rfl (by first | decide | omega) rfl rfl ?_
    intro w st
    refine WL.fin hK661 (fun _ _ h => h) ?_
    refine WC.retC (vs := [_, _, _]) Tryz.results103 (fun _ _ h => h) rfl ty_agg34 rfl ⟨(by first | assumption | exact st.c0 (by first | decide | omega) | exact st.c1 (by first | decide | omega) | exact st.c2 (by first | decide | omega) | exact st.c3 (by first | decide | omega) | exact st.c4 (by first | decide | omega) | exact st.c5 (by first | decide | omega) | exact st.c6 (by first | decide | omega) | exact st.c7 (by first | decide | omega) | exact st.c8 (by first | decide | omega)), (by first | assumption | exact st.c0 (by first | decide | omega) | exact st.c1 (by first | decide | omega) | exact st.c2 (by first | decide | omega) | exact st.c3 (by first | decide | omega) | exact st.c4 (by first | decide | omega) | exact st.c5 (by first | decide | omega) | exact st.c6 (by first | decide | omega) | exact st.c7 (by first | decide | omega) | exact st.c8 (by first | decide | omega)), (by first | assumption | exact st.c0 (by first | decide | omega) | exact st.c1 (by first | decide | omega) | exact st.c2 (by first | decide | omega) | exact st.c3 (by first | decide | omega) | exact st.c4 (by first | decide | omega) | exact st.c5 (by first | decide | omega) | exact st.c6 (by first | decide | omega) | exact st.c7 (by first | decide | omega) | exact st.c8 (by first | decide | omega)), trivial⟩ ?_
    rw [e]
    exact ⟨_, rfl, _, XO, hor, rfl, (backr st).drop⟩
  have hc1 : callerP s t = 0 := Classical.not_not.1 hc1
  obtain ⟨ht0, ht16⟩ := callerP_ok hc1
  obtain ⟨t, rfl⟩ : ∃ n : Nat, t = n := ⟨t.toNat, by omega⟩
  have ht : t < 16 := by omega
  have e1 : ∀ tim, acquireP s (t : Nat) r u tim = if checkP s.held t r u ≠ 0 then (s, checkP s.held t r u) else if s.mode = 3 ∧ (s.claim t r.toNat : Int) < (s.held t r.toNat : Nat) + u then (s, 21) else acq2 s t r.toNat u.toNat tim := fun tim => by
    unfold acquireP; rw [if_neg (fun h => h hc1), Int.toNat_natCast]
  by_cases hc2 : checkP s.held t r u ≠ 0
  · have e : acquireP s (t : Nat) r u (if timed then some ticks else none) = (s, checkP s.held t r u) := (e1 _).trans (if_pos hc2)
    refine enter [.pointer (some ⟨B.bk, 0, none⟩), .int .i64 (t : Nat), .int .i64 r, .int .i64 u, .int .u64 (ticks : Nat), .bool timed] Tryz.func103 rfl Tryz.ntmps103 rfl ?_
    show WC _ _ _ 210 [] [(0, .pointer (some ⟨B.bk, 0, none⟩)), (1, .int .i64 (t : Nat)), (2, .int .i64 r), (3, .int .i64 u), (4, .int .u64 (ticks : Nat)), (5, .bool timed)] _
    refine WC.seq fun K662 hK662 => ?_
    -- region 0
    refine WC.region ?_
    -- R0.0 12 := acquire.go:25 alloc
    refine WL.alloc (m := 3) st ty_zero34 rfl rfl rfl ?_
    intro b12 w st
    refine WL.fin hK662 (fun _ _ h => h) ?_
    refine WC.seq fun K663 hK663 => ?_
    refine WC.seq fun K664 hK664 => ?_
    -- region 1
    refine WC.region ?_
    -- R1.0 24 := acquire.go:26 move
    refine WL.v (by first | exact r_move (v := .pointer _) rfl | exact r_move rfl) rfl rfl rfl ?_
    -- R1.1 25 := acquire.go:26 move
    refine WL.v (by first | exact r_move (v := .int _ _) rfl | exact r_move rfl) rfl rfl rfl ?_
    -- R1.2 26 := acquire.go:26 call
    have st : KH w0 B s (zR b12 :: l) w := V.back (I := [_]) st
    refine WL.call (r_call ty_call100 rfl) rfl rfl rfl (caller_ok (t := t) st) ?_
    rintro _ w ⟨rfl, st⟩
    -- R1.3 13 := acquire.go:26 assign
    refine WL.v (by exact r_assign (v := .int .i64 0) (congrArg (Value.int .i64) hc1)) rfl rfl rfl ?_
    refine WL.fin hK664 (fun _ _ h => h) ?_
    refine WC.seq fun K665 hK665 => ?_
    -- region 2
    refine WC.region ?_
    -- R2.0 27 := acquire.go:26 move
    refine WL.v (by first | exact r_move (v := .int _ _) rfl | exact r_move rfl) rfl rfl rfl ?_
    -- R2.1 28 := acquire.go:26 binOp
    refine WL.v (by first | exact r_neq rfl rfl (decide_eq_true (by omega)) | exact r_neq rfl rfl (decide_eq_false (by omega)) | exact r_neq rfl rfl rfl) rfl rfl rfl ?_
    refine WL.fin hK665 (fun _ _ h => h) ?_
    refine WC.condF rfl rfl ?_
    refine WC.skipF hK663 (fun _ _ h => h) ?_
    refine WC.seq fun K666 hK666 => ?_
    refine WC.seq fun K667 hK667 => ?_
    -- region 4
    obtain ⟨Y1, qv1, XQ1, tv1, ov1, V1, st⟩ := st.view
    refine WC.region ?_
    -- R4.0 32 := acquire.go:29 move
    refine WL.v (by first | exact r_move (v := .pointer _) rfl | exact r_move rfl) rfl rfl rfl ?_
    -- R4.1 33 := acquire.go:29 nilCheck
    refine WL.v (by exact r_nilCheck rfl) rfl rfl rfl ?_
    -- R4.2 34 := acquire.go:29 fieldAddr
    refine WL.v (by exact r_field ty_fld120_1 rfl) rfl rfl rfl ?_
    -- R4.3 35 := acquire.go:29 load
    refine WL.v (by exact r_load1 (v := .pointer (some ⟨B.br, 0, none⟩)) ty_one107 rfl (V1.cr st)) rfl rfl rfl ?_
    -- R4.4 36 := acquire.go:29 move
    refine WL.v (by first | exact r_move (v := .int _ _) rfl | exact r_move rfl) rfl rfl rfl ?_
    -- R4.5 37 := acquire.go:29 move
    refine WL.v (by first | exact r_move (v := .int _ _) rfl | exact r_move rfl) rfl rfl rfl ?_
    -- R4.6 38 := acquire.go:29 move
    refine WL.v (by first | exact r_move (v := .int _ _) rfl | exact r_move rfl) rfl rfl rfl ?_
    -- R4.7 39 := acquire.go:29 call
    refine WL.call (r_call ty_call130 rfl) rfl rfl rfl (check_ok (t := t) (r := r) (u := u) ht hB.held hu hu2 V1.r st) ?_
    rintro _ w ⟨rfl, st⟩
    -- R4.8 14 := acquire.go:29 assign
    refine WL.v (by first | exact r_assign (v := .int _ _) rfl | exact r_assign rfl) rfl rfl rfl ?_
    refine WL.fin hK667 (fun _ _ h => h) ?_
    refine WC.seq fun K668 hK668 => ?_
    -- region 5
    refine WC.region ?_
    -- R5.0 40 := acquire.go:29 move
    refine WL.v (by first | exact r_move (v := .int _ _) rfl | exact r_move rfl) rfl rfl rfl ?_
    -- R5.1 41 := acquire.go:29 binOp
    refine WL.v (by first | exact r_neq rfl rfl (decide_eq_true (by omega)) | exact r_neq rfl rfl (decide_eq_false (by omega)) | exact r_neq rfl rfl rfl) rfl rfl rfl ?_
    refine WL.fin hK668 (fun _ _ h => h) ?_
    refine WC.condT rfl rfl ?_
    refine WC.seq fun K669 hK669 => ?_
    -- region 6
    refine WC.region ?_
    -- R6.0 42 := acquire.go:30 move
    refine WL.v (by first | exact r_move (v := .pointer _) rfl | exact r_move rfl) rfl rfl rfl ?_
    -- R6.1 43 := acquire.go:30 move
    refine WL.v (by first | exact r_move (v := .int _ _) rfl | exact r_move rfl) rfl rfl rfl ?_
    -- R6.2 44 := acquire.go:30 call
    refine WL.call (r_call ty_call88 rfl) rfl rfl rfl (done_ok (V1.same st)) ?_
    rintro _ w ⟨ovr, XO, hor, rfl, st⟩
    obtain ⟨ar, cr, br, rfl, -, -, -, -⟩ := hor.form
    obtain ⟨Yr, st, backr⟩ := KH.out (st.perm (List.perm_append_comm_assoc XO [_] l))
    -- R6.3 None := acquire.go:30 store
    first | refine WL.storeW (vs := [_, _, _]) st ty_agg34 rfl rfl rfl rfl rfl rfl ?_ | refine WL.storeL (vs := [_, _, _]) st ty_agg34 rfl rfl rfl rfl (by first | decide | omega) rfl rfl ?_ | refine WL.storeW (vs := [_, _, _]) st.front1 ty_agg34 rfl rfl rfl rfl rfl rfl ?_ | refine WL.storeL (vs := [_, _, _]) st.front1 ty_agg34 rfl rfl rfl rfl (by first | decide | omega) rfl rfl ?_ | refine WL.storeW (vs := [_, _, _]) st.front2 ty_agg34 rfl rfl rfl rfl rfl rfl ?_ | refine WL.storeL (vs := [_, _, _]) st.front2 ty_agg34 rfl rfl rfl rfl (by first | decide | omega) rfl rfl ?_ | refine WL.storeW (vs := [_, _, _]) st.front3 ty_agg34 rfl rfl rfl rfl rfl rfl ?_ | refine WL.storeL (vs := [_, _, _]) st.front3 ty_agg34 rfl rfl rfl rfl (by first | decide | omega) rfl rfl ?_ | refine WL.storeW (vs := [_, _, _]) st.front4 ty_agg34 rfl rfl rfl rfl rfl rfl ?_ | refine WL.storeL (vs := [_, _, _]) st.front4 ty_agg34 rfl rfl rfl rfl (by first | decide | omega) rfl rfl ?_ | refine WL.storeW (vs := [_, _, _]) st.front5 ty_agg34 rfl rfl rfl rfl rfl rfl ?_ | refine WL.storeL (vs := [_, _, _]) st.front5 ty_agg34 rfl rfl rfl rfl (by first | decide | omega) rfl rfl ?_ | refine WL.storeW (vs := [_, _, _]) st.front6 ty_agg34 rfl rfl rfl rfl rfl rfl ?_ | refine WL.storeL (vs := [_, _, _]) st.front6 ty_agg34 rfl rfl rfl rfl (by first | decide | omega) rfl rfl ?_ | refine WL.storeW (vs := [_, _, _]) st.front7 ty_agg34 rfl rfl rfl rfl rfl rfl ?_ | refine WL.storeL (vs := [_, _, _]) st.front7 ty_agg34 rfl rfl rfl rfl (by first | decide | omega) rfl rfl ?_ | refine WL.storeW (vs := [_, _, _]) st.front8 ty_agg34 rfl rfl rfl rfl rfl rfl ?_ | refine WL.storeL (vs := [_, _, _]) st.front8 ty_agg34 rfl rfl rfl rfl (by first | decide | omega) rfl rfl ?_
    intro w st
    refine WL.fin hK669 (fun _ _ h => h) ?_
    refine WC.retC (vs := [_, _, _]) Tryz.results103 (fun _ _ h => h) rfl ty_agg34 rfl ⟨(by first | assumption | exact st.c0 (by first | decide | omega) | exact st.c1 (by first | decide | omega) | exact st.c2 (by first | decide | omega) | exact st.c3 (by first | decide | omega) | exact st.c4 (by first | decide | omega) | exact st.c5 (by first | decide | omega) | exact st.c6 (by first | decide | omega) | exact st.c7 (by first | decide | omega) | exact st.c8 (by first | decide | omega)), (by first | assumption | exact st.c0 (by first | decide | omega) | exact st.c1 (by first | decide | omega) | exact st.c2 (by first | decide | omega) | exact st.c3 (by first | decide | omega) | exact st.c4 (by first | decide | omega) | exact st.c5 (by first | decide | omega) | exact st.c6 (by first | decide | omega) | exact st.c7 (by first | decide | omega) | exact st.c8 (by first | decide | omega)), (by first | assumption | exact st.c0 (by first | decide | omega) | exact st.c1 (by first | decide | omega) | exact st.c2 (by first | decide | omega) | exact st.c3 (by first | decide | omega) | exact st.c4 (by first | decide | omega) | exact st.c5 (by first | decide | omega) | exact st.c6 (by first | decide | omega) | exact st.c7 (by first | decide | omega) | exact st.c8 (by first | decide | omega)), trivial⟩ ?_
    rw [e]
    exact ⟨_, rfl, _, XO, hor, rfl, (backr st).drop⟩
  have hc2 : checkP s.held t r u = 0 := Classical.not_not.1 hc2
  obtain ⟨hr0, hr20, hu1, hsum⟩ := checkP_ok hc2
  obtain ⟨r, rfl⟩ : ∃ n : Nat, r = n := ⟨r.toNat, by omega⟩
  obtain ⟨u, rfl⟩ : ∃ n : Nat, u = n := ⟨u.toNat, by omega⟩
  rw [Int.toNat_natCast] at hsum
  have hr : r < 20 := by omega
  have htp := totP_le r
  have hu16 : u ≤ 16 := by omega
  have hbh := hB.held t r
  have hbc := hB.claim t r
  have e2 : ∀ tim, acquireP s (t : Nat) (r : Nat) (u : Nat) tim = if s.mode = 3 ∧ s.claim t r < s.held t r + u then (s, 21) else acq2 s t r u tim := fun tim => by
    rw [e1, if_neg (fun h => h hc2), Int.toNat_natCast, Int.toNat_natCast]
    simp only [show ((s.claim t r : Int) < (s.held t r : Nat) + (u : Int)) ↔ s.claim t r < s.held t r + u by omega]
  by_cases hm : s.mode = 3 ∧ s.claim t r < s.held t r + u
  · have e : acquireP s (t : Nat) (r : Nat) (u : Nat) (if timed then some ticks else none) = (s, 21) := (e2 _).trans (if_pos hm)
    refine enter [.pointer (some ⟨B.bk, 0, none⟩), .int .i64 (t : Nat), .int .i64 (r : Nat), .int .i64 (u : Nat), .int .u64 (ticks : Nat), .bool timed] Tryz.func103 rfl Tryz.ntmps103 rfl ?_
    show WC _ _ _ 210 [] [(0, .pointer (some ⟨B.bk, 0, none⟩)), (1, .int .i64 (t : Nat)), (2, .int .i64 (r : Nat)), (3, .int .i64 (u : Nat)), (4, .int .u64 (ticks : Nat)), (5, .bool timed)] _
    refine WC.seq fun K670 hK670 => ?_
    -- region 0
    refine WC.region ?_
    -- R0.0 12 := acquire.go:25 alloc
    refine WL.alloc (m := 3) st ty_zero34 rfl rfl rfl ?_
    intro b12 w st
    refine WL.fin hK670 (fun _ _ h => h) ?_
    refine WC.seq fun K671 hK671 => ?_
    refine WC.seq fun K672 hK672 => ?_
    -- region 1
    refine WC.region ?_
    -- R1.0 24 := acquire.go:26 move
    refine WL.v (by first | exact r_move (v := .pointer _) rfl | exact r_move rfl) rfl rfl rfl ?_
    -- R1.1 25 := acquire.go:26 move
    refine WL.v (by first | exact r_move (v := .int _ _) rfl | exact r_move rfl) rfl rfl rfl ?_
    -- R1.2 26 := acquire.go:26 call
    have st : KH w0 B s (zR b12 :: l) w := V.back (I := [_]) st
    refine WL.call (r_call ty_call100 rfl) rfl rfl rfl (caller_ok (t := t) st) ?_
    rintro _ w ⟨rfl, st⟩
    -- R1.3 13 := acquire.go:26 assign
    refine WL.v (by exact r_assign (v := .int .i64 0) (congrArg (Value.int .i64) hc1)) rfl rfl rfl ?_
    refine WL.fin hK672 (fun _ _ h => h) ?_
    refine WC.seq fun K673 hK673 => ?_
    -- region 2
    refine WC.region ?_
    -- R2.0 27 := acquire.go:26 move
    refine WL.v (by first | exact r_move (v := .int _ _) rfl | exact r_move rfl) rfl rfl rfl ?_
    -- R2.1 28 := acquire.go:26 binOp
    refine WL.v (by first | exact r_neq rfl rfl (decide_eq_true (by omega)) | exact r_neq rfl rfl (decide_eq_false (by omega)) | exact r_neq rfl rfl rfl) rfl rfl rfl ?_
    refine WL.fin hK673 (fun _ _ h => h) ?_
    refine WC.condF rfl rfl ?_
    refine WC.skipF hK671 (fun _ _ h => h) ?_
    refine WC.seq fun K674 hK674 => ?_
    refine WC.seq fun K675 hK675 => ?_
    -- region 4
    obtain ⟨Y1, qv1, XQ1, tv1, ov1, V1, st⟩ := st.view
    refine WC.region ?_
    -- R4.0 32 := acquire.go:29 move
    refine WL.v (by first | exact r_move (v := .pointer _) rfl | exact r_move rfl) rfl rfl rfl ?_
    -- R4.1 33 := acquire.go:29 nilCheck
    refine WL.v (by exact r_nilCheck rfl) rfl rfl rfl ?_
    -- R4.2 34 := acquire.go:29 fieldAddr
    refine WL.v (by exact r_field ty_fld120_1 rfl) rfl rfl rfl ?_
    -- R4.3 35 := acquire.go:29 load
    refine WL.v (by exact r_load1 (v := .pointer (some ⟨B.br, 0, none⟩)) ty_one107 rfl (V1.cr st)) rfl rfl rfl ?_
    -- R4.4 36 := acquire.go:29 move
    refine WL.v (by first | exact r_move (v := .int _ _) rfl | exact r_move rfl) rfl rfl rfl ?_
    -- R4.5 37 := acquire.go:29 move
    refine WL.v (by first | exact r_move (v := .int _ _) rfl | exact r_move rfl) rfl rfl rfl ?_
    -- R4.6 38 := acquire.go:29 move
    refine WL.v (by first | exact r_move (v := .int _ _) rfl | exact r_move rfl) rfl rfl rfl ?_
    -- R4.7 39 := acquire.go:29 call
    refine WL.call (r_call ty_call130 rfl) rfl rfl rfl (check_ok (t := t) (r := r) (u := u) ht hB.held hu hu2 V1.r st) ?_
    rintro _ w ⟨rfl, st⟩
    -- R4.8 14 := acquire.go:29 assign
    refine WL.v (by exact r_assign (v := .int .i64 0) (congrArg (Value.int .i64) hc2)) rfl rfl rfl ?_
    refine WL.fin hK675 (fun _ _ h => h) ?_
    refine WC.seq fun K676 hK676 => ?_
    -- region 5
    refine WC.region ?_
    -- R5.0 40 := acquire.go:29 move
    refine WL.v (by first | exact r_move (v := .int _ _) rfl | exact r_move rfl) rfl rfl rfl ?_
    -- R5.1 41 := acquire.go:29 binOp
    refine WL.v (by first | exact r_neq rfl rfl (decide_eq_true (by omega)) | exact r_neq rfl rfl (decide_eq_false (by omega)) | exact r_neq rfl rfl rfl) rfl rfl rfl ?_
    refine WL.fin hK676 (fun _ _ h => h) ?_
    refine WC.condF rfl rfl ?_
    refine WC.skipF hK674 (fun _ _ h => h) ?_
    refine WC.seq fun K677 hK677 => ?_
    refine WC.seq fun K678 hK678 => ?_
    -- region 7 (draws)
    refine WC.quietS st ty_mixed (by kernel_rfl) fun Kq hKq => ?_
    -- R7.0 45 := acquire.go:32 move
    refine QL.v (fun w st => by first | exact r_move (v := .pointer _) rfl | exact r_move rfl) rfl rfl rfl ?_
    -- R7.1 46 := acquire.go:32 nilCheck
    refine QL.v (fun w st => by exact r_nilCheck rfl) rfl rfl rfl ?_
    -- R7.2 47 := acquire.go:32 fieldAddr
    refine QL.v (fun w st => by exact r_field ty_fld120_2 rfl) rfl rfl rfl ?_
    -- R7.3 48 := acquire.go:32 load
    refine QL.v (fun w st => by exact r_load1 (v := .pointer (some ⟨B.bp, 0, none⟩)) ty_one109 rfl (V1.cp st)) rfl rfl rfl ?_
    -- R7.4 49 := acquire.go:32 nilCheck
    refine QL.v (fun w st => by exact r_nilCheck rfl) rfl rfl rfl ?_
    -- R7.5 50 := acquire.go:32 fieldAddr
    refine QL.v (fun w st => by exact r_field ty_fld131_0 rfl) rfl rfl rfl ?_
    -- R7.6 51 := acquire.go:32 load
    refine QL.v (fun w st => by exact r_load1 (v := .int .i64 (s.mode : Nat)) ty_one40 rfl (V1.cmode st)) rfl rfl rfl ?_
    -- R7.7 52 := acquire.go:32 binOp
    refine QL.v (fun w st => by exact r_eql rfl rfl (decide_eq_true (by omega))) rfl rfl rfl ?_
    -- R7.8 53 := acquire.go:32 move
    refine QL.v (fun w st => by first | exact r_move (v := .bool _) rfl | exact r_move rfl) rfl rfl rfl ?_
    -- R7.9 54 := acquire.go:32 move
    refine QL.v (fun w st => by first | exact r_move (v := .pointer _) rfl | exact r_move rfl) rfl rfl rfl ?_
    -- R7.10 55 := acquire.go:32 nilCheck
    refine QL.v (fun w st => by exact r_nilCheck rfl) rfl rfl rfl ?_
    -- R7.11 56 := acquire.go:32 fieldAddr
    refine QL.v (fun w st => by exact r_field ty_fld120_1 rfl) rfl rfl rfl ?_
    -- R7.12 57 := acquire.go:32 load
    refine QL.v (fun w st => by exact r_load1 (v := .pointer (some ⟨B.br, 0, none⟩)) ty_one107 rfl (V1.cr st)) rfl rfl rfl ?_
    -- R7.13 58 := acquire.go:32 move
    refine QL.v (fun w st => by first | exact r_move (v := .int _ _) rfl | exact r_move rfl) rfl rfl rfl ?_
    -- R7.14 59 := acquire.go:32 move
    refine QL.v (fun w st => by first | exact r_move (v := .int _ _) rfl | exact r_move rfl) rfl rfl rfl ?_
    -- R7.15 60 := acquire.go:32 call
    refine QL.call (val := .int .i64 (s.held t r : Nat)) (fun w st => r_call ty_call104 rfl) rfl rfl rfl (fun w st => held_ok ht hr V1.r st) ?_
    -- R7.16 61 := acquire.go:32 move
    refine QL.v (fun w st => by first | exact r_move (v := .int _ _) rfl | exact r_move rfl) rfl rfl rfl ?_
    -- R7.17 62 := acquire.go:32 binOp
    refine QL.v (fun w st => by exact r_add (r := ((s.held t r + u : Nat) : Int)) rfl rfl ((wi64 (by omega) (by omega)).trans (by omega))) rfl rfl rfl ?_
    -- R7.18 63 := acquire.go:32 move
    refine QL.v (fun w st => by first | exact r_move (v := .pointer _) rfl | exact r_move rfl) rfl rfl rfl ?_
    -- R7.19 64 := acquire.go:32 nilCheck
    refine QL.v (fun w st => by exact r_nilCheck rfl) rfl rfl rfl ?_
    -- R7.20 65 := acquire.go:32 fieldAddr
    refine QL.v (fun w st => by exact r_field ty_fld120_2 rfl) rfl rfl rfl ?_
    -- R7.21 66 := acquire.go:32 load
    refine QL.v (fun w st => by exact r_load1 (v := .pointer (some ⟨B.bp, 0, none⟩)) ty_one109 rfl (V1.cp st)) rfl rfl rfl ?_
    -- R7.22 67 := acquire.go:32 move
    refine QL.v (fun w st => by first | exact r_move (v := .int _ _) rfl | exact r_move rfl) rfl rfl rfl ?_
    -- R7.23 68 := acquire.go:32 move
    refine QL.v (fun w st => by first | exact r_move (v := .int _ _) rfl | exact r_move rfl) rfl rfl rfl ?_
    -- R7.24 69 := acquire.go:32 call
    refine QL.call (val := .int .i64 (s.claim t r : Nat)) (fun w st => r_call ty_call131 rfl) rfl rfl rfl (fun w st => claim_ok ht hr V1.p st) ?_
    -- R7.25 70 := acquire.go:32 binOp
    refine QL.v (fun w st => by first | exact r_gtr rfl rfl (decide_eq_true (by omega)) | exact r_gtr rfl rfl (decide_eq_false (by omega)) | exact r_gtr rfl rfl rfl) rfl rfl rfl ?_
    -- R7.26 71 := acquire.go:32 pick
    refine QL.v (fun w st => by first | exact r_pickT (v := .bool _) rfl rfl | exact r_pickF (v := .bool _) rfl rfl) rfl rfl rfl ?_
    refine QL.wl hKq fun w st => ?_
    refine WL.fin hK678 (fun _ _ h => h) ?_
    refine WC.condT rfl rfl ?_
    refine WC.seq fun K679 hK679 => ?_
    -- region 8
    refine WC.region ?_
    -- R8.0 72 := acquire.go:33 move
    refine WL.v (by first | exact r_move (v := .pointer _) rfl | exact r_move rfl) rfl rfl rfl ?_
    -- R8.1 73 := acquire.go:33 call
    refine WL.call (r_call ty_call88 rfl) rfl rfl rfl (done_ok (V1.same st)) ?_
    rintro _ w ⟨ovr, XO, hor, rfl, st⟩
    obtain ⟨ar, cr, br, rfl, -, -, -, -⟩ := hor.form
    obtain ⟨Yr, st, backr⟩ := KH.out (st.perm (List.perm_append_comm_assoc XO [_] l))
    -- R8.2 None := acquire.go:33 store
    first | refine WL.storeW (vs := [_, _, _]) st ty_agg34 rfl rfl rfl rfl rfl rfl ?_ | refine WL.storeL (vs := [_, _, _]) st ty_agg34 rfl rfl rfl rfl (by first | decide | omega) rfl rfl ?_ | refine WL.storeW (vs := [_, _, _]) st.front1 ty_agg34 rfl rfl rfl rfl rfl rfl ?_ | refine WL.storeL (vs := [_, _, _]) st.front1 ty_agg34 rfl rfl rfl rfl (by first | decide | omega) rfl rfl ?_ | refine WL.storeW (vs := [_, _, _]) st.front2 ty_agg34 rfl rfl rfl rfl rfl rfl ?_ | refine WL.storeL (vs := [_, _, _]) st.front2 ty_agg34 rfl rfl rfl rfl (by first | decide | omega) rfl rfl ?_ | refine WL.storeW (vs := [_, _, _]) st.front3 ty_agg34 rfl rfl rfl rfl rfl rfl ?_ | refine WL.storeL (vs := [_, _, _]) st.front3 ty_agg34 rfl rfl rfl rfl (by first | decide | omega) rfl rfl ?_ | refine WL.storeW (vs := [_, _, _]) st.front4 ty_agg34 rfl rfl rfl rfl rfl rfl ?_ | refine WL.storeL (vs := [_, _, _]) st.front4 ty_agg34 rfl rfl rfl rfl (by first | decide | omega) rfl rfl ?_ | refine WL.storeW (vs := [_, _, _]) st.front5 ty_agg34 rfl rfl rfl rfl rfl rfl ?_ | refine WL.storeL (vs := [_, _, _]) st.front5 ty_agg34 rfl rfl rfl rfl (by first | decide | omega) rfl rfl ?_ | refine WL.storeW (vs := [_, _, _]) st.front6 ty_agg34 rfl rfl rfl rfl rfl rfl ?_ | refine WL.storeL (vs := [_, _, _]) st.front6 ty_agg34 rfl rfl rfl rfl (by first | decide | omega) rfl rfl ?_ | refine WL.storeW (vs := [_, _, _]) st.front7 ty_agg34 rfl rfl rfl rfl rfl rfl ?_ | refine WL.storeL (vs := [_, _, _]) st.front7 ty_agg34 rfl rfl rfl rfl (by first | decide | omega) rfl rfl ?_ | refine WL.storeW (vs := [_, _, _]) st.front8 ty_agg34 rfl rfl rfl rfl rfl rfl ?_ | refine WL.storeL (vs := [_, _, _]) st.front8 ty_agg34 rfl rfl rfl rfl (by first | decide | omega) rfl rfl ?_
    intro w st
    refine WL.fin hK679 (fun _ _ h => h) ?_
    refine WC.retC (vs := [_, _, _]) Tryz.results103 (fun _ _ h => h) rfl ty_agg34 rfl ⟨(by first | assumption | exact st.c0 (by first | decide | omega) | exact st.c1 (by first | decide | omega) | exact st.c2 (by first | decide | omega) | exact st.c3 (by first | decide | omega) | exact st.c4 (by first | decide | omega) | exact st.c5 (by first | decide | omega) | exact st.c6 (by first | decide | omega) | exact st.c7 (by first | decide | omega) | exact st.c8 (by first | decide | omega)), (by first | assumption | exact st.c0 (by first | decide | omega) | exact st.c1 (by first | decide | omega) | exact st.c2 (by first | decide | omega) | exact st.c3 (by first | decide | omega) | exact st.c4 (by first | decide | omega) | exact st.c5 (by first | decide | omega) | exact st.c6 (by first | decide | omega) | exact st.c7 (by first | decide | omega) | exact st.c8 (by first | decide | omega)), (by first | assumption | exact st.c0 (by first | decide | omega) | exact st.c1 (by first | decide | omega) | exact st.c2 (by first | decide | omega) | exact st.c3 (by first | decide | omega) | exact st.c4 (by first | decide | omega) | exact st.c5 (by first | decide | omega) | exact st.c6 (by first | decide | omega) | exact st.c7 (by first | decide | omega) | exact st.c8 (by first | decide | omega)), trivial⟩ ?_
    rw [e]
    exact ⟨_, rfl, _, XO, hor, rfl, (backr st).drop⟩
  have e3 : ∀ tim, acquireP s (t : Nat) (r : Nat) (u : Nat) tim = acq2 s t r u tim := fun tim => (e2 tim).trans (if_neg hm)
  refine enter [.pointer (some ⟨B.bk, 0, none⟩), .int .i64 (t : Nat), .int .i64 (r : Nat), .int .i64 (u : Nat), .int .u64 (ticks : Nat), .bool timed] Tryz.func103 rfl Tryz.ntmps103 rfl ?_
  show WC _ _ _ 210 [] [(0, .pointer (some ⟨B.bk, 0, none⟩)), (1, .int .i64 (t : Nat)), (2, .int .i64 (r : Nat)), (3, .int .i64 (u : Nat)), (4, .int .u64 (ticks : Nat)), (5, .bool timed)] _
  refine WC.seq fun K680 hK680 => ?_
  -- region 0
  refine WC.region ?_
  -- R0.0 12 := acquire.go:25 alloc
  refine WL.alloc (m := 3) st ty_zero34 rfl rfl rfl ?_
  intro b12 w st
  refine WL.fin hK680 (fun _ _ h => h) ?_
  refine WC.seq fun K681 hK681 => ?_
  refine WC.seq fun K682 hK682 => ?_
  -- region 1
  refine WC.region ?_
  -- R1.0 24 := acquire.go:26 move
  refine WL.v (by first | exact r_move (v := .pointer _) rfl | exact r_move rfl) rfl rfl rfl ?_
  -- R1.1 25 := acquire.go:26 move
  refine WL.v (by first | exact r_move (v := .int _ _) rfl | exact r_move rfl) rfl rfl rfl ?_
  -- R1.2 26 := acquire.go:26 call
  have st : KH w0 B s (zR b12 :: l) w := V.back (I := [_]) st
  refine WL.call (r_call ty_call100 rfl) rfl rfl rfl (caller_ok (t := t) st) ?_
  rintro _ w ⟨rfl, st⟩
  -- R1.3 13 := acquire.go:26 assign
  refine WL.v (by exact r_assign (v := .int .i64 0) (congrArg (Value.int .i64) hc1)) rfl rfl rfl ?_
  refine WL.fin hK682 (fun _ _ h => h) ?_
  refine WC.seq fun K683 hK683 => ?_
  -- region 2
  refine WC.region ?_
  -- R2.0 27 := acquire.go:26 move
  refine WL.v (by first | exact r_move (v := .int _ _) rfl | exact r_move rfl) rfl rfl rfl ?_
  -- R2.1 28 := acquire.go:26 binOp
  refine WL.v (by first | exact r_neq rfl rfl (decide_eq_true (by omega)) | exact r_neq rfl rfl (decide_eq_false (by omega)) | exact r_neq rfl rfl rfl) rfl rfl rfl ?_
  refine WL.fin hK683 (fun _ _ h => h) ?_
  refine WC.condF rfl rfl ?_
  refine WC.skipF hK681 (fun _ _ h => h) ?_
  refine WC.seq fun K684 hK684 => ?_
  refine WC.seq fun K685 hK685 => ?_
  -- region 4
  obtain ⟨Y1, qv1, XQ1, tv1, ov1, V1, st⟩ := st.view
  refine WC.region ?_
  -- R4.0 32 := acquire.go:29 move
  refine WL.v (by first | exact r_move (v := .pointer _) rfl | exact r_move rfl) rfl rfl rfl ?_
  -- R4.1 33 := acquire.go:29 nilCheck
  refine WL.v (by exact r_nilCheck rfl) rfl rfl rfl ?_
  -- R4.2 34 := acquire.go:29 fieldAddr
  refine WL.v (by exact r_field ty_fld120_1 rfl) rfl rfl rfl ?_
  -- R4.3 35 := acquire.go:29 load
  refine WL.v (by exact r_load1 (v := .pointer (some ⟨B.br, 0, none⟩)) ty_one107 rfl (V1.cr st)) rfl rfl rfl ?_
  -- R4.4 36 := acquire.go:29 move
  refine WL.v (by first | exact r_move (v := .int _ _) rfl | exact r_move rfl) rfl rfl rfl ?_
  -- R4.5 37 := acquire.go:29 move
  refine WL.v (by first | exact r_move (v := .int _ _) rfl | exact r_move rfl) rfl rfl rfl ?_
  -- R4.6 38 := acquire.go:29 move
  refine WL.v (by first | exact r_move (v := .int _ _) rfl | exact r_move rfl) rfl rfl rfl ?_
  -- R4.7 39 := acquire.go:29 call
  refine WL.call (r_call ty_call130 rfl) rfl rfl rfl (check_ok (t := t) (r := r) (u := u) ht hB.held hu hu2 V1.r st) ?_
  rintro _ w ⟨rfl, st⟩
  -- R4.8 14 := acquire.go:29 assign
  refine WL.v (by exact r_assign (v := .int .i64 0) (congrArg (Value.int .i64) hc2)) rfl rfl rfl ?_
  refine WL.fin hK685 (fun _ _ h => h) ?_
  refine WC.seq fun K686 hK686 => ?_
  -- region 5
  refine WC.region ?_
  -- R5.0 40 := acquire.go:29 move
  refine WL.v (by first | exact r_move (v := .int _ _) rfl | exact r_move rfl) rfl rfl rfl ?_
  -- R5.1 41 := acquire.go:29 binOp
  refine WL.v (by first | exact r_neq rfl rfl (decide_eq_true (by omega)) | exact r_neq rfl rfl (decide_eq_false (by omega)) | exact r_neq rfl rfl rfl) rfl rfl rfl ?_
  refine WL.fin hK686 (fun _ _ h => h) ?_
  refine WC.condF rfl rfl ?_
  refine WC.skipF hK684 (fun _ _ h => h) ?_
  refine WC.cut (ι := Unit) (fun _ => [(0, .pointer (some ⟨B.bk, 0, none⟩)), (1, .int .i64 (t : Nat)), (2, .int .i64 (r : Nat)), (3, .int .i64 (u : Nat)), (4, .int .u64 (ticks : Nat)), (5, .bool timed), (12, .pointer (some ⟨b12, 0, none⟩))]) (fun _ w' => S0 w0 Y1 w') ?_ ?_
  rotate_left
  · intro KC hKC
    by_cases hm3 : s.mode = 3
    · skip
      refine WC.seq fun K687 hK687 => ?_
      -- region 7 (draws)
      refine WC.quietS st ty_mixed (by kernel_rfl) fun Kq hKq => ?_
      -- R7.0 45 := acquire.go:32 move
      refine QL.v (fun w st => by first | exact r_move (v := .pointer _) rfl | exact r_move rfl) rfl rfl rfl ?_
      -- R7.1 46 := acquire.go:32 nilCheck
      refine QL.v (fun w st => by exact r_nilCheck rfl) rfl rfl rfl ?_
      -- R7.2 47 := acquire.go:32 fieldAddr
      refine QL.v (fun w st => by exact r_field ty_fld120_2 rfl) rfl rfl rfl ?_
      -- R7.3 48 := acquire.go:32 load
      refine QL.v (fun w st => by exact r_load1 (v := .pointer (some ⟨B.bp, 0, none⟩)) ty_one109 rfl (V1.cp st)) rfl rfl rfl ?_
      -- R7.4 49 := acquire.go:32 nilCheck
      refine QL.v (fun w st => by exact r_nilCheck rfl) rfl rfl rfl ?_
      -- R7.5 50 := acquire.go:32 fieldAddr
      refine QL.v (fun w st => by exact r_field ty_fld131_0 rfl) rfl rfl rfl ?_
      -- R7.6 51 := acquire.go:32 load
      refine QL.v (fun w st => by exact r_load1 (v := .int .i64 (s.mode : Nat)) ty_one40 rfl (V1.cmode st)) rfl rfl rfl ?_
      -- R7.7 52 := acquire.go:32 binOp
      refine QL.v (fun w st => by exact r_eql rfl rfl (decide_eq_true (by omega))) rfl rfl rfl ?_
      -- R7.8 53 := acquire.go:32 move
      refine QL.v (fun w st => by first | exact r_move (v := .bool _) rfl | exact r_move rfl) rfl rfl rfl ?_
      -- R7.9 54 := acquire.go:32 move
      refine QL.v (fun w st => by first | exact r_move (v := .pointer _) rfl | exact r_move rfl) rfl rfl rfl ?_
      -- R7.10 55 := acquire.go:32 nilCheck
      refine QL.v (fun w st => by exact r_nilCheck rfl) rfl rfl rfl ?_
      -- R7.11 56 := acquire.go:32 fieldAddr
      refine QL.v (fun w st => by exact r_field ty_fld120_1 rfl) rfl rfl rfl ?_
      -- R7.12 57 := acquire.go:32 load
      refine QL.v (fun w st => by exact r_load1 (v := .pointer (some ⟨B.br, 0, none⟩)) ty_one107 rfl (V1.cr st)) rfl rfl rfl ?_
      -- R7.13 58 := acquire.go:32 move
      refine QL.v (fun w st => by first | exact r_move (v := .int _ _) rfl | exact r_move rfl) rfl rfl rfl ?_
      -- R7.14 59 := acquire.go:32 move
      refine QL.v (fun w st => by first | exact r_move (v := .int _ _) rfl | exact r_move rfl) rfl rfl rfl ?_
      -- R7.15 60 := acquire.go:32 call
      refine QL.call (val := .int .i64 (s.held t r : Nat)) (fun w st => r_call ty_call104 rfl) rfl rfl rfl (fun w st => held_ok ht hr V1.r st) ?_
      -- R7.16 61 := acquire.go:32 move
      refine QL.v (fun w st => by first | exact r_move (v := .int _ _) rfl | exact r_move rfl) rfl rfl rfl ?_
      -- R7.17 62 := acquire.go:32 binOp
      refine QL.v (fun w st => by exact r_add (r := ((s.held t r + u : Nat) : Int)) rfl rfl ((wi64 (by omega) (by omega)).trans (by omega))) rfl rfl rfl ?_
      -- R7.18 63 := acquire.go:32 move
      refine QL.v (fun w st => by first | exact r_move (v := .pointer _) rfl | exact r_move rfl) rfl rfl rfl ?_
      -- R7.19 64 := acquire.go:32 nilCheck
      refine QL.v (fun w st => by exact r_nilCheck rfl) rfl rfl rfl ?_
      -- R7.20 65 := acquire.go:32 fieldAddr
      refine QL.v (fun w st => by exact r_field ty_fld120_2 rfl) rfl rfl rfl ?_
      -- R7.21 66 := acquire.go:32 load
      refine QL.v (fun w st => by exact r_load1 (v := .pointer (some ⟨B.bp, 0, none⟩)) ty_one109 rfl (V1.cp st)) rfl rfl rfl ?_
      -- R7.22 67 := acquire.go:32 move
      refine QL.v (fun w st => by first | exact r_move (v := .int _ _) rfl | exact r_move rfl) rfl rfl rfl ?_
      -- R7.23 68 := acquire.go:32 move
      refine QL.v (fun w st => by first | exact r_move (v := .int _ _) rfl | exact r_move rfl) rfl rfl rfl ?_
      -- R7.24 69 := acquire.go:32 call
      refine QL.call (val := .int .i64 (s.claim t r : Nat)) (fun w st => r_call ty_call131 rfl) rfl rfl rfl (fun w st => claim_ok ht hr V1.p st) ?_
      -- R7.25 70 := acquire.go:32 binOp
      refine QL.v (fun w st => by first | exact r_gtr rfl rfl (decide_eq_true (by omega)) | exact r_gtr rfl rfl (decide_eq_false (by omega)) | exact r_gtr rfl rfl rfl) rfl rfl rfl ?_
      -- R7.26 71 := acquire.go:32 pick
      refine QL.v (fun w st => by first | exact r_pickT (v := .bool _) rfl rfl | exact r_pickF (v := .bool _) rfl rfl) rfl rfl rfl ?_
      refine QL.wl hKq fun w st => ?_
      refine WL.fin hK687 (fun _ _ h => h) ?_
      refine WC.condF rfl rfl ?_
      refine WC.skipJ hKC (fun _ _ h => h) () st (by repeat (first | exact sub_nil _ | refine sub_cons rfl rfl ?_))
    · skip
      refine WC.seq fun K688 hK688 => ?_
      -- region 7 (draws)
      refine WC.quietS st ty_mixed (by kernel_rfl) fun Kq hKq => ?_
      -- R7.0 45 := acquire.go:32 move
      refine QL.v (fun w st => by first | exact r_move (v := .pointer _) rfl | exact r_move rfl) rfl rfl rfl ?_
      -- R7.1 46 := acquire.go:32 nilCheck
      refine QL.v (fun w st => by exact r_nilCheck rfl) rfl rfl rfl ?_
      -- R7.2 47 := acquire.go:32 fieldAddr
      refine QL.v (fun w st => by exact r_field ty_fld120_2 rfl) rfl rfl rfl ?_
      -- R7.3 48 := acquire.go:32 load
      refine QL.v (fun w st => by exact r_load1 (v := .pointer (some ⟨B.bp, 0, none⟩)) ty_one109 rfl (V1.cp st)) rfl rfl rfl ?_
      -- R7.4 49 := acquire.go:32 nilCheck
      refine QL.v (fun w st => by exact r_nilCheck rfl) rfl rfl rfl ?_
      -- R7.5 50 := acquire.go:32 fieldAddr
      refine QL.v (fun w st => by exact r_field ty_fld131_0 rfl) rfl rfl rfl ?_
      -- R7.6 51 := acquire.go:32 load
      refine QL.v (fun w st => by exact r_load1 (v := .int .i64 (s.mode : Nat)) ty_one40 rfl (V1.cmode st)) rfl rfl rfl ?_
      -- R7.7 52 := acquire.go:32 binOp
      refine QL.v (fun w st => by exact r_eql rfl rfl (decide_eq_false (by omega))) rfl rfl rfl ?_
      -- R7.8 53 := acquire.go:32 move
      refine QL.v (fun w st => by first | exact r_move (v := .bool _) rfl | exact r_move rfl) rfl rfl rfl ?_
      -- R7.9 54 := acquire.go:32 move
      refine QL.no rfl rfl ?_
      -- R7.10 55 := acquire.go:32 nilCheck
      refine QL.no rfl rfl ?_
      -- R7.11 56 := acquire.go:32 fieldAddr
      refine QL.no rfl rfl ?_
      -- R7.12 57 := acquire.go:32 load
      refine QL.no rfl rfl ?_
      -- R7.13 58 := acquire.go:32 move
      refine QL.no rfl rfl ?_
      -- R7.14 59 := acquire.go:32 move
      refine QL.no rfl rfl ?_
      -- R7.15 60 := acquire.go:32 call
      refine QL.no rfl rfl ?_
      -- R7.16 61 := acquire.go:32 move
      refine QL.no rfl rfl ?_
      -- R7.17 62 := acquire.go:32 binOp
      refine QL.no rfl rfl ?_
      -- R7.18 63 := acquire.go:32 move
      refine QL.no rfl rfl ?_
      -- R7.19 64 := acquire.go:32 nilCheck
      refine QL.no rfl rfl ?_
      -- R7.20 65 := acquire.go:32 fieldAddr
      refine QL.no rfl rfl ?_
      -- R7.21 66 := acquire.go:32 load
      refine QL.no rfl rfl ?_
      -- R7.22 67 := acquire.go:32 move
      refine QL.no rfl rfl ?_
      -- R7.23 68 := acquire.go:32 move
      refine QL.no rfl rfl ?_
      -- R7.24 69 := acquire.go:32 call
      refine QL.no rfl rfl ?_
      -- R7.25 70 := acquire.go:32 binOp
      refine QL.no rfl rfl ?_
      -- R7.26 71 := acquire.go:32 pick
      refine QL.v (fun w st => by first | exact r_pickT (v := .bool _) rfl rfl | exact r_pickF (v := .bool _) rfl rfl) rfl rfl rfl ?_
      refine QL.wl hKq fun w st => ?_
      refine WL.fin hK688 (fun _ _ h => h) ?_
      refine WC.condF rfl rfl ?_
      refine WC.skipJ hKC (fun _ _ h => h) () st (by repeat (first | exact sub_nil _ | refine sub_cons rfl rfl ?_))
  clear st
  rintro _ w st
  rcases Bool.eq_false_or_eq_true (atOnceP s t r u) with hat | hat
  · have e : acquireP s (t : Nat) (r : Nat) (u : Nat) (if timed then some ticks else none) = (grant1 s t r u, 0) := (e3 _).trans (if_pos hat)
    refine WC.seq fun K689 hK689 => ?_
    refine WC.seq fun K690 hK690 => ?_
    -- region 9
    refine WC.region ?_
    -- R9.0 74 := acquire.go:35 move
    refine WL.v (by first | exact r_move (v := .pointer _) rfl | exact r_move rfl) rfl rfl rfl ?_
    -- R9.1 75 := acquire.go:35 move
    refine WL.v (by first | exact r_move (v := .int _ _) rfl | exact r_move rfl) rfl rfl rfl ?_
    -- R9.2 76 := acquire.go:35 move
    refine WL.v (by first | exact r_move (v := .int _ _) rfl | exact r_move rfl) rfl rfl rfl ?_
    -- R9.3 77 := acquire.go:35 move
    refine WL.v (by first | exact r_move (v := .int _ _) rfl | exact r_move rfl) rfl rfl rfl ?_
    -- R9.4 78 := acquire.go:35 call
    refine WL.call (r_call ty_call132 rfl) rfl rfl rfl (atOnce_ok ht hr hu16 hB.held hB.claim (V1.same st)) ?_
    rintro _ w ⟨he, st⟩
    rw [hat] at he
    subst he
    refine WL.fin hK690 (fun _ _ h => h) ?_
    refine WC.condT rfl rfl ?_
    refine WC.seq fun K691 hK691 => ?_
    -- region 10
    obtain ⟨Y5, qv5, XQ5, tv5, ov5, V5, st⟩ := st.view
    refine WC.region ?_
    -- R10.0 79 := acquire.go:36 move
    refine WL.v (by first | exact r_move (v := .pointer _) rfl | exact r_move rfl) rfl rfl rfl ?_
    -- R10.1 80 := acquire.go:36 nilCheck
    refine WL.v (by exact r_nilCheck rfl) rfl rfl rfl ?_
    -- R10.2 81 := acquire.go:36 fieldAddr
    refine WL.v (by exact r_field ty_fld120_1 rfl) rfl rfl rfl ?_
    -- R10.3 82 := acquire.go:36 load
    refine WL.v (by exact r_load1 (v := .pointer (some ⟨B.br, 0, none⟩)) ty_one107 rfl (V5.cr st)) rfl rfl rfl ?_
    -- R10.4 83 := acquire.go:36 move
    refine WL.v (by first | exact r_move (v := .int _ _) rfl | exact r_move rfl) rfl rfl rfl ?_
    -- R10.5 84 := acquire.go:36 move
    refine WL.v (by first | exact r_move (v := .int _ _) rfl | exact r_move rfl) rfl rfl rfl ?_
    -- R10.6 85 := acquire.go:36 move
    refine WL.v (by first | exact r_move (v := .int _ _) rfl | exact r_move rfl) rfl rfl rfl ?_
    -- R10.7 86 := acquire.go:36 call
    obtain ⟨Y6, th, back6⟩ := (V5.same st).tab
    refine WL.call (r_call ty_call133 rfl) rfl rfl rfl (grantT_ok ht hr (hbh) hu16 th) ?_
    rintro _ w ⟨rfl, th⟩
    have st := back6 th
    refine WL.fin hK691 (fun _ _ h => h) ?_
    refine WC.seq fun K692 hK692 => ?_
    -- region 11
    refine WC.region ?_
    -- R11.0 87 := acquire.go:37 move
    refine WL.v (by first | exact r_move (v := .pointer _) rfl | exact r_move rfl) rfl rfl rfl ?_
    -- R11.1 88 := acquire.go:37 call
    refine WL.call (r_call ty_call88 rfl) rfl rfl rfl (done_ok st) ?_
    rintro _ w ⟨ovr, XO, hor, rfl, st⟩
    obtain ⟨ar, cr, br, rfl, -, -, -, -⟩ := hor.form
    obtain ⟨Yr, st, backr⟩ := KH.out (st.perm (List.perm_append_comm_assoc XO [_] l))
    -- R11.2 None := acquire.go:37 store
    first | refine WL.storeW (vs := [_, _, _]) st ty_agg34 rfl rfl rfl rfl rfl rfl ?_ | refine WL.storeL (vs := [_, _, _]) st ty_agg34 rfl rfl rfl rfl (by first | decide | omega) rfl rfl ?_ | refine WL.storeW (vs := [_, _, _]) st.front1 ty_agg34 rfl rfl rfl rfl rfl rfl ?_ | refine WL.storeL (vs := [_, _, _]) st.front1 ty_agg34 rfl rfl rfl rfl (by first | decide | omega) rfl rfl ?_ | refine WL.storeW (vs := [_, _, _]) st.front2 ty_agg34 rfl rfl rfl rfl rfl rfl ?_ | refine WL.storeL (vs := [_, _, _]) st.front2 ty_agg34 rfl rfl rfl rfl (by first | decide | omega) rfl rfl ?_ | refine WL.storeW (vs := [_, _, _]) st.front3 ty_agg34 rfl rfl rfl rfl rfl rfl ?_ | refine WL.storeL (vs := [_, _, _]) st.front3 ty_agg34 rfl rfl rfl rfl (by first | decide | omega) rfl rfl ?_ | refine WL.storeW (vs := [_, _, _]) st.front4 ty_agg34 rfl rfl rfl rfl rfl rfl ?_ | refine WL.storeL (vs := [_, _, _]) st.front4 ty_agg34 rfl rfl rfl rfl (by first | decide | omega) rfl rfl ?_ | refine WL.storeW (vs := [_, _, _]) st.front5 ty_agg34 rfl rfl rfl rfl rfl rfl ?_ | refine WL.storeL (vs := [_, _, _]) st.front5 ty_agg34 rfl rfl rfl rfl (by first | decide | omega) rfl rfl ?_ | refine WL.storeW (vs := [_, _, _]) st.front6 ty_agg34 rfl rfl rfl rfl rfl rfl ?_ | refine WL.storeL (vs := [_, _, _]) st.front6 ty_agg34 rfl rfl rfl rfl (by first | decide | omega) rfl rfl ?_ | refine WL.storeW (vs := [_, _, _]) st.front7 ty_agg34 rfl rfl rfl rfl rfl rfl ?_ | refine WL.storeL (vs := [_, _, _]) st.front7 ty_agg34 rfl rfl rfl rfl (by first | decide | omega) rfl rfl ?_ | refine WL.storeW (vs := [_, _, _]) st.front8 ty_agg34 rfl rfl rfl rfl rfl rfl ?_ | refine WL.storeL (vs := [_, _, _]) st.front8 ty_agg34 rfl rfl rfl rfl (by first | decide | omega) rfl rfl ?_
    intro w st
    refine WL.fin hK692 (fun _ _ h => h) ?_
    refine WC.retC (vs := [_, _, _]) Tryz.results103 (fun _ _ h => h) rfl ty_agg34 rfl ⟨(by first | assumption | exact st.c0 (by first | decide | omega) | exact st.c1 (by first | decide | omega) | exact st.c2 (by first | decide | omega) | exact st.c3 (by first | decide | omega) | exact st.c4 (by first | decide | omega) | exact st.c5 (by first | decide | omega) | exact st.c6 (by first | decide | omega) | exact st.c7 (by first | decide | omega) | exact st.c8 (by first | decide | omega)), (by first | assumption | exact st.c0 (by first | decide | omega) | exact st.c1 (by first | decide | omega) | exact st.c2 (by first | decide | omega) | exact st.c3 (by first | decide | omega) | exact st.c4 (by first | decide | omega) | exact st.c5 (by first | decide | omega) | exact st.c6 (by first | decide | omega) | exact st.c7 (by first | decide | omega) | exact st.c8 (by first | decide | omega)), (by first | assumption | exact st.c0 (by first | decide | omega) | exact st.c1 (by first | decide | omega) | exact st.c2 (by first | decide | omega) | exact st.c3 (by first | decide | omega) | exact st.c4 (by first | decide | omega) | exact st.c5 (by first | decide | omega) | exact st.c6 (by first | decide | omega) | exact st.c7 (by first | decide | omega) | exact st.c8 (by first | decide | omega)), trivial⟩ ?_
    rw [e]
    exact ⟨_, rfl, _, XO, hor, rfl, (backr st).drop⟩
  refine WC.seq fun K693 hK693 => ?_
  refine WC.seq fun K694 hK694 => ?_
  -- region 9
  refine WC.region ?_
  -- R9.0 74 := acquire.go:35 move
  refine WL.v (by first | exact r_move (v := .pointer _) rfl | exact r_move rfl) rfl rfl rfl ?_
  -- R9.1 75 := acquire.go:35 move
  refine WL.v (by first | exact r_move (v := .int _ _) rfl | exact r_move rfl) rfl rfl rfl ?_
  -- R9.2 76 := acquire.go:35 move
  refine WL.v (by first | exact r_move (v := .int _ _) rfl | exact r_move rfl) rfl rfl rfl ?_
  -- R9.3 77 := acquire.go:35 move
  refine WL.v (by first | exact r_move (v := .int _ _) rfl | exact r_move rfl) rfl rfl rfl ?_
  -- R9.4 78 := acquire.go:35 call
  refine WL.call (r_call ty_call132 rfl) rfl rfl rfl (atOnce_ok ht hr hu16 hB.held hB.claim (V1.same st)) ?_
  rintro _ w ⟨he, st⟩
  rw [hat] at he
  subst he
  refine WL.fin hK694 (fun _ _ h => h) ?_
  refine WC.condF rfl rfl ?_
  refine WC.skipF hK693 (fun _ _ h => h) ?_
  obtain ⟨tim, htim⟩ : ∃ tim, tim = if timed then some ticks else none := ⟨_, rfl⟩
  rw [← htim]
  by_cases hz : timed = true ∧ ticks = 0
  · obtain ⟨rfl, rfl⟩ := hz
    have e : acquireP s (t : Nat) (r : Nat) (u : Nat) tim = (s, 5) := by rw [e3, htim]; exact (if_neg (by rw [hat]; decide)).trans (if_pos rfl)
    refine WC.seq fun K695 hK695 => ?_
    refine WC.seq fun K696 hK696 => ?_
    -- region 12
    refine WC.region ?_
    -- R12.0 89 := acquire.go:39 move
    refine WL.v (by first | exact r_move (v := .bool _) rfl | exact r_move rfl) rfl rfl rfl ?_
    -- R12.1 90 := acquire.go:39 move
    refine WL.v (by first | exact r_move (v := .bool _) rfl | exact r_move rfl) rfl rfl rfl ?_
    -- R12.2 91 := acquire.go:39 move
    refine WL.v (by first | exact r_move (v := .int _ _) rfl | exact r_move rfl) rfl rfl rfl ?_
    -- R12.3 92 := acquire.go:39 binOp
    refine WL.v (by first | exact r_eql rfl rfl (decide_eq_true (by omega)) | exact r_eql rfl rfl (decide_eq_false (by omega)) | exact r_eql rfl rfl rfl) rfl rfl rfl ?_
    -- R12.4 93 := acquire.go:39 pick
    refine WL.v (by first | exact r_pickT (v := .bool _) rfl rfl | exact r_pickF (v := .bool _) rfl rfl) rfl rfl rfl ?_
    refine WL.fin hK696 (fun _ _ h => h) ?_
    refine WC.condT rfl rfl ?_
    refine WC.seq fun K697 hK697 => ?_
    -- region 13
    refine WC.region ?_
    -- R13.0 94 := acquire.go:40 move
    refine WL.v (by first | exact r_move (v := .pointer _) rfl | exact r_move rfl) rfl rfl rfl ?_
    -- R13.1 95 := acquire.go:40 call
    refine WL.call (r_call ty_call88 rfl) rfl rfl rfl (done_ok st) ?_
    rintro _ w ⟨ovr, XO, hor, rfl, st⟩
    obtain ⟨ar, cr, br, rfl, -, -, -, -⟩ := hor.form
    obtain ⟨Yr, st, backr⟩ := KH.out (st.perm (List.perm_append_comm_assoc XO [_] l))
    -- R13.2 None := acquire.go:40 store
    first | refine WL.storeW (vs := [_, _, _]) st ty_agg34 rfl rfl rfl rfl rfl rfl ?_ | refine WL.storeL (vs := [_, _, _]) st ty_agg34 rfl rfl rfl rfl (by first | decide | omega) rfl rfl ?_ | refine WL.storeW (vs := [_, _, _]) st.front1 ty_agg34 rfl rfl rfl rfl rfl rfl ?_ | refine WL.storeL (vs := [_, _, _]) st.front1 ty_agg34 rfl rfl rfl rfl (by first | decide | omega) rfl rfl ?_ | refine WL.storeW (vs := [_, _, _]) st.front2 ty_agg34 rfl rfl rfl rfl rfl rfl ?_ | refine WL.storeL (vs := [_, _, _]) st.front2 ty_agg34 rfl rfl rfl rfl (by first | decide | omega) rfl rfl ?_ | refine WL.storeW (vs := [_, _, _]) st.front3 ty_agg34 rfl rfl rfl rfl rfl rfl ?_ | refine WL.storeL (vs := [_, _, _]) st.front3 ty_agg34 rfl rfl rfl rfl (by first | decide | omega) rfl rfl ?_ | refine WL.storeW (vs := [_, _, _]) st.front4 ty_agg34 rfl rfl rfl rfl rfl rfl ?_ | refine WL.storeL (vs := [_, _, _]) st.front4 ty_agg34 rfl rfl rfl rfl (by first | decide | omega) rfl rfl ?_ | refine WL.storeW (vs := [_, _, _]) st.front5 ty_agg34 rfl rfl rfl rfl rfl rfl ?_ | refine WL.storeL (vs := [_, _, _]) st.front5 ty_agg34 rfl rfl rfl rfl (by first | decide | omega) rfl rfl ?_ | refine WL.storeW (vs := [_, _, _]) st.front6 ty_agg34 rfl rfl rfl rfl rfl rfl ?_ | refine WL.storeL (vs := [_, _, _]) st.front6 ty_agg34 rfl rfl rfl rfl (by first | decide | omega) rfl rfl ?_ | refine WL.storeW (vs := [_, _, _]) st.front7 ty_agg34 rfl rfl rfl rfl rfl rfl ?_ | refine WL.storeL (vs := [_, _, _]) st.front7 ty_agg34 rfl rfl rfl rfl (by first | decide | omega) rfl rfl ?_ | refine WL.storeW (vs := [_, _, _]) st.front8 ty_agg34 rfl rfl rfl rfl rfl rfl ?_ | refine WL.storeL (vs := [_, _, _]) st.front8 ty_agg34 rfl rfl rfl rfl (by first | decide | omega) rfl rfl ?_
    intro w st
    refine WL.fin hK697 (fun _ _ h => h) ?_
    refine WC.retC (vs := [_, _, _]) Tryz.results103 (fun _ _ h => h) rfl ty_agg34 rfl ⟨(by first | assumption | exact st.c0 (by first | decide | omega) | exact st.c1 (by first | decide | omega) | exact st.c2 (by first | decide | omega) | exact st.c3 (by first | decide | omega) | exact st.c4 (by first | decide | omega) | exact st.c5 (by first | decide | omega) | exact st.c6 (by first | decide | omega) | exact st.c7 (by first | decide | omega) | exact st.c8 (by first | decide | omega)), (by first | assumption | exact st.c0 (by first | decide | omega) | exact st.c1 (by first | decide | omega) | exact st.c2 (by first | decide | omega) | exact st.c3 (by first | decide | omega) | exact st.c4 (by first | decide | omega) | exact st.c5 (by first | decide | omega) | exact st.c6 (by first | decide | omega) | exact st.c7 (by first | decide | omega) | exact st.c8 (by first | decide | omega)), (by first | assumption | exact st.c0 (by first | decide | omega) | exact st.c1 (by first | decide | omega) | exact st.c2 (by first | decide | omega) | exact st.c3 (by first | decide | omega) | exact st.c4 (by first | decide | omega) | exact st.c5 (by first | decide | omega) | exact st.c6 (by first | decide | omega) | exact st.c7 (by first | decide | omega) | exact st.c8 (by first | decide | omega)), trivial⟩ ?_
    rw [e]
    exact ⟨_, rfl, _, XO, hor, rfl, (backr st).drop⟩
  have htim0 : tim ≠ some 0 := by
    rw [htim]
    cases timed
    · intro h; cases h
    · intro h; exact hz ⟨rfl, Option.some.inj h⟩
  have e4 : acquireP s (t : Nat) (r : Nat) (u : Nat) tim = if (judgeP s.mode (fun i => (s.tk i).birth) t (rivalsP s t r)).1 then (wakeP (abortP s t), 3)
      else if (judgeP s.mode (fun i => (s.tk i).birth) t (rivalsP s t r)).2 = 0 then (enqP s t r u tim, 1)
      else if atOnceP (wakeP ((tasksP (judgeP s.mode (fun i => (s.tk i).birth) t (rivalsP s t r)).2).foldl abortP s)) t r u then (grant1 (wakeP ((tasksP (judgeP s.mode (fun i => (s.tk i).birth) t (rivalsP s t r)).2).foldl abortP s)) t r u, 0)
      else (enqP (wakeP ((tasksP (judgeP s.mode (fun i => (s.tk i).birth) t (rivalsP s t r)).2).foldl abortP s)) t r u tim, 1) := by
    rw [e3]; exact (if_neg (by rw [hat]; decide)).trans (if_neg htim0)
  refine WC.cut (ι := Unit) (fun _ => [(0, .pointer (some ⟨B.bk, 0, none⟩)), (1, .int .i64 (t : Nat)), (2, .int .i64 (r : Nat)), (3, .int .i64 (u : Nat)), (4, .int .u64 (ticks : Nat)), (5, .bool timed), (12, .pointer (some ⟨b12, 0, none⟩))]) (fun _ w' => KH w0 B s (zR b12 :: l) w') ?_ ?_
  rotate_left
  · intro KC hKC
    cases timed
    · skip
      refine WC.seq fun K698 hK698 => ?_
      -- region 12
      refine WC.region ?_
      -- R12.0 89 := acquire.go:39 move
      refine WL.v (by first | exact r_move (v := .bool _) rfl | exact r_move rfl) rfl rfl rfl ?_
      -- R12.1 90 := acquire.go:39 move
      refine WL.v (by first | exact r_move (v := .bool _) rfl | exact r_move rfl) rfl rfl rfl ?_
      -- R12.2 91 := acquire.go:39 move
      refine WL.no rfl rfl ?_
      -- R12.3 92 := acquire.go:39 binOp
      refine WL.no rfl rfl ?_
      -- R12.4 93 := acquire.go:39 pick
      refine WL.v (by first | exact r_pickT (v := .bool _) rfl rfl | exact r_pickF (v := .bool _) rfl rfl) rfl rfl rfl ?_
      refine WL.fin hK698 (fun _ _ h => h) ?_
      refine WC.condF rfl rfl ?_
      refine WC.skipJ hKC (fun _ _ h => h) () st (by repeat (first | exact sub_nil _ | refine sub_cons rfl rfl ?_))
    · have hz0 : ticks ≠ 0 := fun h => hz ⟨rfl, h⟩
      refine WC.seq fun K699 hK699 => ?_
      -- region 12
      refine WC.region ?_
      -- R12.0 89 := acquire.go:39 move
      refine WL.v (by first | exact r_move (v := .bool _) rfl | exact r_move rfl) rfl rfl rfl ?_
      -- R12.1 90 := acquire.go:39 move
      refine WL.v (by first | exact r_move (v := .bool _) rfl | exact r_move rfl) rfl rfl rfl ?_
      -- R12.2 91 := acquire.go:39 move
      refine WL.v (by first | exact r_move (v := .int _ _) rfl | exact r_move rfl) rfl rfl rfl ?_
      -- R12.3 92 := acquire.go:39 binOp
      refine WL.v (by first | exact r_eql rfl rfl (decide_eq_true (by omega)) | exact r_eql rfl rfl (decide_eq_false (by omega)) | exact r_eql rfl rfl rfl) rfl rfl rfl ?_
      -- R12.4 93 := acquire.go:39 pick
      refine WL.v (by first | exact r_pickT (v := .bool _) rfl rfl | exact r_pickF (v := .bool _) rfl rfl) rfl rfl rfl ?_
      refine WL.fin hK699 (fun _ _ h => h) ?_
      refine WC.condF rfl rfl ?_
      refine WC.skipJ hKC (fun _ _ h => h) () st (by repeat (first | exact sub_nil _ | refine sub_cons rfl rfl ?_))
  clear st
  rintro _ w st
  obtain ⟨Y2, qv2, XQ2, tv2, ov2, V2, st⟩ := st.view
  refine WC.seq fun K700 hK700 => ?_
  -- region 14
  refine WC.region ?_
  -- R14.0 15 := acquire.go:42 alloc
  refine WL.allocN (m := 16) st ty_zeroN81 rfl rfl ?_
  intro b15 w st
  refine WL.fin hK700 (fun _ _ h => h) ?_
  refine WC.seq fun K701 hK701 => ?_
  refine WC.seq fun K702 hK702 => ?_
  -- region 15
  refine WC.region ?_
  -- R15.0 96 := acquire.go:43 move
  refine WL.v (by first | exact r_move (v := .int _ _) rfl | exact r_move rfl) rfl rfl rfl ?_
  refine WL.fin hK702 (fun _ _ h => h) ?_
  refine WC.block ?_
  refine WC.loop (ι := Nat × (Nat → Nat)) (fun y => [(0, .pointer (some ⟨B.bk, 0, none⟩)), (1, .int .i64 (t : Nat)), (2, .int .i64 (r : Nat)), (3, .int .i64 (u : Nat)), (4, .int .u64 (ticks : Nat)), (5, .bool timed), (12, .pointer (some ⟨b12, 0, none⟩)), (15, .pointer (some ⟨b15, 0, none⟩)), (96, .int .i64 (y.1 : Nat))])
    (fun y w' => y.1 ≤ 16 ∧ (∀ i, i < y.1 → y.2 i = (s.tk i).birth) ∧ S0 w0 ((b15, Row 81 16 (uF y.2)) :: Y2) w') (fun y => 16 - y.1) (0, fun _ => 0) ⟨Nat.zero_le _, fun r hr => absurd hr (Nat.not_lt_zero _), st⟩ ?_ ?_
  · skip
    repeat (first | exact sub_nil _ | refine sub_cons rfl rfl ?_)
  clear st
  rintro ⟨i, F⟩ w ⟨hi, hF, st⟩ K1 hK1
  dsimp only at hi hF st ⊢
  by_cases h16 : i = 16
  rotate_left
  · have hi' : i < 16 := by omega
    refine WC.seq fun K703 hK703 => ?_
    -- region 16
    refine WC.region ?_
    -- R16.0 97 := acquire.go:43 binOp
    refine WL.v (by first | exact r_lss rfl rfl (decide_eq_true (by omega)) | exact r_lss rfl rfl (decide_eq_false (by omega)) | exact r_lss rfl rfl rfl) rfl rfl rfl ?_
    refine WL.fin hK703 (fun _ _ h => h) ?_
    refine WC.seq fun K704 hK704 => ?_
    refine WC.condT rfl rfl ?_
    refine WC.skipF hK704 (fun _ _ h => h) ?_
    refine WC.seq fun K705 hK705 => ?_
    refine WC.block ?_
    refine WC.seq fun K706 hK706 => ?_
    -- region 17
    refine WC.region ?_
    -- R17.0 98 := acquire.go:43 move
    refine WL.v (by first | exact r_move (v := .int _ _) rfl | exact r_move rfl) rfl rfl rfl ?_
    -- R17.1 16 := acquire.go:43 assign
    refine WL.v (by first | exact r_assign (v := .int _ _) rfl | exact r_assign rfl) rfl rfl rfl ?_
    refine WL.fin hK706 (fun _ _ h => h) ?_
    -- region 18
    refine WC.region ?_
    -- R18.0 99 := acquire.go:44 move
    refine WL.v (by first | exact r_move (v := .int _ _) rfl | exact r_move rfl) rfl rfl rfl ?_
    -- R18.1 100 := acquire.go:44 move
    refine WL.v (by first | exact r_move (v := .pointer _) rfl | exact r_move rfl) rfl rfl rfl ?_
    -- R18.2 101 := acquire.go:44 move
    refine WL.v (by first | exact r_move (v := .int _ _) rfl | exact r_move rfl) rfl rfl rfl ?_
    -- R18.3 102 := acquire.go:44 nilCheck
    refine WL.v (by exact r_nilCheck rfl) rfl rfl rfl ?_
    -- R18.4 103 := acquire.go:44 fieldAddr
    refine WL.v (by exact r_field ty_fld120_3 rfl) rfl rfl rfl ?_
    -- R18.5 104 := acquire.go:44 indexAddr
    refine WL.v (by exact r_indexA (j := i) ty_ar118 rfl rfl rfl hi') rfl rfl rfl ?_
    -- R18.6 105 := acquire.go:44 fieldAddr
    refine WL.v (by exact r_field ty_fld117_1 rfl) rfl rfl rfl ?_
    -- R18.7 106 := acquire.go:44 load
    refine WL.v (by exact r_load1 (v := .int .u64 ((s.tk i).birth : Nat)) ty_one26 rfl (by rw [c_tk (List.mem_cons_of_mem _ V2.k) hi' (j := 1) (by decide) (by omega) st]; rfl)) rfl rfl rfl ?_
    -- R18.8 107 := acquire.go:44 indexAddr
    refine WL.v (by exact r_indexA ty_ar81 rfl rfl rfl (by omega)) rfl rfl rfl ?_
    -- R18.9 None := acquire.go:44 store
    first | refine WL.store (v := .int _ _) st ty_one26 rfl rfl rfl (by first | decide | omega) rfl rfl ?_ | refine WL.store (v := _) st ty_one26 rfl rfl rfl (by first | decide | omega) rfl rfl ?_ | refine WL.store (v := .int _ _) st.front1 ty_one26 rfl rfl rfl (by first | decide | omega) rfl rfl ?_ | refine WL.store (v := _) st.front1 ty_one26 rfl rfl rfl (by first | decide | omega) rfl rfl ?_ | refine WL.store (v := .int _ _) st.front2 ty_one26 rfl rfl rfl (by first | decide | omega) rfl rfl ?_ | refine WL.store (v := _) st.front2 ty_one26 rfl rfl rfl (by first | decide | omega) rfl rfl ?_ | refine WL.store (v := .int _ _) st.front3 ty_one26 rfl rfl rfl (by first | decide | omega) rfl rfl ?_ | refine WL.store (v := _) st.front3 ty_one26 rfl rfl rfl (by first | decide | omega) rfl rfl ?_ | refine WL.store (v := .int _ _) st.front4 ty_one26 rfl rfl rfl (by first | decide | omega) rfl rfl ?_ | refine WL.store (v := _) st.front4 ty_one26 rfl rfl rfl (by first | decide | omega) rfl rfl ?_ | refine WL.store (v := .int _ _) st.front5 ty_one26 rfl rfl rfl (by first | decide | omega) rfl rfl ?_ | refine WL.store (v := _) st.front5 ty_one26 rfl rfl rfl (by first | decide | omega) rfl rfl ?_ | refine WL.store (v := .int _ _) st.front6 ty_one26 rfl rfl rfl (by first | decide | omega) rfl rfl ?_ | refine WL.store (v := _) st.front6 ty_one26 rfl rfl rfl (by first | decide | omega) rfl rfl ?_ | refine WL.store (v := .int _ _) st.front7 ty_one26 rfl rfl rfl (by first | decide | omega) rfl rfl ?_ | refine WL.store (v := _) st.front7 ty_one26 rfl rfl rfl (by first | decide | omega) rfl rfl ?_ | refine WL.store (v := .int _ _) st.front8 ty_one26 rfl rfl rfl (by first | decide | omega) rfl rfl ?_ | refine WL.store (v := _) st.front8 ty_one26 rfl rfl rfl (by first | decide | omega) rfl rfl ?_
    intro w st
    refine WL.fin hK705 (fun _ _ h => h) ?_
    -- region 19
    refine WC.region ?_
    -- R19.0 108 := acquire.go:43 binOp
    refine WL.v (by first | exact r_add rfl rfl (wi64 (by omega) (by omega)) | exact r_add rfl rfl rfl) rfl rfl rfl ?_
    -- R19.1 96 := acquire.go:43 move
    refine WL.v (by first | exact r_move (v := .int _ _) rfl | exact r_move rfl) rfl rfl rfl ?_
    refine WL.next hK1 (fun _ _ h => h) (i + 1, updN F i (s.tk i).birth) ⟨hi', fun j hj => by { have hj : j < i + 1 := hj; by_cases hji : j = i; · { subst hji; show updN F j _ j = _; rw [updN_same] }; · { show updN F i _ j = _; rw [updN_ne hji]; exact hF j (by omega) } }, stE (uF_set (n := 16)) st⟩ (by show 16 - (i + 1) < 16 - i; omega) (by repeat (first | exact sub_nil _ | refine sub_cons rfl rfl ?_))
  · subst h16
    have st : S0 w0 ((b15, Row 81 16 (uF fun i => (s.tk i).birth)) :: Y2) w := stE (fun k hk => by unfold uF; rw [hF k hk]) st
    have hq16 : ∀ p, p ∈ s.queue r → p.1 < 16 := fun p hp => (hB.qt r p hp).1
    have hho : holdersP s.held r < 65536 := maskP_lt _ 16 (Nat.le_refl _)
    have hqu : queuedP (s.queue r) < 65536 := queuedP_lt hq16
    have hriv : rivalsP s t r < 65536 := andlt (orlt hho hqu)
    refine WC.seq fun K707 hK707 => ?_
    -- region 16
    refine WC.region ?_
    -- R16.0 97 := acquire.go:43 binOp
    refine WL.v (by first | exact r_lss rfl rfl (decide_eq_true (by omega)) | exact r_lss rfl rfl (decide_eq_false (by omega)) | exact r_lss rfl rfl rfl) rfl rfl rfl ?_
    refine WL.fin hK707 (fun _ _ h => h) ?_
    refine WC.seq fun K708 hK708 => ?_
    refine WC.condF rfl rfl ?_
    refine WC.exitF hK701 (fun _ _ h => h) ?_
    refine WC.seq fun K709 hK709 => ?_
    -- region 20 (draws)
    refine WC.quietS st ty_mixed (by kernel_rfl) fun Kq hKq => ?_
    -- R20.0 109 := acquire.go:46 move
    refine QL.v (fun w st => by first | exact r_move (v := .pointer _) rfl | exact r_move rfl) rfl rfl rfl ?_
    -- R20.1 110 := acquire.go:46 nilCheck
    refine QL.v (fun w st => by exact r_nilCheck rfl) rfl rfl rfl ?_
    -- R20.2 111 := acquire.go:46 fieldAddr
    refine QL.v (fun w st => by exact r_field ty_fld120_1 rfl) rfl rfl rfl ?_
    -- R20.3 112 := acquire.go:46 load
    refine QL.v (fun w st => by exact r_load1 (v := .pointer (some ⟨B.br, 0, none⟩)) ty_one107 rfl (V2.cr st.drop)) rfl rfl rfl ?_
    -- R20.4 113 := acquire.go:46 move
    refine QL.v (fun w st => by first | exact r_move (v := .int _ _) rfl | exact r_move rfl) rfl rfl rfl ?_
    -- R20.5 114 := acquire.go:46 call
    refine QL.call (val := .int .u16 (holdersP s.held r : Nat)) (fun w st => r_call ty_call134 rfl) rfl rfl rfl (fun w st => holders_ok hr (List.mem_cons_of_mem _ V2.r) st) ?_
    -- R20.6 115 := acquire.go:46 move
    refine QL.v (fun w st => by first | exact r_move (v := .pointer _) rfl | exact r_move rfl) rfl rfl rfl ?_
    -- R20.7 116 := acquire.go:46 nilCheck
    refine QL.v (fun w st => by exact r_nilCheck rfl) rfl rfl rfl ?_
    -- R20.8 117 := acquire.go:46 fieldAddr
    refine QL.v (fun w st => by exact r_field ty_fld120_1 rfl) rfl rfl rfl ?_
    -- R20.9 118 := acquire.go:46 load
    refine QL.v (fun w st => by exact r_load1 (v := .pointer (some ⟨B.br, 0, none⟩)) ty_one107 rfl (V2.cr st.drop)) rfl rfl rfl ?_
    -- R20.10 119 := acquire.go:46 move
    refine QL.v (fun w st => by first | exact r_move (v := .int _ _) rfl | exact r_move rfl) rfl rfl rfl ?_
    -- R20.11 120 := acquire.go:46 call
    refine QL.call (val := .int .u16 (queuedP (s.queue r) : Nat)) (fun w st => r_call ty_call135 rfl) rfl rfl rfl (fun w st => queued_ok hr (List.mem_cons_of_mem _ V2.r) (V2.q r hr) (fun x hx => List.mem_cons_of_mem _ (V2.qs r hr hx)) hq16 st) ?_
    -- R20.12 121 := acquire.go:46 binOp
    refine QL.v (fun w st => by exact r_or (r := ((holdersP s.held r ||| queuedP (s.queue r) : Nat) : Int)) rfl rfl (or16 hho hqu)) rfl rfl rfl ?_
    -- R20.13 122 := acquire.go:46 move
    refine QL.v (fun w st => by first | exact r_move (v := .int _ _) rfl | exact r_move rfl) rfl rfl rfl ?_
    -- R20.14 123 := acquire.go:46 call
    refine QL.call (val := .int .u16 (2 ^ t : Nat)) (fun w st => r_call ty_call30 rfl) rfl rfl rfl (fun w st => bit_ok ht st) ?_
    -- R20.15 124 := acquire.go:46 binOp
    refine QL.v (fun w st => by exact r_andNot (r := ((rivalsP s t r : Nat) : Int)) rfl rfl (andNot16 (orlt hho hqu) (pow16 ht))) rfl rfl rfl ?_
    -- R20.16 17 := acquire.go:46 assign
    refine QL.v (fun w st => by first | exact r_assign (v := .int _ _) rfl | exact r_assign rfl) rfl rfl rfl ?_
    refine QL.wl hKq fun w st => ?_
    refine WL.fin hK709 (fun _ _ h => h) ?_
    refine WC.seq fun K710 hK710 => ?_
    -- region 21
    refine WC.region ?_
    -- R21.0 126 := acquire.go:47 move
    refine WL.v (by first | exact r_move (v := .pointer _) rfl | exact r_move rfl) rfl rfl rfl ?_
    -- R21.1 127 := acquire.go:47 nilCheck
    refine WL.v (by exact r_nilCheck rfl) rfl rfl rfl ?_
    -- R21.2 128 := acquire.go:47 fieldAddr
    refine WL.v (by exact r_field ty_fld120_2 rfl) rfl rfl rfl ?_
    -- R21.3 129 := acquire.go:47 load
    refine WL.v (by exact r_load1 (v := .pointer (some ⟨B.bp, 0, none⟩)) ty_one109 rfl (V2.cp st.drop)) rfl rfl rfl ?_
    -- R21.4 130 := acquire.go:47 move
    refine WL.v (by first | exact r_move (v := .int _ _) rfl | exact r_move rfl) rfl rfl rfl ?_
    -- R21.5 131 := acquire.go:47 move
    refine WL.v (by first | exact r_move (v := .int _ _) rfl | exact r_move rfl) rfl rfl rfl ?_
    -- R21.6 132 := acquire.go:47 call
    refine WL.call (r_call ty_call136 rfl) rfl rfl rfl (judge_ok hD ht hriv (List.mem_cons_of_mem _ V2.p) List.mem_cons_self st) ?_
    rintro _ w ⟨rfl, st⟩
    -- R21.7 125 := acquire.go:47 move
    refine WL.v (by first | exact r_move (v := .tuple _) rfl | exact r_move rfl) rfl rfl rfl ?_
    -- R21.8 133 := acquire.go:47 extract
    refine WL.v (by first | exact r_extract (v := .bool _) rfl rfl | exact r_extract rfl rfl) rfl rfl rfl ?_
    -- R21.9 134 := acquire.go:47 extract
    refine WL.v (by first | exact r_extract (v := .int _ _) rfl rfl | exact r_extract rfl rfl) rfl rfl rfl ?_
    -- R21.10 18 := acquire.go:47 assign
    refine WL.v (by first | exact r_assign (v := .bool _) rfl | exact r_assign rfl) rfl rfl rfl ?_
    -- R21.11 19 := acquire.go:47 assign
    refine WL.v (by first | exact r_assign (v := .int _ _) rfl | exact r_assign rfl) rfl rfl rfl ?_
    refine WL.fin hK710 (fun _ _ h => h) ?_
    have st := V2.same st.drop
    obtain ⟨j, hj⟩ : ∃ j, j = judgeP s.mode (fun i => (s.tk i).birth) t (rivalsP s t r) := ⟨_, rfl⟩
    rw [← hj] at e4 ⊢
    have hjlt : j.2 < 65536 := by rw [hj]; exact judgeF_lt (L := tasksP (rivalsP s t r)) fun o ho => tasksP_lt ho
    have hnn := hB.nn
    rcases Bool.eq_false_or_eq_true j.1 with hd | hd
    · have e : acquireP s (t : Nat) (r : Nat) (u : Nat) tim = (wakeP (abortP s t), 3) := e4.trans (if_pos hd)
      refine WC.seq fun K711 hK711 => ?_
      refine WC.seq fun K712 hK712 => ?_
      -- region 22
      refine WC.region ?_
      -- R22.0 135 := acquire.go:48 move
      refine WL.v (by exact r_move (v := .bool true) (congrArg Value.bool hd)) rfl rfl rfl ?_
      refine WL.fin hK712 (fun _ _ h => h) ?_
      refine WC.condT rfl rfl ?_
      refine WC.seq fun K713 hK713 => ?_
      -- region 23
      refine WC.region ?_
      -- R23.0 136 := acquire.go:49 move
      refine WL.v (by first | exact r_move (v := .pointer _) rfl | exact r_move rfl) rfl rfl rfl ?_
      -- R23.1 137 := acquire.go:49 move
      refine WL.v (by first | exact r_move (v := .int _ _) rfl | exact r_move rfl) rfl rfl rfl ?_
      -- R23.2 138 := acquire.go:49 call
      refine WL.call (r_call ty_call117 rfl) rfl rfl rfl (abort_ok ht (hB.n t) (hB.ec t) (by omega) st) ?_
      rintro _ w ⟨rfl, st⟩
      refine WL.fin hK713 (fun _ _ h => h) ?_
      refine WC.seq fun K714 hK714 => ?_
      -- region 24
      refine WC.region ?_
      -- R24.0 139 := acquire.go:50 move
      refine WL.v (by first | exact r_move (v := .pointer _) rfl | exact r_move rfl) rfl rfl rfl ?_
      -- R24.1 140 := acquire.go:50 call
      refine WL.call (r_call ty_call107 rfl) rfl rfl rfl (wake_ok hB.abort (by omega) st) ?_
      rintro _ w ⟨rfl, st⟩
      refine WL.fin hK714 (fun _ _ h => h) ?_
      refine WC.seq fun K715 hK715 => ?_
      -- region 25
      refine WC.region ?_
      -- R25.0 141 := acquire.go:51 move
      refine WL.v (by first | exact r_move (v := .pointer _) rfl | exact r_move rfl) rfl rfl rfl ?_
      -- R25.1 142 := acquire.go:51 call
      refine WL.call (r_call ty_call88 rfl) rfl rfl rfl (done_ok st) ?_
      rintro _ w ⟨ovr, XO, hor, rfl, st⟩
      obtain ⟨ar, cr, br, rfl, -, -, -, -⟩ := hor.form
      obtain ⟨Yr, st, backr⟩ := KH.out (st.perm (List.perm_append_comm_assoc XO [_] l))
      -- R25.2 None := acquire.go:51 store
      first | refine WL.storeW (vs := [_, _, _]) st ty_agg34 rfl rfl rfl rfl rfl rfl ?_ | refine WL.storeL (vs := [_, _, _]) st ty_agg34 rfl rfl rfl rfl (by first | decide | omega) rfl rfl ?_ | refine WL.storeW (vs := [_, _, _]) st.front1 ty_agg34 rfl rfl rfl rfl rfl rfl ?_ | refine WL.storeL (vs := [_, _, _]) st.front1 ty_agg34 rfl rfl rfl rfl (by first | decide | omega) rfl rfl ?_ | refine WL.storeW (vs := [_, _, _]) st.front2 ty_agg34 rfl rfl rfl rfl rfl rfl ?_ | refine WL.storeL (vs := [_, _, _]) st.front2 ty_agg34 rfl rfl rfl rfl (by first | decide | omega) rfl rfl ?_ | refine WL.storeW (vs := [_, _, _]) st.front3 ty_agg34 rfl rfl rfl rfl rfl rfl ?_ | refine WL.storeL (vs := [_, _, _]) st.front3 ty_agg34 rfl rfl rfl rfl (by first | decide | omega) rfl rfl ?_ | refine WL.storeW (vs := [_, _, _]) st.front4 ty_agg34 rfl rfl rfl rfl rfl rfl ?_ | refine WL.storeL (vs := [_, _, _]) st.front4 ty_agg34 rfl rfl rfl rfl (by first | decide | omega) rfl rfl ?_ | refine WL.storeW (vs := [_, _, _]) st.front5 ty_agg34 rfl rfl rfl rfl rfl rfl ?_ | refine WL.storeL (vs := [_, _, _]) st.front5 ty_agg34 rfl rfl rfl rfl (by first | decide | omega) rfl rfl ?_ | refine WL.storeW (vs := [_, _, _]) st.front6 ty_agg34 rfl rfl rfl rfl rfl rfl ?_ | refine WL.storeL (vs := [_, _, _]) st.front6 ty_agg34 rfl rfl rfl rfl (by first | decide | omega) rfl rfl ?_ | refine WL.storeW (vs := [_, _, _]) st.front7 ty_agg34 rfl rfl rfl rfl rfl rfl ?_ | refine WL.storeL (vs := [_, _, _]) st.front7 ty_agg34 rfl rfl rfl rfl (by first | decide | omega) rfl rfl ?_ | refine WL.storeW (vs := [_, _, _]) st.front8 ty_agg34 rfl rfl rfl rfl rfl rfl ?_ | refine WL.storeL (vs := [_, _, _]) st.front8 ty_agg34 rfl rfl rfl rfl (by first | decide | omega) rfl rfl ?_
      intro w st
      refine WL.fin hK715 (fun _ _ h => h) ?_
      refine WC.retC (vs := [_, _, _]) Tryz.results103 (fun _ _ h => h) rfl ty_agg34 rfl ⟨(by first | assumption | exact st.c0 (by first | decide | omega) | exact st.c1 (by first | decide | omega) | exact st.c2 (by first | decide | omega) | exact st.c3 (by first | decide | omega) | exact st.c4 (by first | decide | omega) | exact st.c5 (by first | decide | omega) | exact st.c6 (by first | decide | omega) | exact st.c7 (by first | decide | omega) | exact st.c8 (by first | decide | omega)), (by first | assumption | exact st.c0 (by first | decide | omega) | exact st.c1 (by first | decide | omega) | exact st.c2 (by first | decide | omega) | exact st.c3 (by first | decide | omega) | exact st.c4 (by first | decide | omega) | exact st.c5 (by first | decide | omega) | exact st.c6 (by first | decide | omega) | exact st.c7 (by first | decide | omega) | exact st.c8 (by first | decide | omega)), (by first | assumption | exact st.c0 (by first | decide | omega) | exact st.c1 (by first | decide | omega) | exact st.c2 (by first | decide | omega) | exact st.c3 (by first | decide | omega) | exact st.c4 (by first | decide | omega) | exact st.c5 (by first | decide | omega) | exact st.c6 (by first | decide | omega) | exact st.c7 (by first | decide | omega) | exact st.c8 (by first | decide | omega)), trivial⟩ ?_
      rw [e]
      exact ⟨_, rfl, _, XO, hor, rfl, (backr st).drop⟩
    have e5 : acquireP s (t : Nat) (r : Nat) (u : Nat) tim = if j.2 = 0 then (enqP s t r u tim, 1) else if atOnceP (wakeP ((tasksP j.2).foldl abortP s)) t r u then (grant1 (wakeP ((tasksP j.2).foldl abortP s)) t r u, 0) else (enqP (wakeP ((tasksP j.2).foldl abortP s)) t r u tim, 1) := e4.trans (if_neg (by rw [hd]; decide))
    refine WC.seq fun K716 hK716 => ?_
    refine WC.seq fun K717 hK717 => ?_
    -- region 22
    refine WC.region ?_
    -- R22.0 135 := acquire.go:48 move
    refine WL.v (by exact r_move (v := .bool false) (congrArg Value.bool hd)) rfl rfl rfl ?_
    refine WL.fin hK717 (fun _ _ h => h) ?_
    refine WC.condF rfl rfl ?_
    refine WC.skipF hK716 (fun _ _ h => h) ?_
    refine WC.cut (ι := KS) (fun _ => [(0, .pointer (some ⟨B.bk, 0, none⟩)), (1, .int .i64 (t : Nat)), (2, .int .i64 (r : Nat)), (3, .int .i64 (u : Nat)), (4, .int .u64 (ticks : Nat)), (5, .bool timed), (12, .pointer (some ⟨b12, 0, none⟩))]) (fun s2 w' => KB (N + 16) s2 ∧ Sm s s2 ∧ acquireP s (t : Nat) (r : Nat) (u : Nat) tim = (enqP s2 t r u tim, 1) ∧ KH w0 B s2 (zR b12 :: l) w') ?_ ?_
    rotate_left
    · intro KC hKC
      by_cases hw0 : j.2 = 0
      · skip
        refine WC.seq fun K718 hK718 => ?_
        -- region 26
        refine WC.region ?_
        -- R26.0 143 := acquire.go:53 move
        refine WL.v (by first | exact r_move (v := .int _ _) rfl | exact r_move rfl) rfl rfl rfl ?_
        -- R26.1 144 := acquire.go:53 binOp
        refine WL.v (by exact r_neq rfl rfl (decide_eq_false (by omega))) rfl rfl rfl ?_
        refine WL.fin hK718 (fun _ _ h => h) ?_
        refine WC.condF rfl rfl ?_
        refine WC.skipJ hKC (fun _ _ h => h) s ⟨hB.mono (by omega), Sm.rfl', e5.trans (if_pos hw0), st⟩ (by repeat (first | exact sub_nil _ | refine sub_cons rfl rfl ?_))
      have e6 : acquireP s (t : Nat) (r : Nat) (u : Nat) tim = if atOnceP (wakeP ((tasksP j.2).foldl abortP s)) t r u then (grant1 (wakeP ((tasksP j.2).foldl abortP s)) t r u, 0) else (enqP (wakeP ((tasksP j.2).foldl abortP s)) t r u tim, 1) := e5.trans (if_neg hw0)
      obtain ⟨Y3, qv3, XQ3, tv3, ov3, V3, st⟩ := st.view
      refine WC.seq fun K719 hK719 => ?_
      -- region 26
      refine WC.region ?_
      -- R26.0 143 := acquire.go:53 move
      refine WL.v (by first | exact r_move (v := .int _ _) rfl | exact r_move rfl) rfl rfl rfl ?_
      -- R26.1 144 := acquire.go:53 binOp
      refine WL.v (by exact r_neq rfl rfl (decide_eq_true (by omega))) rfl rfl rfl ?_
      refine WL.fin hK719 (fun _ _ h => h) ?_
      refine WC.condT rfl rfl ?_
      refine WC.seq fun K720 hK720 => ?_
      refine WC.seq fun K721 hK721 => ?_
      -- region 27
      refine WC.region ?_
      -- R27.0 145 := acquire.go:54 move
      refine WL.v (by first | exact r_move (v := .int _ _) rfl | exact r_move rfl) rfl rfl rfl ?_
      -- R27.1 146 := acquire.go:54 call
      refine WL.call (r_call ty_call31 rfl) rfl rfl rfl (tasks_ok hD hjlt st) ?_
      rintro _ w ⟨X, ho, st⟩
      have st := V3.back st
      obtain ⟨Ts, hTs⟩ : ∃ Ts, Ts = tasksP j.2 := ⟨_, rfl⟩
      have hT16 : ∀ o, o ∈ Ts → o < 16 := fun o h => by rw [hTs] at h; exact tasksP_lt h
      have hTl : Ts.length ≤ 16 := by rw [hTs]; exact tasksP_len
      rw [← hTs] at ho e6
      obtain ⟨a, c, b, rfl, hcc1, hcc2, ha, hcell⟩ := ho.form
      -- R27.2 147 := acquire.go:54 call
      refine WL.v (by exact r_len ty_usl54 rfl) rfl rfl rfl ?_
      -- R27.3 148 := acquire.go:54 move
      refine WL.v (by first | exact r_move (v := .int _ _) rfl | exact r_move rfl) rfl rfl rfl ?_
      refine WL.fin hK721 (fun _ _ h => h) ?_
      refine WC.block ?_
      refine WC.loop (ι := Nat) (fun i => [(0, .pointer (some ⟨B.bk, 0, none⟩)), (1, .int .i64 (t : Nat)), (2, .int .i64 (r : Nat)), (3, .int .i64 (u : Nat)), (4, .int .u64 (ticks : Nat)), (5, .bool timed), (12, .pointer (some ⟨b12, 0, none⟩)), (146, .slice a Ts.length c), (147, .int .i64 (Ts.length : Nat)), (148, .int .i64 (i : Nat))])
        (fun i w' => i ≤ Ts.length ∧ KB (N + i) ((Ts.take i).foldl abortP s) ∧ KH w0 B ((Ts.take i).foldl abortP s) (X ++ (zR b12 :: l)) w') (fun i => Ts.length - i) 0 ⟨Nat.zero_le _, hB, st⟩ ?_ ?_
      · skip
        repeat (first | exact sub_nil _ | refine sub_cons rfl rfl ?_)
      clear st
      rintro i w ⟨hi, hBi, st⟩ K3 hK3
      by_cases hil : i = Ts.length
      rotate_left
      · have hil' : i < Ts.length := by omega
        obtain ⟨o, hoi⟩ : ∃ o, Ts[i]? = some o := ⟨Ts[i], List.getElem?_eq_getElem hil'⟩
        have ho16 := hT16 o (List.mem_of_getElem? hoi)
        have hfs := foldl_snoc (f := abortP) (b := s) hoi
        obtain rfl := ha (by omega)
        obtain ⟨Y4, qv4, XQ4, tv4, ov4, V4, st⟩ := st.view
        have hce := hcell st (fun x hx => V4.ls (List.mem_append_left _ hx)) i o hoi 0 (by decide)
        have hnni := hBi.nn
        refine WC.seq fun K722 hK722 => ?_
        -- region 28
        refine WC.region ?_
        -- R28.0 149 := acquire.go:54 binOp
        refine WL.v (by first | exact r_lss rfl rfl (decide_eq_true (by omega)) | exact r_lss rfl rfl (decide_eq_false (by omega)) | exact r_lss rfl rfl rfl) rfl rfl rfl ?_
        refine WL.fin hK722 (fun _ _ h => h) ?_
        refine WC.seq fun K723 hK723 => ?_
        refine WC.condT rfl rfl ?_
        refine WC.skipF hK723 (fun _ _ h => h) ?_
        refine WC.seq fun K724 hK724 => ?_
        refine WC.block ?_
        refine WC.seq fun K725 hK725 => ?_
        -- region 29
        refine WC.region ?_
        -- R29.0 150 := acquire.go:54 indexAddr
        refine WL.v (by exact r_indexS (j := i) ty_sl54 rfl rfl rfl (by omega)) rfl rfl rfl ?_
        -- R29.1 151 := acquire.go:54 load
        refine WL.v (by exact r_load1 (v := .int .i64 (o : Nat)) ty_one31 rfl (by rw [Nat.zero_add]; exact hce)) rfl rfl rfl ?_
        -- R29.2 21 := acquire.go:54 assign
        refine WL.v (by first | exact r_assign (v := .int _ _) rfl | exact r_assign rfl) rfl rfl rfl ?_
        refine WL.fin hK725 (fun _ _ h => h) ?_
        -- region 30
        refine WC.region ?_
        -- R30.0 152 := acquire.go:55 move
        refine WL.v (by first | exact r_move (v := .pointer _) rfl | exact r_move rfl) rfl rfl rfl ?_
        -- R30.1 153 := acquire.go:55 move
        refine WL.v (by first | exact r_move (v := .int _ _) rfl | exact r_move rfl) rfl rfl rfl ?_
        -- R30.2 154 := acquire.go:55 call
        refine WL.call (r_call ty_call117 rfl) rfl rfl rfl (abort_ok ho16 (hBi.n o) (hBi.ec o) (by omega) (V4.same st)) ?_
        rintro _ w ⟨rfl, st⟩
        refine WL.fin hK724 (fun _ _ h => h) ?_
        -- region 31
        refine WC.region ?_
        -- R31.0 155 := acquire.go:54 binOp
        refine WL.v (by first | exact r_add rfl rfl (wi64 (by omega) (by omega)) | exact r_add rfl rfl rfl) rfl rfl rfl ?_
        -- R31.1 148 := acquire.go:54 move
        refine WL.v (by first | exact r_move (v := .int _ _) rfl | exact r_move rfl) rfl rfl rfl ?_
        refine WL.next hK3 (fun _ _ h => h) (i + 1) ⟨hil', by rw [hfs]; exact hBi.abort, by rw [hfs]; exact st⟩ (by omega) (by repeat (first | exact sub_nil _ | refine sub_cons rfl rfl ?_))
      · subst hil
        rw [List.take_length] at hBi st
        have hBw := hBi.wake
        have st := st.dropL
        obtain ⟨s2, hs2⟩ : ∃ s2, s2 = wakeP (Ts.foldl abortP s) := ⟨_, rfl⟩
        have hSm : Sm s s2 := by rw [hs2]; exact (Sm.aborts Ts).trans Sm.wake
        rw [← hs2] at e6 hBw
        rcases Bool.eq_false_or_eq_true (atOnceP s2 t r u) with hat2 | hat2
        · have e : acquireP s (t : Nat) (r : Nat) (u : Nat) tim = (grant1 s2 t r u, 0) := e6.trans (if_pos hat2)
          refine WC.seq fun K726 hK726 => ?_
          -- region 28
          refine WC.region ?_
          -- R28.0 149 := acquire.go:54 binOp
          refine WL.v (by first | exact r_lss rfl rfl (decide_eq_true (by omega)) | exact r_lss rfl rfl (decide_eq_false (by omega)) | exact r_lss rfl rfl rfl) rfl rfl rfl ?_
          refine WL.fin hK726 (fun _ _ h => h) ?_
          refine WC.seq fun K727 hK727 => ?_
          refine WC.condF rfl rfl ?_
          refine WC.exitF hK720 (fun _ _ h => h) ?_
          refine WC.seq fun K728 hK728 => ?_
          -- region 32
          refine WC.region ?_
          -- R32.0 156 := acquire.go:57 move
          refine WL.v (by first | exact r_move (v := .pointer _) rfl | exact r_move rfl) rfl rfl rfl ?_
          -- R32.1 157 := acquire.go:57 call
          refine WL.call (r_call ty_call107 rfl) rfl rfl rfl (wake_ok hBi (by omega) st) ?_
          rintro _ w ⟨rfl, st⟩
          rw [← hs2] at st
          refine WL.fin hK728 (fun _ _ h => h) ?_
          refine WC.seq fun K729 hK729 => ?_
          -- region 33
          refine WC.region ?_
          -- R33.0 158 := acquire.go:58 move
          refine WL.v (by first | exact r_move (v := .pointer _) rfl | exact r_move rfl) rfl rfl rfl ?_
          -- R33.1 159 := acquire.go:58 move
          refine WL.v (by first | exact r_move (v := .int _ _) rfl | exact r_move rfl) rfl rfl rfl ?_
          -- R33.2 160 := acquire.go:58 move
          refine WL.v (by first | exact r_move (v := .int _ _) rfl | exact r_move rfl) rfl rfl rfl ?_
          -- R33.3 161 := acquire.go:58 move
          refine WL.v (by first | exact r_move (v := .int _ _) rfl | exact r_move rfl) rfl rfl rfl ?_
          -- R33.4 162 := acquire.go:58 call
          refine WL.call (r_call ty_call132 rfl) rfl rfl rfl (atOnce_ok ht hr hu16 hBw.held hBw.claim st) ?_
          rintro _ w ⟨he, st⟩
          rw [hat2] at he
          subst he
          refine WL.fin hK729 (fun _ _ h => h) ?_
          refine WC.condT rfl rfl ?_
          refine WC.seq fun K730 hK730 => ?_
          -- region 34
          obtain ⟨Y5, qv5, XQ5, tv5, ov5, V5, st⟩ := st.view
          refine WC.region ?_
          -- R34.0 163 := acquire.go:59 move
          refine WL.v (by first | exact r_move (v := .pointer _) rfl | exact r_move rfl) rfl rfl rfl ?_
          -- R34.1 164 := acquire.go:59 nilCheck
          refine WL.v (by exact r_nilCheck rfl) rfl rfl rfl ?_
          -- R34.2 165 := acquire.go:59 fieldAddr
          refine WL.v (by exact r_field ty_fld120_1 rfl) rfl rfl rfl ?_
          -- R34.3 166 := acquire.go:59 load
          refine WL.v (by exact r_load1 (v := .pointer (some ⟨B.br, 0, none⟩)) ty_one107 rfl (V5.cr st)) rfl rfl rfl ?_
          -- R34.4 167 := acquire.go:59 move
          refine WL.v (by first | exact r_move (v := .int _ _) rfl | exact r_move rfl) rfl rfl rfl ?_
          -- R34.5 168 := acquire.go:59 move
          refine WL.v (by first | exact r_move (v := .int _ _) rfl | exact r_move rfl) rfl rfl rfl ?_
          -- R34.6 169 := acquire.go:59 move
          refine WL.v (by first | exact r_move (v := .int _ _) rfl | exact r_move rfl) rfl rfl rfl ?_
          -- R34.7 170 := acquire.go:59 call
          obtain ⟨Y6, th, back6⟩ := (V5.same st).tab
          refine WL.call (r_call ty_call133 rfl) rfl rfl rfl (grantT_ok ht hr (hBw.held t r) hu16 th) ?_
          rintro _ w ⟨rfl, th⟩
          have st := back6 th
          refine WL.fin hK730 (fun _ _ h => h) ?_
          refine WC.seq fun K731 hK731 => ?_
          -- region 35
          refine WC.region ?_
          -- R35.0 171 := acquire.go:60 move
          refine WL.v (by first | exact r_move (v := .pointer _) rfl | exact r_move rfl) rfl rfl rfl ?_
          -- R35.1 172 := acquire.go:60 call
          refine WL.call (r_call ty_call88 rfl) rfl rfl rfl (done_ok st) ?_
          rintro _ w ⟨ovr, XO, hor, rfl, st⟩
          obtain ⟨ar, cr, br, rfl, -, -, -, -⟩ := hor.form
          obtain ⟨Yr, st, backr⟩ := KH.out (st.perm (List.perm_append_comm_assoc XO [_] l))
          -- R35.2 None := acquire.go:60 store
          first | refine WL.storeW (vs := [_, _, _]) st ty_agg34 rfl rfl rfl rfl rfl rfl ?_ | refine WL.storeL (vs := [_, _, _]) st ty_agg34 rfl rfl rfl rfl (by first | decide | omega) rfl rfl ?_ | refine WL.storeW (vs := [_, _, _]) st.front1 ty_agg34 rfl rfl rfl rfl rfl rfl ?_ | refine WL.storeL (vs := [_, _, _]) st.front1 ty_agg34 rfl rfl rfl rfl (by first | decide | omega) rfl rfl ?_ | refine WL.storeW (vs := [_, _, _]) st.front2 ty_agg34 rfl rfl rfl rfl rfl rfl ?_ | refine WL.storeL (vs := [_, _, _]) st.front2 ty_agg34 rfl rfl rfl rfl (by first | decide | omega) rfl rfl ?_ | refine WL.storeW (vs := [_, _, _]) st.front3 ty_agg34 rfl rfl rfl rfl rfl rfl ?_ | refine WL.storeL (vs := [_, _, _]) st.front3 ty_agg34 rfl rfl rfl rfl (by first | decide | omega) rfl rfl ?_ | refine WL.storeW (vs := [_, _, _]) st.front4 ty_agg34 rfl rfl rfl rfl rfl rfl ?_ | refine WL.storeL (vs := [_, _, _]) st.front4 ty_agg34 rfl rfl rfl rfl (by first | decide | omega) rfl rfl ?_ | refine WL.storeW (vs := [_, _, _]) st.front5 ty_agg34 rfl rfl rfl rfl rfl rfl ?_ | refine WL.storeL (vs := [_, _, _]) st.front5 ty_agg34 rfl rfl rfl rfl (by first | decide | omega) rfl rfl ?_ | refine WL.storeW (vs := [_, _, _]) st.front6 ty_agg34 rfl rfl rfl rfl rfl rfl ?_ | refine WL.storeL (vs := [_, _, _]) st.front6 ty_agg34 rfl rfl rfl rfl (by first | decide | omega) rfl rfl ?_ | refine WL.storeW (vs := [_, _, _]) st.front7 ty_agg34 rfl rfl rfl rfl rfl rfl ?_ | refine WL.storeL (vs := [_, _, _]) st.front7 ty_agg34 rfl rfl rfl rfl (by first | decide | omega) rfl rfl ?_ | refine WL.storeW (vs := [_, _, _]) st.front8 ty_agg34 rfl rfl rfl rfl rfl rfl ?_ | refine WL.storeL (vs := [_, _, _]) st.front8 ty_agg34 rfl rfl rfl rfl (by first | decide | omega) rfl rfl ?_
          intro w st
          refine WL.fin hK731 (fun _ _ h => h) ?_
          refine WC.retC (vs := [_, _, _]) Tryz.results103 (fun _ _ h => h) rfl ty_agg34 rfl ⟨(by first | assumption | exact st.c0 (by first | decide | omega) | exact st.c1 (by first | decide | omega) | exact st.c2 (by first | decide | omega) | exact st.c3 (by first | decide | omega) | exact st.c4 (by first | decide | omega) | exact st.c5 (by first | decide | omega) | exact st.c6 (by first | decide | omega) | exact st.c7 (by first | decide | omega) | exact st.c8 (by first | decide | omega)), (by first | assumption | exact st.c0 (by first | decide | omega) | exact st.c1 (by first | decide | omega) | exact st.c2 (by first | decide | omega) | exact st.c3 (by first | decide | omega) | exact st.c4 (by first | decide | omega) | exact st.c5 (by first | decide | omega) | exact st.c6 (by first | decide | omega) | exact st.c7 (by first | decide | omega) | exact st.c8 (by first | decide | omega)), (by first | assumption | exact st.c0 (by first | decide | omega) | exact st.c1 (by first | decide | omega) | exact st.c2 (by first | decide | omega) | exact st.c3 (by first | decide | omega) | exact st.c4 (by first | decide | omega) | exact st.c5 (by first | decide | omega) | exact st.c6 (by first | decide | omega) | exact st.c7 (by first | decide | omega) | exact st.c8 (by first | decide | omega)), trivial⟩ ?_
          rw [e]
          exact ⟨_, rfl, _, XO, hor, rfl, (backr st).drop⟩
        · have e : acquireP s (t : Nat) (r : Nat) (u : Nat) tim = (enqP s2 t r u tim, 1) := e6.trans (if_neg (by rw [hat2]; decide))
          refine WC.seq fun K732 hK732 => ?_
          -- region 28
          refine WC.region ?_
          -- R28.0 149 := acquire.go:54 binOp
          refine WL.v (by first | exact r_lss rfl rfl (decide_eq_true (by omega)) | exact r_lss rfl rfl (decide_eq_false (by omega)) | exact r_lss rfl rfl rfl) rfl rfl rfl ?_
          refine WL.fin hK732 (fun _ _ h => h) ?_
          refine WC.seq fun K733 hK733 => ?_
          refine WC.condF rfl rfl ?_
          refine WC.exitF hK720 (fun _ _ h => h) ?_
          refine WC.seq fun K734 hK734 => ?_
          -- region 32
          refine WC.region ?_
          -- R32.0 156 := acquire.go:57 move
          refine WL.v (by first | exact r_move (v := .pointer _) rfl | exact r_move rfl) rfl rfl rfl ?_
          -- R32.1 157 := acquire.go:57 call
          refine WL.call (r_call ty_call107 rfl) rfl rfl rfl (wake_ok hBi (by omega) st) ?_
          rintro _ w ⟨rfl, st⟩
          rw [← hs2] at st
          refine WL.fin hK734 (fun _ _ h => h) ?_
          refine WC.seq fun K735 hK735 => ?_
          -- region 33
          refine WC.region ?_
          -- R33.0 158 := acquire.go:58 move
          refine WL.v (by first | exact r_move (v := .pointer _) rfl | exact r_move rfl) rfl rfl rfl ?_
          -- R33.1 159 := acquire.go:58 move
          refine WL.v (by first | exact r_move (v := .int _ _) rfl | exact r_move rfl) rfl rfl rfl ?_
          -- R33.2 160 := acquire.go:58 move
          refine WL.v (by first | exact r_move (v := .int _ _) rfl | exact r_move rfl) rfl rfl rfl ?_
          -- R33.3 161 := acquire.go:58 move
          refine WL.v (by first | exact r_move (v := .int _ _) rfl | exact r_move rfl) rfl rfl rfl ?_
          -- R33.4 162 := acquire.go:58 call
          refine WL.call (r_call ty_call132 rfl) rfl rfl rfl (atOnce_ok ht hr hu16 hBw.held hBw.claim st) ?_
          rintro _ w ⟨he, st⟩
          rw [hat2] at he
          subst he
          refine WL.fin hK735 (fun _ _ h => h) ?_
          refine WC.condF rfl rfl ?_
          refine WC.skipJ hKC (fun _ _ h => h) s2 ⟨hBw.mono (by omega), hSm, e, st⟩ (by repeat (first | exact sub_nil _ | refine sub_cons rfl rfl ?_))
    clear st
    rintro s2 w ⟨hB2, hSm, e, st⟩
    obtain ⟨Y7, qv7, XQ7, tv7, ov7, V7, st⟩ := st.view
    have hnn2 := hB2.nn
    have hql := q_len_le (queue := s2.queue) hr
    refine WC.seq fun K736 hK736 => ?_
    -- region 36
    refine WC.region ?_
    -- R36.0 173 := acquire.go:63 move
    refine WL.v (by first | exact r_move (v := .pointer _) rfl | exact r_move rfl) rfl rfl rfl ?_
    -- R36.1 174 := acquire.go:63 nilCheck
    refine WL.v (by exact r_nilCheck rfl) rfl rfl rfl ?_
    -- R36.2 175 := acquire.go:63 fieldAddr
    refine WL.v (by exact r_field ty_fld120_1 rfl) rfl rfl rfl ?_
    -- R36.3 176 := acquire.go:63 load
    refine WL.v (by exact r_load1 (v := .pointer (some ⟨B.br, 0, none⟩)) ty_one107 rfl (V7.cr st)) rfl rfl rfl ?_
    -- R36.4 177 := acquire.go:63 move
    refine WL.v (by first | exact r_move (v := .int _ _) rfl | exact r_move rfl) rfl rfl rfl ?_
    -- R36.5 178 := acquire.go:63 move
    refine WL.v (by first | exact r_move (v := .int _ _) rfl | exact r_move rfl) rfl rfl rfl ?_
    -- R36.6 179 := acquire.go:63 move
    refine WL.v (by first | exact r_move (v := .int _ _) rfl | exact r_move rfl) rfl rfl rfl ?_
    -- R36.7 180 := acquire.go:63 call
    obtain ⟨Y8, th, back8⟩ := (V7.same st).tab
    refine WL.call (r_call ty_call137 rfl) rfl rfl rfl (enqueue_ok (t := t) (u := u) hr (by omega) th) ?_
    rintro _ w ⟨rfl, th⟩
    have st := back8 th
    obtain ⟨ov9, Y9, st, back9⟩ := st.ker
    refine WL.fin hK736 (fun _ _ h => h) ?_
    refine WC.seq fun K737 hK737 => ?_
    -- region 37
    refine WC.region ?_
    -- R37.0 181 := acquire.go:64 move
    refine WL.v (by first | exact r_move (v := .pointer _) rfl | exact r_move rfl) rfl rfl rfl ?_
    -- R37.1 182 := acquire.go:64 move
    refine WL.v (by first | exact r_move (v := .int _ _) rfl | exact r_move rfl) rfl rfl rfl ?_
    -- R37.2 183 := acquire.go:64 nilCheck
    refine WL.v (by exact r_nilCheck rfl) rfl rfl rfl ?_
    -- R37.3 184 := acquire.go:64 fieldAddr
    refine WL.v (by exact r_field ty_fld120_3 rfl) rfl rfl rfl ?_
    -- R37.4 185 := acquire.go:64 indexAddr
    refine WL.v (by exact r_indexA ty_ar118 rfl rfl rfl (by omega)) rfl rfl rfl ?_
    -- R37.5 22 := acquire.go:64 assign
    refine WL.v (by first | exact r_assign (v := .pointer _) rfl | exact r_assign rfl) rfl rfl rfl ?_
    refine WL.fin hK737 (fun _ _ h => h) ?_
    refine WC.seq fun K738 hK738 => ?_
    -- region 38
    refine WC.region ?_
    -- R38.0 186 := acquire.go:65 move
    refine WL.v (by first | exact r_move (v := .pointer _) rfl | exact r_move rfl) rfl rfl rfl ?_
    -- R38.1 187 := acquire.go:65 nilCheck
    refine WL.v (by exact r_nilCheck rfl) rfl rfl rfl ?_
    -- R38.2 188 := acquire.go:65 fieldAddr
    refine WL.v (by exact r_field ty_fld117_3 rfl) rfl rfl rfl ?_
    -- R38.3 None := acquire.go:65 store
    refine WL.store (v := .bool true) st ty_one4 rfl rfl rfl (by omega) rfl rfl ?_
    intro w st
    have st := stE (kF_setT' (T' := { s2.tk t with waiting := true }) (j := 3) ht (by decide) (by omega) (low7 (T := s2.tk t) (T' := { s2.tk t with waiting := true }) (j := 3) (fun i h1 h2 => by match i with | 0 | 1 | 2 | 4 | 5 | 6 => rfl | 3 => exact absurd rfl h2 | i + 7 => omega) rfl rfl (by decide))) st
    have st : KH w0 B (enq1 s2 t r u) (zR b12 :: l) w := back9 st
    refine WL.fin hK738 (fun _ _ h => h) ?_
    refine WC.seq fun K739 hK739 => ?_
    refine WC.seq fun K740 hK740 => ?_
    -- region 39
    refine WC.region ?_
    -- R39.0 189 := acquire.go:66 move
    refine WL.v (by first | exact r_move (v := .bool _) rfl | exact r_move rfl) rfl rfl rfl ?_
    refine WL.fin hK740 (fun _ _ h => h) ?_
    cases timed
    · obtain rfl : tim = none := htim
      refine WC.condF rfl rfl ?_
      refine WC.skipF hK739 (fun _ _ h => h) ?_
      refine WC.seq fun K741 hK741 => ?_
      -- region 42
      refine WC.region ?_
      -- R42.0 208 := acquire.go:70 move
      refine WL.v (by first | exact r_move (v := .pointer _) rfl | exact r_move rfl) rfl rfl rfl ?_
      -- R42.1 209 := acquire.go:70 call
      refine WL.call (r_call ty_call88 rfl) rfl rfl rfl (done_ok st) ?_
      rintro _ w ⟨ovr, XO, hor, rfl, st⟩
      obtain ⟨ar, cr, br, rfl, -, -, -, -⟩ := hor.form
      obtain ⟨Yr, st, backr⟩ := KH.out (st.perm (List.perm_append_comm_assoc XO [_] l))
      -- R42.2 None := acquire.go:70 store
      first | refine WL.storeW (vs := [_, _, _]) st ty_agg34 rfl rfl rfl rfl rfl rfl ?_ | refine WL.storeL (vs := [_, _, _]) st ty_agg34 rfl rfl rfl rfl (by first | decide | omega) rfl rfl ?_ | refine WL.storeW (vs := [_, _, _]) st.front1 ty_agg34 rfl rfl rfl rfl rfl rfl ?_ | refine WL.storeL (vs := [_, _, _]) st.front1 ty_agg34 rfl rfl rfl rfl (by first | decide | omega) rfl rfl ?_ | refine WL.storeW (vs := [_, _, _]) st.front2 ty_agg34 rfl rfl rfl rfl rfl rfl ?_ | refine WL.storeL (vs := [_, _, _]) st.front2 ty_agg34 rfl rfl rfl rfl (by first | decide | omega) rfl rfl ?_ | refine WL.storeW (vs := [_, _, _]) st.front3 ty_agg34 rfl rfl rfl rfl rfl rfl ?_ | refine WL.storeL (vs := [_, _, _]) st.front3 ty_agg34 rfl rfl rfl rfl (by first | decide | omega) rfl rfl ?_ | refine WL.storeW (vs := [_, _, _]) st.front4 ty_agg34 rfl rfl rfl rfl rfl rfl ?_ | refine WL.storeL (vs := [_, _, _]) st.front4 ty_agg34 rfl rfl rfl rfl (by first | decide | omega) rfl rfl ?_ | refine WL.storeW (vs := [_, _, _]) st.front5 ty_agg34 rfl rfl rfl rfl rfl rfl ?_ | refine WL.storeL (vs := [_, _, _]) st.front5 ty_agg34 rfl rfl rfl rfl (by first | decide | omega) rfl rfl ?_ | refine WL.storeW (vs := [_, _, _]) st.front6 ty_agg34 rfl rfl rfl rfl rfl rfl ?_ | refine WL.storeL (vs := [_, _, _]) st.front6 ty_agg34 rfl rfl rfl rfl (by first | decide | omega) rfl rfl ?_ | refine WL.storeW (vs := [_, _, _]) st.front7 ty_agg34 rfl rfl rfl rfl rfl rfl ?_ | refine WL.storeL (vs := [_, _, _]) st.front7 ty_agg34 rfl rfl rfl rfl (by first | decide | omega) rfl rfl ?_ | refine WL.storeW (vs := [_, _, _]) st.front8 ty_agg34 rfl rfl rfl rfl rfl rfl ?_ | refine WL.storeL (vs := [_, _, _]) st.front8 ty_agg34 rfl rfl rfl rfl (by first | decide | omega) rfl rfl ?_
      intro w st
      refine WL.fin hK741 (fun _ _ h => h) ?_
      refine WC.retC (vs := [_, _, _]) Tryz.results103 (fun _ _ h => h) rfl ty_agg34 rfl ⟨(by first | assumption | exact st.c0 (by first | decide | omega) | exact st.c1 (by first | decide | omega) | exact st.c2 (by first | decide | omega) | exact st.c3 (by first | decide | omega) | exact st.c4 (by first | decide | omega) | exact st.c5 (by first | decide | omega) | exact st.c6 (by first | decide | omega) | exact st.c7 (by first | decide | omega) | exact st.c8 (by first | decide | omega)), (by first | assumption | exact st.c0 (by first | decide | omega) | exact st.c1 (by first | decide | omega) | exact st.c2 (by first | decide | omega) | exact st.c3 (by first | decide | omega) | exact st.c4 (by first | decide | omega) | exact st.c5 (by first | decide | omega) | exact st.c6 (by first | decide | omega) | exact st.c7 (by first | decide | omega) | exact st.c8 (by first | decide | omega)), (by first | assumption | exact st.c0 (by first | decide | omega) | exact st.c1 (by first | decide | omega) | exact st.c2 (by first | decide | omega) | exact st.c3 (by first | decide | omega) | exact st.c4 (by first | decide | omega) | exact st.c5 (by first | decide | omega) | exact st.c6 (by first | decide | omega) | exact st.c7 (by first | decide | omega) | exact st.c8 (by first | decide | omega)), trivial⟩ ?_
      rw [e]
      exact ⟨_, rfl, _, XO, hor, rfl, (backr st).drop⟩
    · obtain rfl : tim = some ticks := htim
      obtain ⟨Y10, qv10, XQ10, tv10, ov10, V10, st⟩ := st.view
      have hsn : s2.now = s.now := hSm.now
      have hsa : s2.armed = s.armed := hSm.armed
      have htn2 := hB2.tn
      refine WC.condT rfl rfl ?_
      refine WC.seq fun K742 hK742 => ?_
      -- region 40
      refine WC.region ?_
      -- R40.0 190 := acquire.go:67 move
      refine WL.v (by first | exact r_move (v := .pointer _) rfl | exact r_move rfl) rfl rfl rfl ?_
      -- R40.1 191 := acquire.go:67 nilCheck
      refine WL.v (by exact r_nilCheck rfl) rfl rfl rfl ?_
      -- R40.2 192 := acquire.go:67 fieldAddr
      refine WL.v (by exact r_field ty_fld120_0 rfl) rfl rfl rfl ?_
      -- R40.3 193 := acquire.go:67 load
      refine WL.v (by exact r_load1 (v := .pointer (some ⟨B.bm, 0, none⟩)) ty_one105 rfl (V10.cm st)) rfl rfl rfl ?_
      -- R40.4 194 := acquire.go:67 move
      refine WL.v (by first | exact r_move (v := .int _ _) rfl | exact r_move rfl) rfl rfl rfl ?_
      -- R40.5 195 := acquire.go:67 move
      refine WL.v (by first | exact r_move (v := .int _ _) rfl | exact r_move rfl) rfl rfl rfl ?_
      -- R40.6 196 := acquire.go:67 convert
      refine WL.v (by exact r_conv (r := ((t : Nat) : Int)) ty_cv31_26 rfl (wu64 (by omega) (by omega))) rfl rfl rfl ?_
      -- R40.7 197 := acquire.go:67 call
      obtain ⟨Y11, mh, back11⟩ := (V10.same st).mach
      refine WL.call (r_call ty_call138 rfl) rfl rfl rfl (armAfter_ok (ticks := ticks) (cookie := t) (by show s2.now < _; omega) htk (by show s2.armed < _; omega) (by show s2.timers.length ≤ _; omega) mh) ?_
      rintro _ w ⟨rfl, mh⟩
      have st := back11 (I := []) mh
      obtain ⟨Y12, qv12, XQ12, tv12, ov12, V12, st⟩ := st.view
      -- R40.8 23 := acquire.go:67 alloc
      refine WL.alloc (m := 3) st ty_zero164 rfl rfl rfl ?_
      intro b23 w st
      -- R40.9 None := acquire.go:67 store
      refine WL.storeW (vs := [.int .u64 ((s2.armed + 1 : Nat) : Int), .int .u64 (deadP s2.now ticks : Nat), .int .u64 (t : Nat)]) st ty_agg164 rfl rfl rfl rfl rfl rfl ?_
      intro w st
      have st := V12.back (I := [_]) st
      obtain ⟨ov13, Y13, hl13, st, back13⟩ := st.ker2
      have hm23 := hl13 List.mem_cons_self
      refine WL.fin hK742 (fun _ _ h => h) ?_
      -- region 41 (draws)
      refine WC.heldS [9, 10, 11] [0, 1, 2, 3, 4, 5, 6, 7] [8, 9, 10, 11] st (st.drop) ty_mixed (by kernel_rfl) fun w st Kq hKq => ?_
      -- R41.0 198 := acquire.go:68 move
      refine HL.v (fun w st => by first | exact r_move (v := .pointer _) rfl | exact r_move rfl) rfl rfl rfl ?_
      -- R41.1 199 := acquire.go:68 move
      refine HL.v (fun w st => by first | exact r_move (v := .pointer _) rfl | exact r_move rfl) rfl rfl rfl ?_
      -- R41.2 200 := acquire.go:68 fieldAddr
      refine HL.v (fun w st => by exact r_field ty_fld164_0 rfl) rfl rfl rfl ?_
      -- R41.3 201 := acquire.go:68 load
      refine HL.v (fun w st => by exact r_load1 (v := .int .u64 ((s2.armed + 1 : Nat) : Int)) ty_one26 rfl (st.cell hm23 (by decide))) rfl rfl rfl ?_
      -- R41.4 202 := acquire.go:68 fieldAddr
      refine HL.v (fun w st => by exact r_field ty_fld164_1 rfl) rfl rfl rfl ?_
      -- R41.5 203 := acquire.go:68 load
      refine HL.v (fun w st => by exact r_load1 (v := .int .u64 (deadP s2.now ticks : Nat)) ty_one26 rfl (st.cell hm23 (by decide))) rfl rfl rfl ?_
      -- R41.6 204 := acquire.go:68 nilCheck
      refine HL.v (fun w st => by exact r_nilCheck rfl) rfl rfl rfl ?_
      -- R41.7 205 := acquire.go:68 fieldAddr
      refine HL.v (fun w st => by exact r_field ty_fld117_4 rfl) rfl rfl rfl ?_
      refine HL.fin hKq ?_
      refine TL.at ?_
      -- R41.8 None := acquire.go:68 store
      refine WL.store (v := .int .u64 ((s2.armed + 1 : Nat) : Int)) st ty_one26 rfl rfl rfl (by omega) rfl rfl ?_
      intro w st
      have st := stE (kF_setT' (T' := { s2.tk t with waiting := true, timer := s2.armed + 1 }) (j := 4) ht (by decide) (by omega) (fun i hi => by show tkF _ i = if i = 4 then _ else tkF (updN s2.tk t { s2.tk t with waiting := true } t) i; rw [updN_same]; exact low7 (T := { s2.tk t with waiting := true }) (T' := { s2.tk t with waiting := true, timer := s2.armed + 1 }) (j := 4) (fun i h1 h2 => by match i with | 0 | 1 | 2 | 3 | 5 | 6 => rfl | 4 => exact absurd rfl h2 | i + 7 => omega) rfl rfl (by decide) i hi)) st
      refine TL.nxt (st.drop) ?_
      refine TL.at ?_
      -- R41.9 206 := acquire.go:68 nilCheck
      refine WL.v (by exact r_nilCheck rfl) rfl rfl rfl ?_
      refine TL.nxt' rfl ?_
      refine TL.at ?_
      -- R41.10 207 := acquire.go:68 fieldAddr
      refine WL.v (by exact r_field ty_fld117_5 rfl) rfl rfl rfl ?_
      refine TL.nxt' rfl ?_
      refine TL.at ?_
      -- R41.11 None := acquire.go:68 store
      refine WL.store (v := .int .u64 (deadP s2.now ticks : Nat)) st ty_one26 rfl rfl rfl (by omega) rfl rfl ?_
      intro w st
      have st := stE (kF_setT' (T' := { s2.tk t with waiting := true, timer := s2.armed + 1, deadline := deadP s2.now ticks }) (j := 5) ht (by decide) (by omega) (fun i hi => by rw [updN_same]; exact low7 (T := { s2.tk t with waiting := true, timer := s2.armed + 1 }) (T' := { s2.tk t with waiting := true, timer := s2.armed + 1, deadline := deadP s2.now ticks }) (j := 5) (fun i h1 h2 => by match i with | 0 | 1 | 2 | 3 | 4 | 6 => rfl | 5 => exact absurd rfl h2 | i + 7 => omega) rfl rfl (by decide) i hi)) st
      rw [updN_updN] at st
      have st := (back13 st).drop
      have e0 : (enq1 s2 t r u).tk t = { s2.tk t with waiting := true } := updN_same
      have st : KH w0 B (enqP s2 t r u (some ticks)) (zR b12 :: l) w := by unfold enqP arm1; rw [e0]; exact st
      refine TL.nxt' rfl ?_
      refine TL.wl ?_
      refine WL.fin hK739 (fun _ _ h => h) ?_
      refine WC.seq fun K743 hK743 => ?_
      -- region 42
      refine WC.region ?_
      -- R42.0 208 := acquire.go:70 move
      refine WL.v (by first | exact r_move (v := .pointer _) rfl | exact r_move rfl) rfl rfl rfl ?_
      -- R42.1 209 := acquire.go:70 call
      refine WL.call (r_call ty_call88 rfl) rfl rfl rfl (done_ok st) ?_
      rintro _ w ⟨ovr, XO, hor, rfl, st⟩
      obtain ⟨ar, cr, br, rfl, -, -, -, -⟩ := hor.form
      obtain ⟨Yr, st, backr⟩ := KH.out (st.perm (List.perm_append_comm_assoc XO [_] l))
      -- R42.2 None := acquire.go:70 store
      first | refine WL.storeW (vs := [_, _, _]) st ty_agg34 rfl rfl rfl rfl rfl rfl ?_ | refine WL.storeL (vs := [_, _, _]) st ty_agg34 rfl rfl rfl rfl (by first | decide | omega) rfl rfl ?_ | refine WL.storeW (vs := [_, _, _]) st.front1 ty_agg34 rfl rfl rfl rfl rfl rfl ?_ | refine WL.storeL (vs := [_, _, _]) st.front1 ty_agg34 rfl rfl rfl rfl (by first | decide | omega) rfl rfl ?_ | refine WL.storeW (vs := [_, _, _]) st.front2 ty_agg34 rfl rfl rfl rfl rfl rfl ?_ | refine WL.storeL (vs := [_, _, _]) st.front2 ty_agg34 rfl rfl rfl rfl (by first | decide | omega) rfl rfl ?_ | refine WL.storeW (vs := [_, _, _]) st.front3 ty_agg34 rfl rfl rfl rfl rfl rfl ?_ | refine WL.storeL (vs := [_, _, _]) st.front3 ty_agg34 rfl rfl rfl rfl (by first | decide | omega) rfl rfl ?_ | refine WL.storeW (vs := [_, _, _]) st.front4 ty_agg34 rfl rfl rfl rfl rfl rfl ?_ | refine WL.storeL (vs := [_, _, _]) st.front4 ty_agg34 rfl rfl rfl rfl (by first | decide | omega) rfl rfl ?_ | refine WL.storeW (vs := [_, _, _]) st.front5 ty_agg34 rfl rfl rfl rfl rfl rfl ?_ | refine WL.storeL (vs := [_, _, _]) st.front5 ty_agg34 rfl rfl rfl rfl (by first | decide | omega) rfl rfl ?_ | refine WL.storeW (vs := [_, _, _]) st.front6 ty_agg34 rfl rfl rfl rfl rfl rfl ?_ | refine WL.storeL (vs := [_, _, _]) st.front6 ty_agg34 rfl rfl rfl rfl (by first | decide | omega) rfl rfl ?_ | refine WL.storeW (vs := [_, _, _]) st.front7 ty_agg34 rfl rfl rfl rfl rfl rfl ?_ | refine WL.storeL (vs := [_, _, _]) st.front7 ty_agg34 rfl rfl rfl rfl (by first | decide | omega) rfl rfl ?_ | refine WL.storeW (vs := [_, _, _]) st.front8 ty_agg34 rfl rfl rfl rfl rfl rfl ?_ | refine WL.storeL (vs := [_, _, _]) st.front8 ty_agg34 rfl rfl rfl rfl (by first | decide | omega) rfl rfl ?_
      intro w st
      refine WL.fin hK743 (fun _ _ h => h) ?_
      refine WC.retC (vs := [_, _, _]) Tryz.results103 (fun _ _ h => h) rfl ty_agg34 rfl ⟨(by first | assumption | exact st.c0 (by first | decide | omega) | exact st.c1 (by first | decide | omega) | exact st.c2 (by first | decide | omega) | exact st.c3 (by first | decide | omega) | exact st.c4 (by first | decide | omega) | exact st.c5 (by first | decide | omega) | exact st.c6 (by first | decide | omega) | exact st.c7 (by first | decide | omega) | exact st.c8 (by first | decide | omega)), (by first | assumption | exact st.c0 (by first | decide | omega) | exact st.c1 (by first | decide | omega) | exact st.c2 (by first | decide | omega) | exact st.c3 (by first | decide | omega) | exact st.c4 (by first | decide | omega) | exact st.c5 (by first | decide | omega) | exact st.c6 (by first | decide | omega) | exact st.c7 (by first | decide | omega) | exact st.c8 (by first | decide | omega)), (by first | assumption | exact st.c0 (by first | decide | omega) | exact st.c1 (by first | decide | omega) | exact st.c2 (by first | decide | omega) | exact st.c3 (by first | decide | omega) | exact st.c4 (by first | decide | omega) | exact st.c5 (by first | decide | omega) | exact st.c6 (by first | decide | omega) | exact st.c7 (by first | decide | omega) | exact st.c8 (by first | decide | omega)), trivial⟩ ?_
      rw [e]
      exact ⟨_, rfl, _, XO, hor, rfl, (backr st).drop⟩
end Go.Proofs.Qxb6500834aGreatDoor

