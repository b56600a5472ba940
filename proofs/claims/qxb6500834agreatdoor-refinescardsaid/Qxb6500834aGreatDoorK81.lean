import Derived.Test.Qxb6500834aGreatDoorK80
set_option linter.unusedVariables false
set_option linter.unusedSimpArgs false
set_option maxRecDepth 20000
namespace Go.Proofs.Qxb6500834aGreatDoor
open Go.RowKit Go.E1 Go.Kern
theorem ty_call121 : callT Tryz.prog 121 = true := by kernel_rfl
theorem ty_call122 : callT Tryz.prog 122 = true := by kernel_rfl
theorem ty_call157 : callT Tryz.prog 157 = true := by kernel_rfl
theorem ty_call158 : callT Tryz.prog 158 = true := by kernel_rfl
theorem ty_fld102_2 : fldOff Tryz.prog 102 2 = some 2 := by kernel_rfl
theorem ty_fld98_13 : fldOff Tryz.prog 98 13 = some 737 := by kernel_rfl
theorem ty_fld98_6 : fldOff Tryz.prog 98 6 = some 36 := by kernel_rfl
variable {w0 : World} {l X : List HI} {w : World} {s s' s0 : KS} {t r N n : Nat} {qv qv' : Nat → Value}
variable {P : List PQ} {m : MR} {pv tv v : Value} {mb : Nat → Nat} {bm : Nat} {T : List (Nat × Nat × Nat)} {O : Nat → Nat → Option Nat} {held claim : Nat → Nat → Nat}

/-! The model's memory whole. -/
def MW (w0 : World) (bm : Nat) (mb : Nat → Nat) (m : MR) (O : Nat → Nat → Option Nat) (P : List PQ) (T : List (Nat × Nat × Nat)) (l : List HI) (w : World) : Prop :=
  ∃ pv XP tv XO, PL0 pv P XP ∧ OL0 tv T XO ∧ S0 w0 (moI bm m pv tv mb :: (XP ++ (XO ++ (mpI mb O ++ l)))) w
theorem MW.perm {l' : List HI} (h : MW w0 bm mb m O P T l w) (p : l.Perm l') : MW w0 bm mb m O P T l' w := by
  obtain ⟨pv, XP, tv, XO, hp, ho, st⟩ := h
  exact ⟨pv, XP, tv, XO, hp, ho, st.perm ((((p.append_left _).append_left _).append_left _).cons _)⟩
theorem MW.drop {a : HI} (h : MW w0 bm mb m O P T (a :: l) w) : MW w0 bm mb m O P T l w := by
  obtain ⟨pv, XP, tv, XO, hp, ho, st⟩ := h
  exact ⟨pv, XP, tv, XO, hp, ho, (st.perm ((by classical exact List.perm_iff_count.2 fun x => by simp only [List.count_append, List.count_cons, List.count_nil, List.append_eq, List.cons_append, List.nil_append, List.append_assoc, Nat.add_zero, Nat.zero_add] <;> ac_rfl) : (moI bm m pv tv mb :: (XP ++ (XO ++ (mpI mb O ++ (a :: l))))).Perm (a :: (moI bm m pv tv mb :: (XP ++ (XO ++ (mpI mb O ++ l))))))).drop⟩
abbrev MK (w0 : World) (bm : Nat) (mb : Nat → Nat) (s : KS) (P : List PQ) (l : List HI) (w : World) : Prop := MW w0 bm mb (mrOf s) (odF s) P s.told l w
set_option maxHeartbeats 2000000 in
theorem tell_ok {code : Nat} (ht : t < 16) (hT : T.length ≤ 1000000) (st : MW w0 bm mb m O P T l w) :
    Calls Tryz.prog 122 #[.pointer (some ⟨bm, 0, none⟩), .int .i64 (t : Nat), .int .i64 (code : Nat)] w (Ret fun v w' => v = .tuple #[] ∧ MW w0 bm mb m O P (T ++ [(t, m.epoch t, code)]) l w') := by
  obtain ⟨pv, XP, tv, XO, hp, ho, st⟩ := st
  have st : S0 w0 (XO ++ (moI bm m pv tv mb :: (XP ++ (mpI mb O ++ l)))) w := st.perm (by classical exact List.perm_iff_count.2 fun x => by simp only [List.count_append, List.count_cons, List.count_nil, List.append_eq, List.cons_append, List.nil_append, List.append_assoc, Nat.add_zero, Nat.zero_add] <;> ac_rfl)
  refine enter [.pointer (some ⟨bm, 0, none⟩), .int .i64 (t : Nat), .int .i64 (code : Nat)] Tryz.func122 rfl Tryz.ntmps122 rfl ?_
  show WC _ _ _ 24 [] [(0, .pointer (some ⟨bm, 0, none⟩)), (1, .int .i64 (t : Nat)), (2, .int .i64 (code : Nat))] _
  -- region 0 (draws)
  refine WC.heldS2 [15, 16, 17, 18] [1, 2, 3, 4, 6, 7, 8, 9, 10, 11] [0, 5, 12, 13] [14, 15, 16, 17, 18] st (st) ty_mixed (by kernel_rfl) fun w st Kq Kq2 hKq hKq2 => ?_
  -- R0.1 7 := model.go:234 move
  refine HL.v (fun w st => by first | exact r_move (v := .pointer _) rfl | exact r_move rfl) rfl rfl rfl ?_
  -- R0.2 8 := model.go:234 nilCheck
  refine HL.v (fun w st => by exact r_nilCheck rfl) rfl rfl rfl ?_
  -- R0.3 9 := model.go:234 fieldAddr
  refine HL.v (fun w st => by exact r_field ty_fld98_13 rfl) rfl rfl rfl ?_
  -- R0.4 10 := model.go:234 load
  refine HL.v (fun w st => by exact r_load1 (v := tv) ty_one32 rfl (c_m (List.mem_append_right XO List.mem_cons_self) (by decide) rfl st)) rfl rfl rfl ?_
  -- R0.6 12 := model.go:234 move
  refine HL.v (fun w st => by first | exact r_move (v := .pointer _) rfl | exact r_move rfl) rfl rfl rfl ?_
  -- R0.7 13 := model.go:234 move
  refine HL.v (fun w st => by first | exact r_move (v := .int _ _) rfl | exact r_move rfl) rfl rfl rfl ?_
  -- R0.8 14 := model.go:234 nilCheck
  refine HL.v (fun w st => by exact r_nilCheck rfl) rfl rfl rfl ?_
  -- R0.9 15 := model.go:234 fieldAddr
  refine HL.v (fun w st => by exact r_field ty_fld98_6 rfl) rfl rfl rfl ?_
  -- R0.10 16 := model.go:234 indexAddr
  refine HL.v (fun w st => by exact r_indexA (j := t) ty_ar81 rfl rfl rfl ht) rfl rfl rfl ?_
  -- R0.11 17 := model.go:234 load
  refine HL.v (fun w st => by exact r_load1 (v := .int .u64 (m.epoch t : Nat)) ty_one26 rfl (c_mepoch (List.mem_append_right XO List.mem_cons_self) ht (by omega) st)) rfl rfl rfl ?_
  refine HL.pure hKq ?_
  -- R0.0 6 := model.go:234 move
  refine HL.v (fun w _ => by first | exact r_move (v := .pointer _) rfl | exact r_move rfl) rfl rfl rfl ?_
  -- R0.5 11 := model.go:234 move
  refine HL.v (fun w _ => by first | exact r_move (v := .int _ _) rfl | exact r_move rfl) rfl rfl rfl ?_
  -- R0.12 18 := model.go:234 move
  refine HL.v (fun w _ => by first | exact r_move (v := .int _ _) rfl | exact r_move rfl) rfl rfl rfl ?_
  -- R0.13 19 := model.go:234 build
  refine HL.v (fun w _ => by exact r_build (ps := [(0, .int _ _), (1, .int _ _), (2, .int _ _)]) (vs := [_, _, _]) ty_pl83 ty_zero83 rfl (fill_step (pv := [_]) (cs' := [_, _, _]) rfl rfl rfl rfl (fill_step (pv := [_]) (cs' := [_, _, _]) rfl rfl rfl rfl (fill_step (pv := [_]) (cs' := [_, _, _]) rfl rfl rfl rfl (fill_nil))))) rfl rfl rfl ?_
  refine HL.fin hKq2 ?_
  refine TL.at ?_
  -- R0.14 20 := model.go:234 buildSlice
  first | refine WL.mkslice (m := 3) (vs := [.int _ _, .int _ _, .int _ _]) st ty_sl32 ty_zero83 rfl rfl rfl rfl rfl rfl ?_ | refine WL.mkslice (m := 3) (vs := [_, _, _]) st ty_sl32 ty_zero83 rfl rfl rfl rfl rfl rfl ?_ | refine WL.mkslice st ty_sl32 ty_zero83 rfl rfl rfl rfl rfl rfl ?_
  intro b20 w st
  refine TL.nxt (by first | exact st | exact st.drop | exact st.drop1 | exact st.drop2 | exact st.drop3 | exact st.drop4 | exact st.drop.drop | exact st.drop.drop1 | exact st.drop.drop2 | exact st.drop.drop3 | exact st.drop.drop4 | exact st.drop.drop.drop | exact st.drop.drop.drop.drop | exact st_dropL st | exact st_dropL st.drop | exact st_none st) ?_
  refine TL.at ?_
  -- R0.15 21 := model.go:234 call
  have c0 : ∀ k, k < 3 → w.cell? ⟨b20, 0 + k, none⟩ = some (oE (t, m.epoch t, code) k) := fun k hk => by rw [st.c0 (by omega), Nat.zero_add]; rfl
  refine WL.appL (bx := b20) (ox := 0) (a := (t, m.epoch t, code)) ho (st.perm (List.perm_append_comm_assoc [_] XO _)) ty_mk32 ty_zero83 rfl (by decide) rfl rfl c0 oE_one (by omega) (by omega) rfl rfl rfl ?_
  intro v' X' w ho st
  obtain ⟨a', c', b', rfl, -, -, -, -⟩ := ho.form
  have st := (st.perm (List.perm_append_comm_assoc X' [_] _)).drop
  have st := st.perm (List.perm_append_comm_assoc X' [_] _)
  refine TL.nxt' rfl ?_
  refine TL.at ?_
  -- R0.16 22 := model.go:234 nilCheck
  refine WL.v (by exact r_nilCheck rfl) rfl rfl rfl ?_
  refine TL.nxt' rfl ?_
  refine TL.at ?_
  -- R0.17 23 := model.go:234 fieldAddr
  refine WL.v (by exact r_field ty_fld98_13 rfl) rfl rfl rfl ?_
  refine TL.nxt' rfl ?_
  refine TL.at ?_
  -- R0.18 None := model.go:234 store
  refine WL.store (v := .slice a' _ c') st ty_one32 rfl rfl rfl (by decide) rfl rfl ?_
  intro w st
  have st := stE mw_told st
  refine TL.nxt' rfl ?_
  refine TL.wl ?_
  refine WL.end0 Tryz.results122 (fun _ _ h => h) ?_
  exact ⟨_, rfl, rfl, pv, XP, _, X', hp, ho, st.perm (by classical exact List.perm_iff_count.2 fun x => by simp only [List.count_append, List.count_cons, List.count_nil, List.append_eq, List.cons_append, List.nil_append, List.append_assoc, Nat.add_zero, Nat.zero_add] <;> ac_rfl)⟩
theorem mr_answer {c : Nat} : mrOf (answerP s t c) = mrOf s := by
  have hk : ∀ a, ((answerP s t c).tk a).live = (s.tk a).live ∧ ((answerP s t c).tk a).birth = (s.tk a).birth ∧ ((answerP s t c).tk a).epoch = (s.tk a).epoch ∧ ((answerP s t c).tk a).n = (s.tk a).n := fun a => by
    show (updN s.tk t _ a).live = _ ∧ (updN s.tk t _ a).birth = _ ∧ (updN s.tk t _ a).epoch = _ ∧ (updN s.tk t _ a).n = _
    unfold updN
    split
    · rename_i e; rw [e]; exact ⟨rfl, rfl, rfl, rfl⟩
    · exact ⟨rfl, rfl, rfl, rfl⟩
  unfold mrOf
  rw [show (fun a => ((answerP s t c).tk a).live) = fun a => (s.tk a).live from funext fun a => (hk a).1, show (fun a => ((answerP s t c).tk a).birth) = fun a => (s.tk a).birth from funext fun a => (hk a).2.1, show (fun a => ((answerP s t c).tk a).epoch) = fun a => (s.tk a).epoch from funext fun a => (hk a).2.2.1, show (fun a => ((answerP s t c).tk a).n) = fun a => (s.tk a).n from funext fun a => (hk a).2.2.2]
  rfl
theorem od_answer {c : Nat} : odF (answerP s t c) = odF s := by
  funext a b
  refine od_upd (s := s) (s' := answerP s t c) (f := odF s) rfl (fun d => ?_) (fun _ _ _ => rfl) a b
  exact old_eq rfl rfl rfl
theorem ans_other {c a : Nat} (h : a ≠ t) : ((answerP s t c).tk a).deadline = (s.tk a).deadline ∧ ((answerP s t c).tk a).timer = (s.tk a).timer := by
  show (updN s.tk t _ a).deadline = _ ∧ (updN s.tk t _ a).timer = _
  rw [updN_ne h]; exact ⟨rfl, rfl⟩
theorem RelP.grant {q : Nat × Nat} {Q : List (Nat × Nat)} (h : RelP s P) (hi : INV s) (hr : r < 20) (hQ : s.queue r = q :: Q) : RelP (answerP (grantS s r q Q) q.1 0) (noT P q.1) :=
  h.del (t := q.1) (fun b hb => grant_filter hi hr hQ b hb) (fun a ha => ans_other (s := grantS s r q Q) ha)
/-! The first of those that wait for a resource. -/
def fiX (P : List PQ) (r : Nat) : Int := match P.findIdx? (fun p => p.r == r) with | some i => i | none => -1
theorem fiX_none (h : ∀ p, p ∈ P → p.r ≠ r) : fiX P r = -1 := by
  unfold fiX
  rw [List.findIdx?_eq_none_iff.2 fun p hp => by simpa using h p hp]
theorem fiX_some {i : Nat} {p : PQ} (h1 : P[i]? = some p) (h2 : p.r = r) (h3 : ∀ k x, k < i → P[k]? = some x → x.r ≠ r) : fiX P r = i := by
  unfold fiX
  obtain ⟨hi, e⟩ := List.getElem?_eq_some_iff.1 h1
  rw [List.findIdx?_eq_some_iff_getElem.2 ⟨hi, by rw [e]; simpa using h2, fun j hj => ?_⟩]
  have hj' : j < P.length := by omega
  have := h3 j P[j] hj (List.getElem?_eq_getElem hj')
  simpa using this
theorem first_ok {XP : List HI} (hm : moI bm m pv tv mb ∈ l) (hp : PL0 pv P XP) (hX : XP ⊆ l) (st : S0 w0 l w) :
    Calls Tryz.prog 157 #[.pointer (some ⟨bm, 0, none⟩), .int .i64 (r : Nat)] w (Ret fun u w' => u = .int .i64 (fiX P r) ∧ S0 w0 l w') := by
  refine (fi0_ok (t := r) hm hp hX st).mono ?_
  rintro _ _ ⟨u, rfl, hu, st⟩
  refine ⟨_, rfl, ?_, st⟩
  rcases hu with hu | ⟨j, p, h1, h2, h3, h4⟩
  · rw [fiX_none fun p hp => by simpa using hu.1 p hp]; exact hu.2
  · rw [fiX_some h1 (by simpa using h2) fun k x hk hx => by simpa using h3 k x hk hx]; exact h4
theorem c_pq {a : Option Addr} {b i j : Nat} {p : PQ} (hcell : ∀ {w0 : World} {M : Nat → Prop} {l : List HI} {w : World}, St w0 M l w → X ⊆ l → ∀ i x, P[i]? = some x → ∀ j, j < 5 → w.cell? ⟨b, i * 5 + j, none⟩ = some (pE x j)) (hX : X ⊆ l) (hi : P[i]? = some p) (hj : j < 5) (st : S0 w0 l w) : w.cell? ⟨b, 0 + i * 5 + j, none⟩ = some (pE p j) := by
  rw [Nat.zero_add]; exact hcell st hX i p hi j hj
set_option maxHeartbeats 8000000 in
theorem settle_ok (hD : gD w0) (hB : KB N s) (hN : N ≤ 1000000) (hI : INV s) (hct : CT s) (hrel : RelP s P) (st : MK w0 bm mb s P l w) :
    Calls Tryz.prog 123 #[.pointer (some ⟨bm, 0, none⟩)] w (Ret fun v w' => v = .tuple #[] ∧ ∃ P', RelP (wakeP s) P' ∧ MK w0 bm mb (wakeP s) P' l w') := by
  refine enter [.pointer (some ⟨bm, 0, none⟩)] Tryz.func123 rfl Tryz.ntmps123 rfl ?_
  show WC _ _ _ 78 [] [(0, .pointer (some ⟨bm, 0, none⟩))] _
  refine WC.seq fun K3168 hK3168 => ?_
  -- region 0
  refine WC.region ?_
  -- R0.0 2 := model.go:298 assign
  refine WL.v (by first | exact r_assign (v := .bool _) rfl | exact r_assign rfl) rfl rfl rfl ?_
  refine WL.fin hK3168 (fun _ _ h => h) ?_
  refine WC.block ?_
  refine WC.loop (ι := KS × Bool × Nat × List PQ) (fun y => [(0, .pointer (some ⟨bm, 0, none⟩)), (2, .bool y.2.1)])
    (fun y w' => KB N y.1 ∧ INV y.1 ∧ CT y.1 ∧ RelP y.1 y.2.2.2 ∧ (if y.2.1 then qsum y.1.queue < y.2.2.1 ∧ wakeO y.2.2.1 y.1 = wakeP s else y.1 = wakeP s) ∧ MK w0 bm mb y.1 y.2.2.2 l w') (fun y => if y.2.1 then y.2.2.1 + 1 else 0) (s, true, qsum s.queue + 1, P) ⟨hB, hI, hct, hrel, ⟨Nat.lt_succ_self _, rfl⟩, st⟩ ?_ ?_
  · skip
    repeat (first | exact sub_nil _ | refine sub_cons rfl rfl ?_)
  clear hB st hI hct hrel
  rintro ⟨s', again, k, P⟩ w ⟨hB, hI, hct, hrel, hk, st⟩ K1 hK1
  dsimp only at hB hI hct hrel hk st ⊢
  cases again
  · obtain rfl : s' = wakeP s := hk
    refine WC.seq fun K3169 hK3169 => ?_
    refine WC.seq fun K3170 hK3170 => ?_
    -- region 1
    refine WC.region ?_
    -- R1.0 6 := model.go:298 move
    refine WL.v (by first | exact r_move (v := .bool _) rfl | exact r_move rfl) rfl rfl rfl ?_
    refine WL.fin hK3170 (fun _ _ h => h) ?_
    refine WC.condF rfl rfl ?_
    refine WC.exit0 Tryz.results123 (fun _ _ h => h) ?_
    exact ⟨_, rfl, rfl, P, hrel, st⟩
  obtain ⟨hk, hwk⟩ : qsum s'.queue < k ∧ wakeO k s' = wakeP s := hk
  obtain ⟨k, rfl⟩ : ∃ m, k = m + 1 := ⟨k - 1, by omega⟩
  obtain ⟨σ, hσ⟩ : ∃ σ, σ = passN s' := ⟨_, rfl⟩
  have hwk : (if (σ 20).2 then wakeO k (σ 20).1 else (σ 20).1) = wakeP s := by rw [hσ]; exact hwk
  have hσ0 : σ 0 = (s', false) := by rw [hσ]; rfl
  have hσs : ∀ i, σ (i + 1) = ((wakeQ (σ i).1 i).1, (σ i).2 || (wakeQ (σ i).1 i).2) := fun i => by rw [hσ]; rfl
  have hkb : ∀ i, i ≤ 20 → KB N (σ i).1 ∧ qsum (σ i).1.queue + (if (σ i).2 then 1 else 0) ≤ qsum s'.queue := fun i hi => by rw [hσ]; exact passN_kb hB i hi
  clear hσ
  refine WC.seq fun K3171 hK3171 => ?_
  refine WC.seq fun K3172 hK3172 => ?_
  -- region 1
  refine WC.region ?_
  -- R1.0 6 := model.go:298 move
  refine WL.v (by first | exact r_move (v := .bool _) rfl | exact r_move rfl) rfl rfl rfl ?_
  refine WL.fin hK3172 (fun _ _ h => h) ?_
  refine WC.condT rfl rfl ?_
  refine WC.skipF hK3171 (fun _ _ h => h) ?_
  refine WC.block ?_
  refine WC.seq fun K3173 hK3173 => ?_
  -- region 2
  refine WC.region ?_
  -- R2.0 2 := model.go:299 assign
  refine WL.v (by first | exact r_assign (v := .bool _) rfl | exact r_assign rfl) rfl rfl rfl ?_
  refine WL.fin hK3173 (fun _ _ h => h) ?_
  refine WC.seq fun K3174 hK3174 => ?_
  -- region 3
  refine WC.region ?_
  -- R3.0 3 := model.go:300 assign
  refine WL.v (by first | exact r_assign (v := .int _ _) rfl | exact r_assign rfl) rfl rfl rfl ?_
  refine WL.fin hK3174 (fun _ _ h => h) ?_
  refine WC.block ?_
  refine WC.loop (ι := Nat × List PQ) (fun y => [(0, .pointer (some ⟨bm, 0, none⟩)), (2, .bool (σ y.1).2), (3, .int .i64 (y.1 : Nat))])
    (fun y w' => y.1 ≤ 20 ∧ INV (σ y.1).1 ∧ CT (σ y.1).1 ∧ RelP (σ y.1).1 y.2 ∧ MK w0 bm mb (σ y.1).1 y.2 l w') (fun y => 20 - y.1) (0, P) ⟨Nat.zero_le _, by rw [hσ0]; exact hI, by rw [hσ0]; exact hct, by rw [hσ0]; exact hrel, by rw [hσ0]; exact st⟩ (by rw [hσ0]; repeat (first | exact sub_nil _ | refine sub_cons rfl rfl ?_)) ?_
  clear st hI hct hrel
  rintro ⟨i, P⟩ w ⟨hi, hI, hct, hrel, st⟩ K2 hK2
  dsimp only at hi hI hct hrel st ⊢
  obtain ⟨hBi, hqi⟩ := hkb i hi
  by_cases h20 : i = 20
  · subst h20
    obtain ⟨S, hS⟩ : ∃ S, S = σ 20 := ⟨_, rfl⟩
    rw [← hS] at hwk hBi hqi st hI hct hrel ⊢
    refine WC.seq fun K3175 hK3175 => ?_
    refine WC.seq fun K3176 hK3176 => ?_
    -- region 4
    refine WC.region ?_
    -- R4.0 7 := model.go:300 move
    refine WL.v (by first | exact r_move (v := .int _ _) rfl | exact r_move rfl) rfl rfl rfl ?_
    -- R4.1 8 := model.go:300 binOp
    refine WL.v (by first | exact r_lss rfl rfl (decide_eq_true (by omega)) | exact r_lss rfl rfl (decide_eq_false (by omega)) | exact r_lss rfl rfl rfl) rfl rfl rfl ?_
    refine WL.fin hK3176 (fun _ _ h => h) ?_
    refine WC.condF rfl rfl ?_
    have hn : KB N S.1 ∧ INV S.1 ∧ CT S.1 ∧ RelP S.1 P ∧ (if S.2 then qsum S.1.queue < k ∧ wakeO k S.1 = wakeP s else S.1 = wakeP s) ∧ MK w0 bm mb S.1 P l w := by
      refine ⟨hBi, hI, hct, hrel, ?_, st⟩
      revert hwk hqi
      cases S.2
      · intro _ h; exact h
      · intro h2 h1; exact ⟨by have : qsum S.1.queue + 1 ≤ qsum s'.queue := h2; omega, h1⟩
    refine WC.exitN hK1 (fun _ _ h => h) (S.1, S.2, k, P) hn (by show (if S.2 then k + 1 else 0) < k + 1 + 1; split <;> omega) (by repeat (first | exact sub_nil _ | refine sub_cons rfl rfl ?_))
  have hi' : i < 20 := by omega
  obtain ⟨s1, hs1⟩ : ∃ s1, s1 = (σ i).1 := ⟨_, rfl⟩
  obtain ⟨a1, ha1⟩ : ∃ a1, a1 = (σ i).2 := ⟨_, rfl⟩
  have hnx : σ (i + 1) = ((wakeQ s1 i).1, a1 || (wakeQ s1 i).2) := by rw [hs1, ha1]; exact hσs i
  rw [← hs1] at st hBi hI hct hrel
  rw [← ha1]
  obtain ⟨pv, XP, tv, XO, hp, ho, st⟩ := st
  refine WC.seq fun K3177 hK3177 => ?_
  refine WC.seq fun K3178 hK3178 => ?_
  -- region 4
  refine WC.region ?_
  -- R4.0 7 := model.go:300 move
  refine WL.v (by first | exact r_move (v := .int _ _) rfl | exact r_move rfl) rfl rfl rfl ?_
  -- R4.1 8 := model.go:300 binOp
  refine WL.v (by first | exact r_lss rfl rfl (decide_eq_true (by omega)) | exact r_lss rfl rfl (decide_eq_false (by omega)) | exact r_lss rfl rfl rfl) rfl rfl rfl ?_
  refine WL.fin hK3178 (fun _ _ h => h) ?_
  refine WC.condT rfl rfl ?_
  refine WC.skipF hK3177 (fun _ _ h => h) ?_
  refine WC.seq fun K3179 hK3179 => ?_
  refine WC.block ?_
  refine WC.seq fun K3180 hK3180 => ?_
  -- region 6
  refine WC.region ?_
  -- R6.0 11 := model.go:301 move
  refine WL.v (by first | exact r_move (v := .pointer _) rfl | exact r_move rfl) rfl rfl rfl ?_
  -- R6.1 12 := model.go:301 move
  refine WL.v (by first | exact r_move (v := .int _ _) rfl | exact r_move rfl) rfl rfl rfl ?_
  -- R6.2 13 := model.go:301 call
  refine WL.call (r_call ty_call157 rfl) rfl rfl rfl (first_ok (r := i) List.mem_cons_self hp (fun x hx => List.mem_cons_of_mem _ (List.mem_append_left _ hx)) st) ?_
  rintro _ w ⟨rfl, st⟩
  -- R6.3 4 := model.go:301 assign
  refine WL.v (by first | exact r_assign (v := .int _ _) rfl | exact r_assign rfl) rfl rfl rfl ?_
  refine WL.fin hK3180 (fun _ _ h => h) ?_
  refine WC.block ?_
  refine WC.loop (ι := KS × Bool × Nat × List PQ) (fun y => [(0, .pointer (some ⟨bm, 0, none⟩)), (2, .bool y.2.1), (3, .int .i64 (i : Nat)), (4, .int .i64 (fiX y.2.2.2 i))])
    (fun y w' => KB N y.1 ∧ INV y.1 ∧ CT y.1 ∧ RelP y.1 y.2.2.2 ∧ (y.1.queue i).length = y.2.2.1 ∧ (wakeR y.2.2.1 y.1 i).1 = (wakeQ s1 i).1 ∧ (y.2.1 || (wakeR y.2.2.1 y.1 i).2) = (a1 || (wakeQ s1 i).2) ∧ MK w0 bm mb y.1 y.2.2.2 l w') (fun y => y.2.2.1) (s1, a1, (s1.queue i).length, P) ⟨hBi, hI, hct, hrel, rfl, rfl, rfl, pv, XP, tv, XO, hp, ho, st⟩ ?_ ?_
  · skip
    repeat (first | exact sub_nil _ | refine sub_cons rfl rfl ?_)
  clear st hI hct hrel hp ho
  rintro ⟨s2, a2, m, P⟩ w ⟨hB2, hI, hct, hrel, hm, hw1, hw2, st⟩ K3 hK3
  dsimp only at hB2 hI hct hrel hm hw1 hw2 st ⊢
  have hplen := hrel.len
  have hnn := hB2.nn
  rcases hQe : s2.queue i with _ | ⟨q, Q⟩
  · have hQ : s2.queue i = [] := hQe
    have hfx : fiX P i = -1 := fiX_none (first_none (by rw [← hrel.q i hi']; exact hQ))
    rw [wakeR_nil hQ] at hw1 hw2
    have hz : σ (i + 1) = (s2, a2) := by rw [hnx, ← hw1, ← hw2, Bool.or_false]
    rw [hfx]
    obtain ⟨pv, XP, tv, XO, hp, ho, st⟩ := st
    refine WC.seq fun K3181 hK3181 => ?_
    refine WC.seq fun K3182 hK3182 => ?_
    -- region 7 (draws)
    refine WC.quietS st ty_mixed (by kernel_rfl) fun Kq hKq => ?_
    -- R7.0 14 := model.go:301 move
    refine QL.v (fun w st => by first | exact r_move (v := .int _ _) rfl | exact r_move rfl) rfl rfl rfl ?_
    -- R7.1 15 := model.go:301 binOp
    refine QL.v (fun w st => by first | exact r_geq rfl rfl (decide_eq_true (by omega)) | exact r_geq rfl rfl (decide_eq_false (by omega)) | exact r_geq rfl rfl rfl) rfl rfl rfl ?_
    -- R7.2 16 := model.go:301 move
    refine QL.v (fun w st => by first | exact r_move (v := .bool _) rfl | exact r_move rfl) rfl rfl rfl ?_
    -- R7.3 17 := model.go:301 move
    refine QL.no rfl rfl ?_
    -- R7.4 18 := model.go:301 move
    refine QL.no rfl rfl ?_
    -- R7.5 19 := model.go:301 nilCheck
    refine QL.no rfl rfl ?_
    -- R7.6 20 := model.go:301 fieldAddr
    refine QL.no rfl rfl ?_
    -- R7.7 21 := model.go:301 load
    refine QL.no rfl rfl ?_
    -- R7.8 22 := model.go:301 move
    refine QL.no rfl rfl ?_
    -- R7.9 23 := model.go:301 indexAddr
    refine QL.no rfl rfl ?_
    -- R7.10 24 := model.go:301 fieldAddr
    refine QL.no rfl rfl ?_
    -- R7.11 25 := model.go:301 load
    refine QL.no rfl rfl ?_
    -- R7.12 26 := model.go:301 move
    refine QL.no rfl rfl ?_
    -- R7.13 27 := model.go:301 move
    refine QL.no rfl rfl ?_
    -- R7.14 28 := model.go:301 nilCheck
    refine QL.no rfl rfl ?_
    -- R7.15 29 := model.go:301 fieldAddr
    refine QL.no rfl rfl ?_
    -- R7.16 30 := model.go:301 load
    refine QL.no rfl rfl ?_
    -- R7.17 31 := model.go:301 move
    refine QL.no rfl rfl ?_
    -- R7.18 32 := model.go:301 indexAddr
    refine QL.no rfl rfl ?_
    -- R7.19 33 := model.go:301 fieldAddr
    refine QL.no rfl rfl ?_
    -- R7.20 34 := model.go:301 load
    refine QL.no rfl rfl ?_
    -- R7.21 35 := model.go:301 call
    refine QL.no rfl rfl ?_
    -- R7.22 36 := model.go:301 pick
    refine QL.v (fun w st => by first | exact r_pickT (v := .bool _) rfl rfl | exact r_pickF (v := .bool _) rfl rfl) rfl rfl rfl ?_
    refine QL.wl hKq fun w st => ?_
    refine WL.fin hK3182 (fun _ _ h => h) ?_
    refine WC.condF rfl rfl ?_
    refine WC.exitF hK3179 (fun _ _ h => h) ?_
    -- region 5
    refine WC.region ?_
    -- R5.0 9 := model.go:300 move
    refine WL.v (by first | exact r_move (v := .int _ _) rfl | exact r_move rfl) rfl rfl rfl ?_
    -- R5.1 10 := model.go:300 binOp
    refine WL.v (by first | exact r_add rfl rfl (wi64 (by omega) (by omega)) | exact r_add rfl rfl rfl) rfl rfl rfl ?_
    -- R5.2 3 := model.go:300 assign
    refine WL.v (by first | exact r_assign (v := .int _ _) rfl | exact r_assign rfl) rfl rfl rfl ?_
    refine WL.next hK2 (fun _ _ h => h) (i + 1, P) ⟨hi', by rw [hz]; exact hI, by rw [hz]; exact hct, by rw [hz]; exact hrel, by rw [hz]; exact ⟨pv, XP, tv, XO, hp, ho, st⟩⟩ (by show 20 - (i + 1) < 20 - i; omega) (by rw [hz]; repeat (first | exact sub_nil _ | refine sub_cons rfl rfl ?_))
  have hQ : s2.queue i = q :: Q := hQe
  have hqb := hB2.qt i q (by rw [hQ]; exact List.mem_cons_self)
  have hQl : Q.length + 1 = (s2.queue i).length := by rw [hQ]; rfl
  obtain ⟨j, p, hj, hpr, hpq, hjf⟩ := first_of (by rw [← hrel.q i hi']; exact hQ)
  have hpt : p.t = q.1 := by rw [← hpq]
  have hpu : p.u = q.2 := by rw [← hpq]
  have hfx : fiX P i = j := fiX_some hj hpr hjf
  have hjl : j < P.length := (List.getElem?_eq_some_iff.1 hj).1
  rw [hfx]
  obtain ⟨pv, XP, tv, XO, hp, ho, st⟩ := st
  obtain ⟨a, c, b, hpv, hc1, hc2, ha, hcell⟩ := hp.form
  obtain rfl := ha (by omega)
  have hXs : XP ⊆ moI bm (mrOf s2) pv tv mb :: (XP ++ (XO ++ (mpI mb (odF s2) ++ l))) := fun x hx => List.mem_cons_of_mem _ (List.mem_append_left _ hx)
  rcases Bool.eq_false_or_eq_true (admissibleP s2 q.1 i q.2) with had | had
  · obtain ⟨m, rfl⟩ : ∃ m', m = m' + 1 := ⟨m - 1, by omega⟩
    rw [wakeR_yes hQ had] at hw1 hw2
    have hw2 : (true || (wakeR m (answerP (grantS s2 i q Q) q.1 0) i).2) = (a1 || (wakeQ s1 i).2) := by rw [← hw2, Bool.or_true, Bool.true_or]
    have hB3 := hB2.grantHead hi' hQ had
    have hl3 : ((answerP (grantS s2 i q Q) q.1 0).queue i).length = m := by
      show (updN s2.queue i Q i).length = m
      rw [updN_same]; omega
    have hI3 := hI.grant hi' hQ had
    have hct3 : CT (answerP (grantS s2 i q Q) q.1 0) := hct
    have hrel3 := hrel.grant hI hi' hQ
    have heq := erase_noT hrel.u hj
    rw [hpt] at heq
    have hroom := admissible_room hqb.1 had
    have htp := totP_le i
    refine WC.seq fun K3183 hK3183 => ?_
    refine WC.seq fun K3184 hK3184 => ?_
    -- region 7 (draws)
    refine WC.quietS st ty_mixed (by kernel_rfl) fun Kq hKq => ?_
    -- R7.0 14 := model.go:301 move
    refine QL.v (fun w st => by first | exact r_move (v := .int _ _) rfl | exact r_move rfl) rfl rfl rfl ?_
    -- R7.1 15 := model.go:301 binOp
    refine QL.v (fun w st => by exact r_geq rfl rfl (decide_eq_true (by omega))) rfl rfl rfl ?_
    -- R7.2 16 := model.go:301 move
    refine QL.v (fun w st => by first | exact r_move (v := .bool _) rfl | exact r_move rfl) rfl rfl rfl ?_
    -- R7.3 17 := model.go:301 move
    refine QL.v (fun w st => by first | exact r_move (v := .pointer _) rfl | exact r_move rfl) rfl rfl rfl ?_
    -- R7.4 18 := model.go:301 move
    refine QL.v (fun w st => by first | exact r_move (v := .pointer _) rfl | exact r_move rfl) rfl rfl rfl ?_
    -- R7.5 19 := model.go:301 nilCheck
    refine QL.v (fun w st => by exact r_nilCheck rfl) rfl rfl rfl ?_
    -- R7.6 20 := model.go:301 fieldAddr
    refine QL.v (fun w st => by exact r_field ty_fld98_9 rfl) rfl rfl rfl ?_
    -- R7.7 21 := model.go:301 load
    refine QL.v (fun w st => by exact r_load1 (v := .slice (some ⟨b, 0, none⟩) P.length c) ty_one96 rfl (by rw [← hpv]; exact st.c0 (by decide))) rfl rfl rfl ?_
    -- R7.8 22 := model.go:301 move
    refine QL.v (fun w st => by first | exact r_move (v := .int _ _) rfl | exact r_move rfl) rfl rfl rfl ?_
    -- R7.9 23 := model.go:301 indexAddr
    refine QL.v (fun w st => by exact r_indexS (j := j) ty_sl96 rfl rfl rfl (by omega)) rfl rfl rfl ?_
    -- R7.10 24 := model.go:301 fieldAddr
    refine QL.v (fun w st => by exact r_field ty_fld102_0 rfl) rfl rfl rfl ?_
    -- R7.11 25 := model.go:301 load
    refine QL.v (fun w st => by exact r_load1 (v := .int .i64 (q.1 : Nat)) ty_one31 rfl (by rw [← hpt]; exact c_pq (j := 0) (a := none) hcell hXs hj (by decide) st)) rfl rfl rfl ?_
    -- R7.12 26 := model.go:301 move
    refine QL.v (fun w st => by first | exact r_move (v := .int _ _) rfl | exact r_move rfl) rfl rfl rfl ?_
    -- R7.13 27 := model.go:301 move
    refine QL.v (fun w st => by first | exact r_move (v := .pointer _) rfl | exact r_move rfl) rfl rfl rfl ?_
    -- R7.14 28 := model.go:301 nilCheck
    refine QL.v (fun w st => by exact r_nilCheck rfl) rfl rfl rfl ?_
    -- R7.15 29 := model.go:301 fieldAddr
    refine QL.v (fun w st => by exact r_field ty_fld98_9 rfl) rfl rfl rfl ?_
    -- R7.16 30 := model.go:301 load
    refine QL.v (fun w st => by exact r_load1 (v := .slice (some ⟨b, 0, none⟩) P.length c) ty_one96 rfl (by rw [← hpv]; exact st.c0 (by decide))) rfl rfl rfl ?_
    -- R7.17 31 := model.go:301 move
    refine QL.v (fun w st => by first | exact r_move (v := .int _ _) rfl | exact r_move rfl) rfl rfl rfl ?_
    -- R7.18 32 := model.go:301 indexAddr
    refine QL.v (fun w st => by exact r_indexS (j := j) ty_sl96 rfl rfl rfl (by omega)) rfl rfl rfl ?_
    -- R7.19 33 := model.go:301 fieldAddr
    refine QL.v (fun w st => by exact r_field ty_fld102_2 rfl) rfl rfl rfl ?_
    -- R7.20 34 := model.go:301 load
    refine QL.v (fun w st => by exact r_load1 (v := .int .i64 (q.2 : Nat)) ty_one3 rfl (by rw [← hpu]; exact c_pq (j := 2) (a := none) hcell hXs hj (by decide) st)) rfl rfl rfl ?_
    -- R7.21 35 := model.go:301 call
    refine QL.call (val := .bool true) (fun w st => r_call ty_call158 rfl) rfl rfl rfl (fun w st => (mayHave_ok hD hqb.1 hi' hqb.2 hB2.held hB2.claim hct List.mem_cons_self st).mono (by rintro _ _ ⟨v, rfl, rfl, st⟩; exact ⟨_, rfl, by rw [had], st⟩)) ?_
    -- R7.22 36 := model.go:301 pick
    refine QL.v (fun w st => by first | exact r_pickT (v := .bool _) rfl rfl | exact r_pickF (v := .bool _) rfl rfl) rfl rfl rfl ?_
    refine QL.wl hKq fun w st => ?_
    refine WL.fin hK3184 (fun _ _ h => h) ?_
    refine WC.condT rfl rfl ?_
    refine WC.skipF hK3183 (fun _ _ h => h) ?_
    refine WC.seq fun K3185 hK3185 => ?_
    refine WC.block ?_
    refine WC.seq fun K3186 hK3186 => ?_
    -- region 9
    refine WC.region ?_
    -- R9.0 40 := model.go:302 move
    refine WL.v (by first | exact r_move (v := .pointer _) rfl | exact r_move rfl) rfl rfl rfl ?_
    -- R9.1 41 := model.go:302 nilCheck
    refine WL.v (by exact r_nilCheck rfl) rfl rfl rfl ?_
    -- R9.2 42 := model.go:302 fieldAddr
    refine WL.v (by exact r_field ty_fld98_9 rfl) rfl rfl rfl ?_
    -- R9.3 43 := model.go:302 load
    refine WL.v (by exact r_load1 (v := .slice (some ⟨b, 0, none⟩) P.length c) ty_one96 rfl (by rw [← hpv]; exact st.c0 (by decide))) rfl rfl rfl ?_
    -- R9.4 44 := model.go:302 move
    refine WL.v (by first | exact r_move (v := .int _ _) rfl | exact r_move rfl) rfl rfl rfl ?_
    -- R9.5 45 := model.go:302 indexAddr
    refine WL.v (by exact r_indexS (j := j) ty_sl96 rfl rfl rfl (by omega)) rfl rfl rfl ?_
    -- R9.6 46 := model.go:302 load
    refine WL.v (by exact r_loadL (vs := [.int .i64 (p.t : Nat), .int .i64 (p.r : Nat), .int .i64 (p.u : Nat), .int .u64 (p.d : Nat), .int .u64 (p.n : Nat)]) ty_agg102 rfl ⟨c_pq (j := 0) (a := none) hcell hXs hj (by decide) st, c_pq (j := 1) (a := none) hcell hXs hj (by decide) st, c_pq (j := 2) (a := none) hcell hXs hj (by decide) st, c_pq (j := 3) (a := none) hcell hXs hj (by decide) st, c_pq (j := 4) (a := none) hcell hXs hj (by decide) st, trivial⟩) rfl rfl rfl ?_
    -- R9.7 5 := model.go:302 alloc
    refine WL.alloc (m := 5) st ty_zero102 rfl rfl rfl ?_
    intro b5 w st
    -- R9.8 None := model.go:302 store
    first | refine WL.storeW (vs := [_, _, _, _, _]) st ty_agg102 rfl rfl rfl rfl rfl rfl ?_ | refine WL.storeL (vs := [_, _, _, _, _]) st ty_agg102 rfl rfl rfl rfl (by first | decide | omega) rfl rfl ?_ | refine WL.storeW (vs := [_, _, _, _, _]) st.front1 ty_agg102 rfl rfl rfl rfl rfl rfl ?_ | refine WL.storeL (vs := [_, _, _, _, _]) st.front1 ty_agg102 rfl rfl rfl rfl (by first | decide | omega) rfl rfl ?_ | refine WL.storeW (vs := [_, _, _, _, _]) st.front2 ty_agg102 rfl rfl rfl rfl rfl rfl ?_ | refine WL.storeL (vs := [_, _, _, _, _]) st.front2 ty_agg102 rfl rfl rfl rfl (by first | decide | omega) rfl rfl ?_ | refine WL.storeW (vs := [_, _, _, _, _]) st.front3 ty_agg102 rfl rfl rfl rfl rfl rfl ?_ | refine WL.storeL (vs := [_, _, _, _, _]) st.front3 ty_agg102 rfl rfl rfl rfl (by first | decide | omega) rfl rfl ?_ | refine WL.storeW (vs := [_, _, _, _, _]) st.front4 ty_agg102 rfl rfl rfl rfl rfl rfl ?_ | refine WL.storeL (vs := [_, _, _, _, _]) st.front4 ty_agg102 rfl rfl rfl rfl (by first | decide | omega) rfl rfl ?_ | refine WL.storeW (vs := [_, _, _, _, _]) st.front5 ty_agg102 rfl rfl rfl rfl rfl rfl ?_ | refine WL.storeL (vs := [_, _, _, _, _]) st.front5 ty_agg102 rfl rfl rfl rfl (by first | decide | omega) rfl rfl ?_ | refine WL.storeW (vs := [_, _, _, _, _]) st.front6 ty_agg102 rfl rfl rfl rfl rfl rfl ?_ | refine WL.storeL (vs := [_, _, _, _, _]) st.front6 ty_agg102 rfl rfl rfl rfl (by first | decide | omega) rfl rfl ?_ | refine WL.storeW (vs := [_, _, _, _, _]) st.front7 ty_agg102 rfl rfl rfl rfl rfl rfl ?_ | refine WL.storeL (vs := [_, _, _, _, _]) st.front7 ty_agg102 rfl rfl rfl rfl (by first | decide | omega) rfl rfl ?_ | refine WL.storeW (vs := [_, _, _, _, _]) st.front8 ty_agg102 rfl rfl rfl rfl rfl rfl ?_ | refine WL.storeL (vs := [_, _, _, _, _]) st.front8 ty_agg102 rfl rfl rfl rfl (by first | decide | omega) rfl rfl ?_
    intro w st
    refine WL.fin hK3186 (fun _ _ h => h) ?_
    refine WC.seq fun K3187 hK3187 => ?_
    -- region 10
    refine WC.region ?_
    -- R10.0 47 := model.go:303 move
    refine WL.v (by first | exact r_move (v := .pointer _) rfl | exact r_move rfl) rfl rfl rfl ?_
    -- R10.1 48 := model.go:303 move
    refine WL.v (by first | exact r_move (v := .pointer _) rfl | exact r_move rfl) rfl rfl rfl ?_
    -- R10.2 49 := model.go:303 nilCheck
    refine WL.v (by exact r_nilCheck rfl) rfl rfl rfl ?_
    -- R10.3 50 := model.go:303 fieldAddr
    refine WL.v (by exact r_field ty_fld98_9 rfl) rfl rfl rfl ?_
    -- R10.4 51 := model.go:303 load
    refine WL.v (by exact r_load1 (v := .slice (some ⟨b, 0, none⟩) P.length c) ty_one96 rfl (by rw [← hpv]; exact st.c1 (by decide))) rfl rfl rfl ?_
    -- R10.5 52 := model.go:303 move
    refine WL.v (by first | exact r_move (v := .int _ _) rfl | exact r_move rfl) rfl rfl rfl ?_
    -- R10.6 53 := model.go:303 move
    refine WL.v (by first | exact r_move (v := .int _ _) rfl | exact r_move rfl) rfl rfl rfl ?_
    -- R10.7 54 := model.go:303 binOp
    refine WL.v (by exact r_add (r := ((j + 1 : Nat) : Int)) rfl rfl ((wi64 (by omega) (by omega)).trans (by omega))) rfl rfl rfl ?_
    -- R10.8 55 := model.go:303 call
    have st : S0 w0 (XP ++ ((b5, Row 102 5 (nth [.int .i64 (p.t : Nat), .int .i64 (p.r : Nat), .int .i64 (p.u : Nat), .int .u64 (p.d : Nat), .int .u64 (p.n : Nat)])) :: moI bm (mrOf s2) pv tv mb :: (XO ++ (mpI mb (odF s2) ++ l)))) w := st.perm (by classical exact List.perm_iff_count.2 fun x => by simp only [List.count_append, List.count_cons, List.count_nil, List.append_eq, List.cons_append, List.nil_append, List.append_assoc, Nat.add_zero, Nat.zero_add] <;> ac_rfl)
    refine WL.call (r_call ty_call121 rfl) rfl rfl rfl (delP_ok (v := .slice (some ⟨b, 0, none⟩) P.length c) (P := P) (i := j) (by rw [← hpv]; exact hp) hjl (by omega) st) ?_
    rintro _ w ⟨X', hp', st⟩
    rw [heq] at hp'
    obtain ⟨a', c', b', rfl, -, -, -, -⟩ := hp'.form
    have st : S0 w0 (moI bm (mrOf s2) pv tv mb :: (b5, Row 102 5 (nth [.int .i64 (p.t : Nat), .int .i64 (p.r : Nat), .int .i64 (p.u : Nat), .int .u64 (p.d : Nat), .int .u64 (p.n : Nat)])) :: (X' ++ (XO ++ (mpI mb (odF s2) ++ l)))) w := st.perm (by classical exact List.perm_iff_count.2 fun x => by simp only [List.count_append, List.count_cons, List.count_nil, List.append_eq, List.cons_append, List.nil_append, List.append_assoc, Nat.add_zero, Nat.zero_add] <;> ac_rfl)
    -- R10.9 56 := model.go:303 nilCheck
    refine WL.v (by exact r_nilCheck rfl) rfl rfl rfl ?_
    -- R10.10 57 := model.go:303 fieldAddr
    refine WL.v (by exact r_field ty_fld98_9 rfl) rfl rfl rfl ?_
    -- R10.11 None := model.go:303 store
    refine WL.store (v := .slice a' (noT P q.1).length c') st ty_one96 rfl rfl rfl (by decide) rfl rfl ?_
    intro w st
    have st := stE mw_pend st
    refine WL.fin hK3187 (fun _ _ h => h) ?_
    refine WC.seq fun K3188 hK3188 => ?_
    -- region 11 (draws)
    refine WC.tailS 16 st ty_mixed (by kernel_rfl) fun w st Kq hKq => ?_
    -- R11.0 58 := model.go:304 move
    refine SL.v (by first | exact r_move (v := .pointer _) rfl | exact r_move rfl) rfl rfl rfl ?_
    -- R11.1 59 := model.go:304 fieldAddr
    refine SL.v (by exact r_field ty_fld102_0 rfl) rfl rfl rfl ?_
    -- R11.2 60 := model.go:304 load
    refine SL.v (by exact r_load1 (v := .int .i64 (q.1 : Nat)) ty_one31 rfl (by rw [← hpt]; exact st.c1 (by decide))) rfl rfl rfl ?_
    -- R11.3 61 := model.go:304 move
    refine SL.v (by first | exact r_move (v := .int _ _) rfl | exact r_move rfl) rfl rfl rfl ?_
    -- R11.4 62 := model.go:304 nilCheck
    refine SL.v (by exact r_nilCheck rfl) rfl rfl rfl ?_
    -- R11.5 63 := model.go:304 fieldAddr
    refine SL.v (by exact r_field ty_fld98_7 rfl) rfl rfl rfl ?_
    -- R11.6 64 := model.go:304 indexAddr
    refine SL.v (by exact r_indexA (j := q.1) ty_ar45 rfl rfl rfl hqb.1) rfl rfl rfl ?_
    -- R11.7 65 := model.go:304 indexAddr
    refine SL.v (by exact r_indexA (j := i) ty_ar44 rfl rfl rfl hi') rfl rfl rfl ?_
    -- R11.8 66 := model.go:304 load
    refine SL.v (by exact r_load1 (v := .int .i64 (s2.held q.1 i : Nat)) ty_one3 rfl (c_mheld (m := mrOf s2) List.mem_cons_self hqb.1 hi' (by omega) st)) rfl rfl rfl ?_
    -- R11.9 67 := model.go:304 fieldAddr
    refine SL.v (by exact r_field ty_fld102_2 rfl) rfl rfl rfl ?_
    -- R11.10 68 := model.go:304 load
    refine SL.v (by exact r_load1 (v := .int .i64 (q.2 : Nat)) ty_one3 rfl (by rw [← hpu]; exact st.c1 (by decide))) rfl rfl rfl ?_
    -- R11.11 69 := model.go:304 binOp
    refine SL.v (by exact r_add (r := ((s2.held q.1 i + q.2 : Nat) : Int)) rfl rfl ((wi64 (by omega) (by omega)).trans (by omega))) rfl rfl rfl ?_
    -- R11.12 70 := model.go:304 nilCheck
    refine SL.v (by exact r_nilCheck rfl) rfl rfl rfl ?_
    -- R11.13 71 := model.go:304 fieldAddr
    refine SL.v (by exact r_field ty_fld98_7 rfl) rfl rfl rfl ?_
    -- R11.14 72 := model.go:304 indexAddr
    refine SL.v (by exact r_indexA (j := q.1) ty_ar45 rfl rfl rfl hqb.1) rfl rfl rfl ?_
    -- R11.15 73 := model.go:304 indexAddr
    refine SL.v (by exact r_indexA (j := i) ty_ar44 rfl rfl rfl hi') rfl rfl rfl ?_
    refine SL.fin hKq ?_
    -- R11.16 None := model.go:304 store
    refine WL.store (v := .int .i64 ((s2.held q.1 i + q.2 : Nat) : Int)) st ty_one3 rfl rfl rfl (by omega) rfl rfl ?_
    intro w st
    have st := stE (mw_held hqb.1 hi') st
    refine WL.fin hK3188 (fun _ _ h => h) ?_
    refine WC.seq fun K3189 hK3189 => ?_
    -- region 12
    refine WC.region ?_
    -- R12.0 74 := model.go:305 move
    refine WL.v (by first | exact r_move (v := .pointer _) rfl | exact r_move rfl) rfl rfl rfl ?_
    -- R12.1 75 := model.go:305 fieldAddr
    refine WL.v (by exact r_field ty_fld102_0 rfl) rfl rfl rfl ?_
    -- R12.2 76 := model.go:305 load
    refine WL.v (by exact r_load1 (v := .int .i64 (q.1 : Nat)) ty_one31 rfl (by rw [← hpt]; exact st.c1 (by decide))) rfl rfl rfl ?_
    -- R12.3 77 := model.go:305 call
    have st : S0 w0 (moI bm (mrOf (grantS s2 i q Q)) (.slice a' (noT P q.1).length c') tv mb :: (b5, Row 102 5 (nth [.int .i64 (p.t : Nat), .int .i64 (p.r : Nat), .int .i64 (p.u : Nat), .int .u64 (p.d : Nat), .int .u64 (p.n : Nat)])) :: (X' ++ (XO ++ (mpI mb (odF s2) ++ l)))) w := st
    have mh : MW w0 bm mb (mrOf (grantS s2 i q Q)) (odF s2) (noT P q.1) s2.told ((b5, Row 102 5 (nth [.int .i64 (p.t : Nat), .int .i64 (p.r : Nat), .int .i64 (p.u : Nat), .int .u64 (p.d : Nat), .int .u64 (p.n : Nat)])) :: l) w := ⟨_, X', tv, XO, hp', ho, st.perm (by classical exact List.perm_iff_count.2 fun x => by simp only [List.count_append, List.count_cons, List.count_nil, List.append_eq, List.cons_append, List.nil_append, List.append_assoc, Nat.add_zero, Nat.zero_add] <;> ac_rfl)⟩
    refine WL.call (r_call ty_call122 rfl) rfl rfl rfl (tell_ok (code := 0) hqb.1 (by omega) mh) ?_
    rintro _ w ⟨rfl, mh⟩
    have mh : MK w0 bm mb (answerP (grantS s2 i q Q) q.1 0) (noT P q.1) l w := by unfold MK; rw [mr_answer, od_answer]; exact mh.drop
    obtain ⟨pv4, XP4, tv4, XO4, hp4, ho4, st⟩ := mh
    refine WL.fin hK3189 (fun _ _ h => h) ?_
    -- region 13
    refine WC.region ?_
    -- R13.0 2 := model.go:306 assign
    refine WL.v (by first | exact r_assign (v := .bool _) rfl | exact r_assign rfl) rfl rfl rfl ?_
    refine WL.fin hK3185 (fun _ _ h => h) ?_
    -- region 8
    refine WC.region ?_
    -- R8.0 37 := model.go:301 move
    refine WL.v (by first | exact r_move (v := .pointer _) rfl | exact r_move rfl) rfl rfl rfl ?_
    -- R8.1 38 := model.go:301 move
    refine WL.v (by first | exact r_move (v := .int _ _) rfl | exact r_move rfl) rfl rfl rfl ?_
    -- R8.2 39 := model.go:301 call
    refine WL.call (r_call ty_call157 rfl) rfl rfl rfl (first_ok (r := i) List.mem_cons_self hp4 (fun x hx => List.mem_cons_of_mem _ (List.mem_append_left _ hx)) st) ?_
    rintro _ w ⟨rfl, st⟩
    -- R8.3 4 := model.go:301 assign
    refine WL.v (by first | exact r_assign (v := .int _ _) rfl | exact r_assign rfl) rfl rfl rfl ?_
    refine WL.next hK3 (fun _ _ h => h) (answerP (grantS s2 i q Q) q.1 0, true, m, noT P q.1) ⟨hB3, hI3, hct3, hrel3, hl3, hw1, hw2, pv4, XP4, tv4, XO4, hp4, ho4, st⟩ (Nat.lt_succ_self m) (by repeat (first | exact sub_nil _ | refine sub_cons rfl rfl ?_))
  · rw [wakeR_no hQ had] at hw1 hw2
    have hz : σ (i + 1) = (s2, a2) := by rw [hnx, ← hw1, ← hw2, Bool.or_false]
    refine WC.seq fun K3190 hK3190 => ?_
    refine WC.seq fun K3191 hK3191 => ?_
    -- region 7 (draws)
    refine WC.quietS st ty_mixed (by kernel_rfl) fun Kq hKq => ?_
    -- R7.0 14 := model.go:301 move
    refine QL.v (fun w st => by first | exact r_move (v := .int _ _) rfl | exact r_move rfl) rfl rfl rfl ?_
    -- R7.1 15 := model.go:301 binOp
    refine QL.v (fun w st => by exact r_geq rfl rfl (decide_eq_true (by omega))) rfl rfl rfl ?_
    -- R7.2 16 := model.go:301 move
    refine QL.v (fun w st => by first | exact r_move (v := .bool _) rfl | exact r_move rfl) rfl rfl rfl ?_
    -- R7.3 17 := model.go:301 move
    refine QL.v (fun w st => by first | exact r_move (v := .pointer _) rfl | exact r_move rfl) rfl rfl rfl ?_
    -- R7.4 18 := model.go:301 move
    refine QL.v (fun w st => by first | exact r_move (v := .pointer _) rfl | exact r_move rfl) rfl rfl rfl ?_
    -- R7.5 19 := model.go:301 nilCheck
    refine QL.v (fun w st => by exact r_nilCheck rfl) rfl rfl rfl ?_
    -- R7.6 20 := model.go:301 fieldAddr
    refine QL.v (fun w st => by exact r_field ty_fld98_9 rfl) rfl rfl rfl ?_
    -- R7.7 21 := model.go:301 load
    refine QL.v (fun w st => by exact r_load1 (v := .slice (some ⟨b, 0, none⟩) P.length c) ty_one96 rfl (by rw [← hpv]; exact st.c0 (by decide))) rfl rfl rfl ?_
    -- R7.8 22 := model.go:301 move
    refine QL.v (fun w st => by first | exact r_move (v := .int _ _) rfl | exact r_move rfl) rfl rfl rfl ?_
    -- R7.9 23 := model.go:301 indexAddr
    refine QL.v (fun w st => by exact r_indexS (j := j) ty_sl96 rfl rfl rfl (by omega)) rfl rfl rfl ?_
    -- R7.10 24 := model.go:301 fieldAddr
    refine QL.v (fun w st => by exact r_field ty_fld102_0 rfl) rfl rfl rfl ?_
    -- R7.11 25 := model.go:301 load
    refine QL.v (fun w st => by exact r_load1 (v := .int .i64 (q.1 : Nat)) ty_one31 rfl (by rw [← hpt]; exact c_pq (j := 0) (a := none) hcell hXs hj (by decide) st)) rfl rfl rfl ?_
    -- R7.12 26 := model.go:301 move
    refine QL.v (fun w st => by first | exact r_move (v := .int _ _) rfl | exact r_move rfl) rfl rfl rfl ?_
    -- R7.13 27 := model.go:301 move
    refine QL.v (fun w st => by first | exact r_move (v := .pointer _) rfl | exact r_move rfl) rfl rfl rfl ?_
    -- R7.14 28 := model.go:301 nilCheck
    refine QL.v (fun w st => by exact r_nilCheck rfl) rfl rfl rfl ?_
    -- R7.15 29 := model.go:301 fieldAddr
    refine QL.v (fun w st => by exact r_field ty_fld98_9 rfl) rfl rfl rfl ?_
    -- R7.16 30 := model.go:301 load
    refine QL.v (fun w st => by exact r_load1 (v := .slice (some ⟨b, 0, none⟩) P.length c) ty_one96 rfl (by rw [← hpv]; exact st.c0 (by decide))) rfl rfl rfl ?_
    -- R7.17 31 := model.go:301 move
    refine QL.v (fun w st => by first | exact r_move (v := .int _ _) rfl | exact r_move rfl) rfl rfl rfl ?_
    -- R7.18 32 := model.go:301 indexAddr
    refine QL.v (fun w st => by exact r_indexS (j := j) ty_sl96 rfl rfl rfl (by omega)) rfl rfl rfl ?_
    -- R7.19 33 := model.go:301 fieldAddr
    refine QL.v (fun w st => by exact r_field ty_fld102_2 rfl) rfl rfl rfl ?_
    -- R7.20 34 := model.go:301 load
    refine QL.v (fun w st => by exact r_load1 (v := .int .i64 (q.2 : Nat)) ty_one3 rfl (by rw [← hpu]; exact c_pq (j := 2) (a := none) hcell hXs hj (by decide) st)) rfl rfl rfl ?_
    -- R7.21 35 := model.go:301 call
    refine QL.call (val := .bool false) (fun w st => r_call ty_call158 rfl) rfl rfl rfl (fun w st => (mayHave_ok hD hqb.1 hi' hqb.2 hB2.held hB2.claim hct List.mem_cons_self st).mono (by rintro _ _ ⟨v, rfl, rfl, st⟩; exact ⟨_, rfl, by rw [had], st⟩)) ?_
    -- R7.22 36 := model.go:301 pick
    refine QL.v (fun w st => by first | exact r_pickT (v := .bool _) rfl rfl | exact r_pickF (v := .bool _) rfl rfl) rfl rfl rfl ?_
    refine QL.wl hKq fun w st => ?_
    refine WL.fin hK3191 (fun _ _ h => h) ?_
    refine WC.condF rfl rfl ?_
    refine WC.exitF hK3179 (fun _ _ h => h) ?_
    -- region 5
    refine WC.region ?_
    -- R5.0 9 := model.go:300 move
    refine WL.v (by first | exact r_move (v := .int _ _) rfl | exact r_move rfl) rfl rfl rfl ?_
    -- R5.1 10 := model.go:300 binOp
    refine WL.v (by first | exact r_add rfl rfl (wi64 (by omega) (by omega)) | exact r_add rfl rfl rfl) rfl rfl rfl ?_
    -- R5.2 3 := model.go:300 assign
    refine WL.v (by first | exact r_assign (v := .int _ _) rfl | exact r_assign rfl) rfl rfl rfl ?_
    refine WL.next hK2 (fun _ _ h => h) (i + 1, P) ⟨hi', by rw [hz]; exact hI, by rw [hz]; exact hct, by rw [hz]; exact hrel, by rw [hz]; exact ⟨pv, XP, tv, XO, hp, ho, st⟩⟩ (by show 20 - (i + 1) < 20 - i; omega) (by rw [hz]; repeat (first | exact sub_nil _ | refine sub_cons rfl rfl ?_))
end Go.Proofs.Qxb6500834aGreatDoor

