import Derived.Test.Qxb6500837aDoorD20
set_option linter.unusedVariables false
set_option linter.unusedSimpArgs false
set_option maxRecDepth 20000
namespace Go.Proofs.Qxb6500837aDoor
open Go.RowKit Go.E1 Go.Disk
variable {w0 : World} {L L' l I J : List HI} {w : World} {D : DK} {m : Int} {P : PD} {q : Obj → Prop}

theorem di_pull (F : List HI) : (DI D m (F ++ L)).Perm (F ++ DI D m L) := by
  induction F with
  | nil => exact List.Perm.refl _
  | cons x F ih => exact di_front.trans (ih.cons x)
theorem st_inF (F : List HI) (st : S0 w0 (F ++ DI D m L) w) : S0 w0 (DI D m (F ++ L)) w := st.perm (di_pull F).symm
theorem st_outF (F : List HI) (st : S0 w0 (DI D m (F ++ L)) w) : S0 w0 (F ++ DI D m L) w := st.perm (di_pull F)
theorem img_range {S : Nat → Nat → Int} (h : ∀ s j, 0 ≤ S s j ∧ S s j < 256) (j : Nat) : 0 ≤ img S j ∧ img S j < 256 := h _ _
theorem Rep.seenr (h : Rep D P) : ∀ s j, 0 ≤ settle P.pc P.pend s j ∧ settle P.pc P.pend s j < 256 := settle_range h.pcr fun p hp => (h.psec p hp).2

set_option maxHeartbeats 64000000 in
theorem sync_law (a : Option Addr) (sb so n c : Nat) (op : Nat → OP) {w : World} (hg : hG w) (hS : Scr w sb so n op) (hn63 : n ≤ 140737488355328) (ha : 0 < n → a = some ⟨sb, so, none⟩) :
    Calls Tryd.prog 8 #[.slice a n c] w (Ret fun v w' => v = .bool true ∧ S0 w [] w') := by
  have st0 := St.init w (fun _ => False)
  obtain ⟨w0, hw0⟩ : ∃ w0, w0 = w := ⟨w, rfl⟩
  have st : S0 w0 [] w := by rw [hw0]; exact st0
  clear st0
  have hg : hG w0 := by rw [hw0]; exact hg
  have hS : Scr w0 sb so n op := by rw [hw0]; exact hS
  have goal : Calls Tryd.prog 8 #[.slice a n c] w (Ret fun v w' => v = .bool true ∧ S0 w0 [] w') := by
    clear hw0
    refine enter [.slice a n c] Tryd.func8 rfl Tryd.ntmps8 rfl ?_
    show WC _ _ _ 51 [] [(0, .slice a n c)] _
    refine WC.seq fun K680 hK680 => ?_
    -- region 0
    refine WC.region ?_
    -- R0.0 2 := laws.go:272 assign
    refine WL.v (by first | exact r_assign (v := .bool _) rfl | exact r_assign rfl) rfl rfl rfl ?_
    refine WL.fin hK680 (fun _ _ h => h) ?_
    refine WC.seq fun K681 hK681 => ?_
    refine WC.seq fun K682 hK682 => ?_
    -- region 1
    refine WC.region ?_
    -- R1.0 7 := laws.go:273 move
    refine WL.v (by first | exact r_move (v := .slice _ _ _) rfl | exact r_move rfl) rfl rfl rfl ?_
    -- R1.1 8 := laws.go:273 call
    refine WL.call (r_call ty_call10 rfl) rfl rfl rfl (zzSmall1_ok a sb so n c op hS hn63 ha st) ?_
    rintro _ w ⟨t, rfl, hsm, st⟩
    -- R1.2 9 := laws.go:273 unOp
    refine WL.v (by first | exact r_notT rfl | exact r_notF rfl | exact r_not rfl) rfl rfl rfl ?_
    refine WL.fin hK682 (fun _ _ h => h) ?_
    rcases t with _ | _
    · skip
      refine WC.condT rfl rfl ?_
      refine WC.seq fun K683 hK683 => ?_
      -- region 2
      refine WC.region ?_
      -- R2.0 2 := laws.go:274 assign
      refine WL.v (by first | exact r_assign (v := .bool _) rfl | exact r_assign rfl) rfl rfl rfl ?_
      refine WL.fin hK683 (fun _ _ h => h) ?_
      refine WC.ret1 Tryd.results8 (fun _ _ h => h) rfl ?_
      exact ⟨_, rfl, rfl, st⟩
    have hsm := hsm rfl
    have hnn := hsm.1
    refine WC.condF rfl rfl ?_
    refine WC.skipF hK681 (fun _ _ h => h) ?_
    refine WC.seq fun K684 hK684 => ?_
    -- region 3
    refine WC.region ?_
    -- R3.0 10 := laws.go:277 call
    refine WL.call (r_call ty_call11 rfl) rfl rfl rfl (newStage_ok st) ?_
    rintro _ w ⟨D, bs, rfl, hr, st⟩
    -- R3.1 3 := laws.go:277 assign
    refine WL.v (by first | exact r_assign (v := .pointer _) rfl | exact r_assign rfl) rfl rfl rfl ?_
    refine WL.fin hK684 (fun _ _ h => h) ?_
    refine WC.seq fun K685 hK685 => ?_
    refine WC.seq fun K686 hK686 => ?_
    -- region 4
    refine WC.region ?_
    -- R4.0 11 := laws.go:278 move
    refine WL.v (by first | exact r_move (v := .slice _ _ _) rfl | exact r_move rfl) rfl rfl rfl ?_
    -- R4.1 12 := laws.go:278 call
    refine WL.v (by exact r_len ty_usl22 rfl) rfl rfl rfl ?_
    -- R4.2 13 := laws.go:278 move
    refine WL.v (by first | exact r_move (v := .int _ _) rfl | exact r_move rfl) rfl rfl rfl ?_
    refine WL.fin hK686 (fun _ _ h => h) ?_
    refine WC.block ?_
    refine WC.loop (ι := DK × PD × Nat) (fun z => [(3, .pointer (some ⟨bs, 0, none⟩)), (11, .slice a n c), (12, .int .i64 (n : Nat)), (13, .int .i64 (z.2.2 : Nat))])
      (fun z w' => Rep z.1 z.2.1 ∧ z.2.2 ≤ n ∧ z.2.1.wr ≤ 128 * z.2.2 ∧ S0 w0 (sI bs z.1.bD :: DI z.1 0 []) w') (fun z => n - z.2.2) (D, newP 4096 8192, 0)
      ⟨hr, Nat.zero_le _, Nat.le_refl _, st⟩ ?_ ?_
    · skip
      repeat (first | exact sub_nil _ | refine sub_cons rfl rfl ?_)
    rintro ⟨D, P, i⟩ w ⟨h, hi, hwr, st⟩ K1 hK1
    dsimp only at h hi hwr st ⊢
    by_cases hlt : ¬ i < n
    · skip
      refine WC.seq fun K687 hK687 => ?_
      -- region 5
      refine WC.region ?_
      -- R5.0 14 := laws.go:278 binOp
      refine WL.v (by first | exact r_lss rfl rfl (decide_eq_true (by omega)) | exact r_lss rfl rfl (decide_eq_false (by omega)) | exact r_lss rfl rfl rfl) rfl rfl rfl ?_
      refine WL.fin hK687 (fun _ _ h => h) ?_
      refine WC.seq fun K688 hK688 => ?_
      refine WC.condF rfl rfl ?_
      refine WC.exitF hK685 (fun _ _ h => h) ?_
      refine WC.seq fun K689 hK689 => ?_
      -- region 14
      refine WC.region ?_
      -- R14.0 2 := laws.go:291 assign
      refine WL.v (by first | exact r_assign (v := .bool _) rfl | exact r_assign rfl) rfl rfl rfl ?_
      refine WL.fin hK689 (fun _ _ h => h) ?_
      refine WC.ret1 Tryd.results8 (fun _ _ h => h) rfl ?_
      exact ⟨_, rfl, rfl, st_none st⟩
    have hlt : i < n := by omega
    obtain rfl := ha (by omega)
    have hok := hS.ok hsm hlt
    have hw2 := step_wr (P := P) hok.datl
    by_cases hk : (op i).kind = 3
    rotate_left
    · skip
      refine WC.seq fun K690 hK690 => ?_
      -- region 5
      refine WC.region ?_
      -- R5.0 14 := laws.go:278 binOp
      refine WL.v (by first | exact r_lss rfl rfl (decide_eq_true (by omega)) | exact r_lss rfl rfl (decide_eq_false (by omega)) | exact r_lss rfl rfl rfl) rfl rfl rfl ?_
      refine WL.fin hK690 (fun _ _ h => h) ?_
      refine WC.seq fun K691 hK691 => ?_
      refine WC.condT rfl rfl ?_
      refine WC.skipF hK691 (fun _ _ h => h) ?_
      refine WC.seq fun K692 hK692 => ?_
      refine WC.block ?_
      refine WC.seq fun K693 hK693 => ?_
      -- region 6
      refine WC.region ?_
      -- R6.0 15 := laws.go:278 indexAddr
      refine WL.v (by exact r_indexS (j := i) ty_sl22 rfl rfl rfl hlt) rfl rfl rfl ?_
      -- R6.1 16 := laws.go:278 load
      refine WL.v (v := (op i).v) (by exact r_loadL (vs := opC (op i)) ty_agg33 rfl ⟨hS.ld hlt st 0 (by decide), hS.ld hlt st 1 (by decide), hS.ld hlt st 2 (by decide), hS.ld hlt st 3 (by decide), hS.ld hlt st 4 (by decide), hS.ld hlt st 5 (by decide), hS.ld hlt st 6 (by decide), hS.ld hlt st 7 (by decide), hS.ld hlt st 8 (by decide), trivial⟩) rfl rfl rfl ?_
      -- R6.2 5 := laws.go:278 alloc
      refine WL.alloc (m := 9) st ty_zero33 rfl rfl rfl ?_
      intro b5 w st
      -- R6.3 None := laws.go:278 store
      first | refine WL.storeW (vs := [_, _, _, _, _, _, _, _, _]) st ty_agg33 rfl rfl rfl rfl rfl rfl ?_ | refine WL.storeL (vs := [_, _, _, _, _, _, _, _, _]) st ty_agg33 rfl rfl rfl rfl (by first | decide | omega) rfl rfl ?_ | refine WL.storeW (vs := [_, _, _, _, _, _, _, _, _]) st.front1 ty_agg33 rfl rfl rfl rfl rfl rfl ?_ | refine WL.storeL (vs := [_, _, _, _, _, _, _, _, _]) st.front1 ty_agg33 rfl rfl rfl rfl (by first | decide | omega) rfl rfl ?_ | refine WL.storeW (vs := [_, _, _, _, _, _, _, _, _]) st.front2 ty_agg33 rfl rfl rfl rfl rfl rfl ?_ | refine WL.storeL (vs := [_, _, _, _, _, _, _, _, _]) st.front2 ty_agg33 rfl rfl rfl rfl (by first | decide | omega) rfl rfl ?_ | refine WL.storeW (vs := [_, _, _, _, _, _, _, _, _]) st.front3 ty_agg33 rfl rfl rfl rfl rfl rfl ?_ | refine WL.storeL (vs := [_, _, _, _, _, _, _, _, _]) st.front3 ty_agg33 rfl rfl rfl rfl (by first | decide | omega) rfl rfl ?_ | refine WL.storeW (vs := [_, _, _, _, _, _, _, _, _]) st.front4 ty_agg33 rfl rfl rfl rfl rfl rfl ?_ | refine WL.storeL (vs := [_, _, _, _, _, _, _, _, _]) st.front4 ty_agg33 rfl rfl rfl rfl (by first | decide | omega) rfl rfl ?_ | refine WL.storeW (vs := [_, _, _, _, _, _, _, _, _]) st.front5 ty_agg33 rfl rfl rfl rfl rfl rfl ?_ | refine WL.storeL (vs := [_, _, _, _, _, _, _, _, _]) st.front5 ty_agg33 rfl rfl rfl rfl (by first | decide | omega) rfl rfl ?_ | refine WL.storeW (vs := [_, _, _, _, _, _, _, _, _]) st.front6 ty_agg33 rfl rfl rfl rfl rfl rfl ?_ | refine WL.storeL (vs := [_, _, _, _, _, _, _, _, _]) st.front6 ty_agg33 rfl rfl rfl rfl (by first | decide | omega) rfl rfl ?_ | refine WL.storeW (vs := [_, _, _, _, _, _, _, _, _]) st.front7 ty_agg33 rfl rfl rfl rfl rfl rfl ?_ | refine WL.storeL (vs := [_, _, _, _, _, _, _, _, _]) st.front7 ty_agg33 rfl rfl rfl rfl (by first | decide | omega) rfl rfl ?_ | refine WL.storeW (vs := [_, _, _, _, _, _, _, _, _]) st.front8 ty_agg33 rfl rfl rfl rfl rfl rfl ?_ | refine WL.storeL (vs := [_, _, _, _, _, _, _, _, _]) st.front8 ty_agg33 rfl rfl rfl rfl (by first | decide | omega) rfl rfl ?_
      intro w st
      refine WL.fin hK693 (fun _ _ h => h) ?_
      refine WC.seq fun K694 hK694 => ?_
      refine WC.seq fun K695 hK695 => ?_
      -- region 7
      refine WC.region ?_
      -- R7.0 17 := laws.go:279 fieldAddr
      refine WL.v (by exact r_field ty_fld33_0 rfl) rfl rfl rfl ?_
      -- R7.1 18 := laws.go:279 load
      refine WL.v (by exact r_load1 ty_one28 rfl (by first | assumption | exact st.c0 (by first | decide | omega) | exact st.c1 (by first | decide | omega) | exact st.c2 (by first | decide | omega) | exact st.c3 (by first | decide | omega) | exact st.c4 (by first | decide | omega) | exact st.c5 (by first | decide | omega) | exact st.c6 (by first | decide | omega) | exact st.c7 (by first | decide | omega) | exact st.c8 (by first | decide | omega))) rfl rfl rfl ?_
      -- R7.2 19 := laws.go:279 binOp
      refine WL.v (by first | exact r_neq rfl rfl (decide_eq_true (by omega)) | exact r_neq rfl rfl (decide_eq_false (by omega)) | exact r_neq rfl rfl rfl) rfl rfl rfl ?_
      refine WL.fin hK695 (fun _ _ h => h) ?_
      refine WC.condT rfl rfl ?_
      refine WC.seq fun K696 hK696 => ?_
      -- region 8
      refine WC.region ?_
      -- R8.0 20 := laws.go:280 move
      refine WL.v (by first | exact r_move (v := .pointer _) rfl | exact r_move rfl) rfl rfl rfl ?_
      -- R8.1 21 := laws.go:280 load
      refine WL.v (by exact r_loadL (vs := [_, _, _, _, _, _, _, _, _]) ty_agg33 rfl ⟨(by first | assumption | exact st.c0 (by first | decide | omega) | exact st.c1 (by first | decide | omega) | exact st.c2 (by first | decide | omega) | exact st.c3 (by first | decide | omega) | exact st.c4 (by first | decide | omega) | exact st.c5 (by first | decide | omega) | exact st.c6 (by first | decide | omega) | exact st.c7 (by first | decide | omega) | exact st.c8 (by first | decide | omega)), (by first | assumption | exact st.c0 (by first | decide | omega) | exact st.c1 (by first | decide | omega) | exact st.c2 (by first | decide | omega) | exact st.c3 (by first | decide | omega) | exact st.c4 (by first | decide | omega) | exact st.c5 (by first | decide | omega) | exact st.c6 (by first | decide | omega) | exact st.c7 (by first | decide | omega) | exact st.c8 (by first | decide | omega)), (by first | assumption | exact st.c0 (by first | decide | omega) | exact st.c1 (by first | decide | omega) | exact st.c2 (by first | decide | omega) | exact st.c3 (by first | decide | omega) | exact st.c4 (by first | decide | omega) | exact st.c5 (by first | decide | omega) | exact st.c6 (by first | decide | omega) | exact st.c7 (by first | decide | omega) | exact st.c8 (by first | decide | omega)), (by first | assumption | exact st.c0 (by first | decide | omega) | exact st.c1 (by first | decide | omega) | exact st.c2 (by first | decide | omega) | exact st.c3 (by first | decide | omega) | exact st.c4 (by first | decide | omega) | exact st.c5 (by first | decide | omega) | exact st.c6 (by first | decide | omega) | exact st.c7 (by first | decide | omega) | exact st.c8 (by first | decide | omega)), (by first | assumption | exact st.c0 (by first | decide | omega) | exact st.c1 (by first | decide | omega) | exact st.c2 (by first | decide | omega) | exact st.c3 (by first | decide | omega) | exact st.c4 (by first | decide | omega) | exact st.c5 (by first | decide | omega) | exact st.c6 (by first | decide | omega) | exact st.c7 (by first | decide | omega) | exact st.c8 (by first | decide | omega)), (by first | assumption | exact st.c0 (by first | decide | omega) | exact st.c1 (by first | decide | omega) | exact st.c2 (by first | decide | omega) | exact st.c3 (by first | decide | omega) | exact st.c4 (by first | decide | omega) | exact st.c5 (by first | decide | omega) | exact st.c6 (by first | decide | omega) | exact st.c7 (by first | decide | omega) | exact st.c8 (by first | decide | omega)), (by first | assumption | exact st.c0 (by first | decide | omega) | exact st.c1 (by first | decide | omega) | exact st.c2 (by first | decide | omega) | exact st.c3 (by first | decide | omega) | exact st.c4 (by first | decide | omega) | exact st.c5 (by first | decide | omega) | exact st.c6 (by first | decide | omega) | exact st.c7 (by first | decide | omega) | exact st.c8 (by first | decide | omega)), (by first | assumption | exact st.c0 (by first | decide | omega) | exact st.c1 (by first | decide | omega) | exact st.c2 (by first | decide | omega) | exact st.c3 (by first | decide | omega) | exact st.c4 (by first | decide | omega) | exact st.c5 (by first | decide | omega) | exact st.c6 (by first | decide | omega) | exact st.c7 (by first | decide | omega) | exact st.c8 (by first | decide | omega)), (by first | assumption | exact st.c0 (by first | decide | omega) | exact st.c1 (by first | decide | omega) | exact st.c2 (by first | decide | omega) | exact st.c3 (by first | decide | omega) | exact st.c4 (by first | decide | omega) | exact st.c5 (by first | decide | omega) | exact st.c6 (by first | decide | omega) | exact st.c7 (by first | decide | omega) | exact st.c8 (by first | decide | omega)), trivial⟩) rfl rfl rfl ?_
      -- R8.2 22 := laws.go:280 call
      refine WL.call (r_call ty_call14 rfl) rfl rfl rfl (step_ok (o := op i) hg h hok (by omega) (st_inF [_, _] st.front1)) ?_
      rintro _ w ⟨D', dv, l1, h', rfl, hrv, st⟩
      refine WL.fin hK696 (fun _ _ h => h) ?_
      refine WC.exitF hK692 (fun _ _ h => h) ?_
      -- region 13
      refine WC.region ?_
      -- R13.0 50 := laws.go:278 binOp
      refine WL.v (by exact r_add (r := ((i + 1 : Nat) : Int)) rfl rfl ((wi64 (by omega) (by omega)).trans (by omega))) rfl rfl rfl ?_
      -- R13.1 13 := laws.go:278 move
      refine WL.v (by first | exact r_move (v := .int _ _) rfl | exact r_move rfl) rfl rfl rfl ?_
      refine WL.next hK1 (fun _ _ h => h) (D', (stepP P (op i)).1, i + 1) ⟨h', by show i + 1 ≤ n; omega, by show (stepP P (op i)).1.wr ≤ 128 * (i + 1); omega, (st_out st).sublist ((di_sub (List.nil_sublist _)).cons_cons _)⟩ (by show n - (i + 1) < n - i; omega) (by repeat (first | exact sub_nil _ | refine sub_cons rfl rfl ?_))
    have es : stepP P (op i) = syncP P := by unfold stepP; simp [hk]
    rcases hdn : P.down with _ | _
    rotate_left
    · have es2 : stepP P (op i) = (P, 3) := by rw [es]; unfold syncP; rw [hdn]; rfl
      rw [es2] at hw2
      refine WC.seq fun K697 hK697 => ?_
      -- region 5
      refine WC.region ?_
      -- R5.0 14 := laws.go:278 binOp
      refine WL.v (by first | exact r_lss rfl rfl (decide_eq_true (by omega)) | exact r_lss rfl rfl (decide_eq_false (by omega)) | exact r_lss rfl rfl rfl) rfl rfl rfl ?_
      refine WL.fin hK697 (fun _ _ h => h) ?_
      refine WC.seq fun K698 hK698 => ?_
      refine WC.condT rfl rfl ?_
      refine WC.skipF hK698 (fun _ _ h => h) ?_
      refine WC.seq fun K699 hK699 => ?_
      refine WC.block ?_
      refine WC.seq fun K700 hK700 => ?_
      -- region 6
      refine WC.region ?_
      -- R6.0 15 := laws.go:278 indexAddr
      refine WL.v (by exact r_indexS (j := i) ty_sl22 rfl rfl rfl hlt) rfl rfl rfl ?_
      -- R6.1 16 := laws.go:278 load
      refine WL.v (v := (op i).v) (by exact r_loadL (vs := opC (op i)) ty_agg33 rfl ⟨hS.ld hlt st 0 (by decide), hS.ld hlt st 1 (by decide), hS.ld hlt st 2 (by decide), hS.ld hlt st 3 (by decide), hS.ld hlt st 4 (by decide), hS.ld hlt st 5 (by decide), hS.ld hlt st 6 (by decide), hS.ld hlt st 7 (by decide), hS.ld hlt st 8 (by decide), trivial⟩) rfl rfl rfl ?_
      -- R6.2 5 := laws.go:278 alloc
      refine WL.alloc (m := 9) st ty_zero33 rfl rfl rfl ?_
      intro b5 w st
      -- R6.3 None := laws.go:278 store
      first | refine WL.storeW (vs := [_, _, _, _, _, _, _, _, _]) st ty_agg33 rfl rfl rfl rfl rfl rfl ?_ | refine WL.storeL (vs := [_, _, _, _, _, _, _, _, _]) st ty_agg33 rfl rfl rfl rfl (by first | decide | omega) rfl rfl ?_ | refine WL.storeW (vs := [_, _, _, _, _, _, _, _, _]) st.front1 ty_agg33 rfl rfl rfl rfl rfl rfl ?_ | refine WL.storeL (vs := [_, _, _, _, _, _, _, _, _]) st.front1 ty_agg33 rfl rfl rfl rfl (by first | decide | omega) rfl rfl ?_ | refine WL.storeW (vs := [_, _, _, _, _, _, _, _, _]) st.front2 ty_agg33 rfl rfl rfl rfl rfl rfl ?_ | refine WL.storeL (vs := [_, _, _, _, _, _, _, _, _]) st.front2 ty_agg33 rfl rfl rfl rfl (by first | decide | omega) rfl rfl ?_ | refine WL.storeW (vs := [_, _, _, _, _, _, _, _, _]) st.front3 ty_agg33 rfl rfl rfl rfl rfl rfl ?_ | refine WL.storeL (vs := [_, _, _, _, _, _, _, _, _]) st.front3 ty_agg33 rfl rfl rfl rfl (by first | decide | omega) rfl rfl ?_ | refine WL.storeW (vs := [_, _, _, _, _, _, _, _, _]) st.front4 ty_agg33 rfl rfl rfl rfl rfl rfl ?_ | refine WL.storeL (vs := [_, _, _, _, _, _, _, _, _]) st.front4 ty_agg33 rfl rfl rfl rfl (by first | decide | omega) rfl rfl ?_ | refine WL.storeW (vs := [_, _, _, _, _, _, _, _, _]) st.front5 ty_agg33 rfl rfl rfl rfl rfl rfl ?_ | refine WL.storeL (vs := [_, _, _, _, _, _, _, _, _]) st.front5 ty_agg33 rfl rfl rfl rfl (by first | decide | omega) rfl rfl ?_ | refine WL.storeW (vs := [_, _, _, _, _, _, _, _, _]) st.front6 ty_agg33 rfl rfl rfl rfl rfl rfl ?_ | refine WL.storeL (vs := [_, _, _, _, _, _, _, _, _]) st.front6 ty_agg33 rfl rfl rfl rfl (by first | decide | omega) rfl rfl ?_ | refine WL.storeW (vs := [_, _, _, _, _, _, _, _, _]) st.front7 ty_agg33 rfl rfl rfl rfl rfl rfl ?_ | refine WL.storeL (vs := [_, _, _, _, _, _, _, _, _]) st.front7 ty_agg33 rfl rfl rfl rfl (by first | decide | omega) rfl rfl ?_ | refine WL.storeW (vs := [_, _, _, _, _, _, _, _, _]) st.front8 ty_agg33 rfl rfl rfl rfl rfl rfl ?_ | refine WL.storeL (vs := [_, _, _, _, _, _, _, _, _]) st.front8 ty_agg33 rfl rfl rfl rfl (by first | decide | omega) rfl rfl ?_
      intro w st
      refine WL.fin hK700 (fun _ _ h => h) ?_
      refine WC.seq fun K701 hK701 => ?_
      refine WC.seq fun K702 hK702 => ?_
      -- region 7
      refine WC.region ?_
      -- R7.0 17 := laws.go:279 fieldAddr
      refine WL.v (by exact r_field ty_fld33_0 rfl) rfl rfl rfl ?_
      -- R7.1 18 := laws.go:279 load
      refine WL.v (by exact r_load1 ty_one28 rfl (by first | assumption | exact st.c0 (by first | decide | omega) | exact st.c1 (by first | decide | omega) | exact st.c2 (by first | decide | omega) | exact st.c3 (by first | decide | omega) | exact st.c4 (by first | decide | omega) | exact st.c5 (by first | decide | omega) | exact st.c6 (by first | decide | omega) | exact st.c7 (by first | decide | omega) | exact st.c8 (by first | decide | omega))) rfl rfl rfl ?_
      -- R7.2 19 := laws.go:279 binOp
      refine WL.v (by first | exact r_neq rfl rfl (decide_eq_true (by omega)) | exact r_neq rfl rfl (decide_eq_false (by omega)) | exact r_neq rfl rfl rfl) rfl rfl rfl ?_
      refine WL.fin hK702 (fun _ _ h => h) ?_
      refine WC.condF rfl rfl ?_
      refine WC.skipF hK701 (fun _ _ h => h) ?_
      refine WC.seq fun K703 hK703 => ?_
      -- region 9
      refine WC.region ?_
      -- R9.0 23 := laws.go:283 move
      refine WL.v (by first | exact r_move (v := .pointer _) rfl | exact r_move rfl) rfl rfl rfl ?_
      -- R9.1 24 := laws.go:283 call
      refine WL.call (r_call ty_call21 rfl) rfl rfl rfl (seen_ok (bs := bs) h (by simp) (st_inF [_, _] st)) ?_
      rintro _ w ⟨D', eD, h', hv⟩
      obtain ⟨_, rfl, st⟩ := hv.resolve_right (fun h => by rw [hdn] at h; cases h.1)
      have st := st_outF [_, _] st
      rw [← eD] at st
      -- R9.2 6 := laws.go:283 assign
      refine WL.v (by first | exact r_assign (v := .slice _ _ _) rfl | exact r_assign rfl) rfl rfl rfl ?_
      refine WL.fin hK703 (fun _ _ h => h) ?_
      refine WC.seq fun K704 hK704 => ?_
      refine WC.seq fun K705 hK705 => ?_
      -- region 10
      refine WC.region ?_
      -- R10.0 25 := laws.go:284 move
      refine WL.v (by first | exact r_move (v := .pointer _) rfl | exact r_move rfl) rfl rfl rfl ?_
      -- R10.1 26 := laws.go:284 load
      refine WL.v (by exact r_loadL (vs := [_, _, _, _, _, _, _, _, _]) ty_agg33 rfl ⟨(by first | assumption | exact st.c0 (by first | decide | omega) | exact st.c1 (by first | decide | omega) | exact st.c2 (by first | decide | omega) | exact st.c3 (by first | decide | omega) | exact st.c4 (by first | decide | omega) | exact st.c5 (by first | decide | omega) | exact st.c6 (by first | decide | omega) | exact st.c7 (by first | decide | omega) | exact st.c8 (by first | decide | omega)), (by first | assumption | exact st.c0 (by first | decide | omega) | exact st.c1 (by first | decide | omega) | exact st.c2 (by first | decide | omega) | exact st.c3 (by first | decide | omega) | exact st.c4 (by first | decide | omega) | exact st.c5 (by first | decide | omega) | exact st.c6 (by first | decide | omega) | exact st.c7 (by first | decide | omega) | exact st.c8 (by first | decide | omega)), (by first | assumption | exact st.c0 (by first | decide | omega) | exact st.c1 (by first | decide | omega) | exact st.c2 (by first | decide | omega) | exact st.c3 (by first | decide | omega) | exact st.c4 (by first | decide | omega) | exact st.c5 (by first | decide | omega) | exact st.c6 (by first | decide | omega) | exact st.c7 (by first | decide | omega) | exact st.c8 (by first | decide | omega)), (by first | assumption | exact st.c0 (by first | decide | omega) | exact st.c1 (by first | decide | omega) | exact st.c2 (by first | decide | omega) | exact st.c3 (by first | decide | omega) | exact st.c4 (by first | decide | omega) | exact st.c5 (by first | decide | omega) | exact st.c6 (by first | decide | omega) | exact st.c7 (by first | decide | omega) | exact st.c8 (by first | decide | omega)), (by first | assumption | exact st.c0 (by first | decide | omega) | exact st.c1 (by first | decide | omega) | exact st.c2 (by first | decide | omega) | exact st.c3 (by first | decide | omega) | exact st.c4 (by first | decide | omega) | exact st.c5 (by first | decide | omega) | exact st.c6 (by first | decide | omega) | exact st.c7 (by first | decide | omega) | exact st.c8 (by first | decide | omega)), (by first | assumption | exact st.c0 (by first | decide | omega) | exact st.c1 (by first | decide | omega) | exact st.c2 (by first | decide | omega) | exact st.c3 (by first | decide | omega) | exact st.c4 (by first | decide | omega) | exact st.c5 (by first | decide | omega) | exact st.c6 (by first | decide | omega) | exact st.c7 (by first | decide | omega) | exact st.c8 (by first | decide | omega)), (by first | assumption | exact st.c0 (by first | decide | omega) | exact st.c1 (by first | decide | omega) | exact st.c2 (by first | decide | omega) | exact st.c3 (by first | decide | omega) | exact st.c4 (by first | decide | omega) | exact st.c5 (by first | decide | omega) | exact st.c6 (by first | decide | omega) | exact st.c7 (by first | decide | omega) | exact st.c8 (by first | decide | omega)), (by first | assumption | exact st.c0 (by first | decide | omega) | exact st.c1 (by first | decide | omega) | exact st.c2 (by first | decide | omega) | exact st.c3 (by first | decide | omega) | exact st.c4 (by first | decide | omega) | exact st.c5 (by first | decide | omega) | exact st.c6 (by first | decide | omega) | exact st.c7 (by first | decide | omega) | exact st.c8 (by first | decide | omega)), (by first | assumption | exact st.c0 (by first | decide | omega) | exact st.c1 (by first | decide | omega) | exact st.c2 (by first | decide | omega) | exact st.c3 (by first | decide | omega) | exact st.c4 (by first | decide | omega) | exact st.c5 (by first | decide | omega) | exact st.c6 (by first | decide | omega) | exact st.c7 (by first | decide | omega) | exact st.c8 (by first | decide | omega)), trivial⟩) rfl rfl rfl ?_
      -- R10.2 27 := laws.go:284 call
      refine WL.call (r_call ty_call14 rfl) rfl rfl rfl (step_ok (o := op i) hg h' hok (by omega) (st_inF [_, _] st.front1)) ?_
      rintro _ w ⟨D2, dv, l1, h2, rfl, hrv, st⟩
      rw [es2]
      -- R10.3 28 := laws.go:284 field
      refine WL.v (by exact r_fieldv ty_fv37_0 rfl rfl) rfl rfl rfl ?_
      -- R10.4 29 := laws.go:284 binOp
      refine WL.v (by first | exact r_neq rfl rfl (decide_eq_true (by omega)) | exact r_neq rfl rfl (decide_eq_false (by omega)) | exact r_neq rfl rfl rfl) rfl rfl rfl ?_
      refine WL.fin hK705 (fun _ _ h => h) ?_
      refine WC.condT rfl rfl ?_
      refine WC.exitF hK699 (fun _ _ h => h) ?_
      -- region 13
      refine WC.region ?_
      -- R13.0 50 := laws.go:278 binOp
      refine WL.v (by exact r_add (r := ((i + 1 : Nat) : Int)) rfl rfl ((wi64 (by omega) (by omega)).trans (by omega))) rfl rfl rfl ?_
      -- R13.1 13 := laws.go:278 move
      refine WL.v (by first | exact r_move (v := .int _ _) rfl | exact r_move rfl) rfl rfl rfl ?_
      refine WL.next hK1 (fun _ _ h => h) (D2, (stepP P (op i)).1, i + 1) ⟨h2, by show i + 1 ≤ n; omega, by rw [es2]; show P.wr ≤ 128 * (i + 1); omega, (st_out st).sublist ((di_sub (List.nil_sublist _)).cons_cons _)⟩ (by show n - (i + 1) < n - i; omega) (by repeat (first | exact sub_nil _ | refine sub_cons rfl rfl ?_))
    obtain ⟨P2, hP2⟩ : ∃ P2 : PD, P2 = { P with pc := settle P.pc P.pend, pend := [] } := ⟨_, rfl⟩
    have es2 : stepP P (op i) = (P2, 0) := by rw [es, hP2]; unfold syncP; rw [hdn]; rfl
    have esec : P2.sec = P.sec := by rw [hP2]
    have epc : P2.pc = settle P.pc P.pend := by rw [hP2]
    have epe : P2.pend = [] := by rw [hP2]
    have edn : P2.down = false := by rw [hP2]; exact hdn
    have ese : settle P2.pc P2.pend = settle P.pc P.pend := by rw [epe, epc]; rfl
    have hsl : P.sec * 512 ≤ 1000000000000 := by have := h.s2; omega
    have hrg := h.seenr
    refine WC.seq fun K706 hK706 => ?_
    -- region 5
    refine WC.region ?_
    -- R5.0 14 := laws.go:278 binOp
    refine WL.v (by first | exact r_lss rfl rfl (decide_eq_true (by omega)) | exact r_lss rfl rfl (decide_eq_false (by omega)) | exact r_lss rfl rfl rfl) rfl rfl rfl ?_
    refine WL.fin hK706 (fun _ _ h => h) ?_
    refine WC.seq fun K707 hK707 => ?_
    refine WC.condT rfl rfl ?_
    refine WC.skipF hK707 (fun _ _ h => h) ?_
    refine WC.seq fun K708 hK708 => ?_
    refine WC.block ?_
    refine WC.seq fun K709 hK709 => ?_
    -- region 6
    refine WC.region ?_
    -- R6.0 15 := laws.go:278 indexAddr
    refine WL.v (by exact r_indexS (j := i) ty_sl22 rfl rfl rfl hlt) rfl rfl rfl ?_
    -- R6.1 16 := laws.go:278 load
    refine WL.v (v := (op i).v) (by exact r_loadL (vs := opC (op i)) ty_agg33 rfl ⟨hS.ld hlt st 0 (by decide), hS.ld hlt st 1 (by decide), hS.ld hlt st 2 (by decide), hS.ld hlt st 3 (by decide), hS.ld hlt st 4 (by decide), hS.ld hlt st 5 (by decide), hS.ld hlt st 6 (by decide), hS.ld hlt st 7 (by decide), hS.ld hlt st 8 (by decide), trivial⟩) rfl rfl rfl ?_
    -- R6.2 5 := laws.go:278 alloc
    refine WL.alloc (m := 9) st ty_zero33 rfl rfl rfl ?_
    intro b5 w st
    -- R6.3 None := laws.go:278 store
    first | refine WL.storeW (vs := [_, _, _, _, _, _, _, _, _]) st ty_agg33 rfl rfl rfl rfl rfl rfl ?_ | refine WL.storeL (vs := [_, _, _, _, _, _, _, _, _]) st ty_agg33 rfl rfl rfl rfl (by first | decide | omega) rfl rfl ?_ | refine WL.storeW (vs := [_, _, _, _, _, _, _, _, _]) st.front1 ty_agg33 rfl rfl rfl rfl rfl rfl ?_ | refine WL.storeL (vs := [_, _, _, _, _, _, _, _, _]) st.front1 ty_agg33 rfl rfl rfl rfl (by first | decide | omega) rfl rfl ?_ | refine WL.storeW (vs := [_, _, _, _, _, _, _, _, _]) st.front2 ty_agg33 rfl rfl rfl rfl rfl rfl ?_ | refine WL.storeL (vs := [_, _, _, _, _, _, _, _, _]) st.front2 ty_agg33 rfl rfl rfl rfl (by first | decide | omega) rfl rfl ?_ | refine WL.storeW (vs := [_, _, _, _, _, _, _, _, _]) st.front3 ty_agg33 rfl rfl rfl rfl rfl rfl ?_ | refine WL.storeL (vs := [_, _, _, _, _, _, _, _, _]) st.front3 ty_agg33 rfl rfl rfl rfl (by first | decide | omega) rfl rfl ?_ | refine WL.storeW (vs := [_, _, _, _, _, _, _, _, _]) st.front4 ty_agg33 rfl rfl rfl rfl rfl rfl ?_ | refine WL.storeL (vs := [_, _, _, _, _, _, _, _, _]) st.front4 ty_agg33 rfl rfl rfl rfl (by first | decide | omega) rfl rfl ?_ | refine WL.storeW (vs := [_, _, _, _, _, _, _, _, _]) st.front5 ty_agg33 rfl rfl rfl rfl rfl rfl ?_ | refine WL.storeL (vs := [_, _, _, _, _, _, _, _, _]) st.front5 ty_agg33 rfl rfl rfl rfl (by first | decide | omega) rfl rfl ?_ | refine WL.storeW (vs := [_, _, _, _, _, _, _, _, _]) st.front6 ty_agg33 rfl rfl rfl rfl rfl rfl ?_ | refine WL.storeL (vs := [_, _, _, _, _, _, _, _, _]) st.front6 ty_agg33 rfl rfl rfl rfl (by first | decide | omega) rfl rfl ?_ | refine WL.storeW (vs := [_, _, _, _, _, _, _, _, _]) st.front7 ty_agg33 rfl rfl rfl rfl rfl rfl ?_ | refine WL.storeL (vs := [_, _, _, _, _, _, _, _, _]) st.front7 ty_agg33 rfl rfl rfl rfl (by first | decide | omega) rfl rfl ?_ | refine WL.storeW (vs := [_, _, _, _, _, _, _, _, _]) st.front8 ty_agg33 rfl rfl rfl rfl rfl rfl ?_ | refine WL.storeL (vs := [_, _, _, _, _, _, _, _, _]) st.front8 ty_agg33 rfl rfl rfl rfl (by first | decide | omega) rfl rfl ?_
    intro w st
    refine WL.fin hK709 (fun _ _ h => h) ?_
    refine WC.seq fun K710 hK710 => ?_
    refine WC.seq fun K711 hK711 => ?_
    -- region 7
    refine WC.region ?_
    -- R7.0 17 := laws.go:279 fieldAddr
    refine WL.v (by exact r_field ty_fld33_0 rfl) rfl rfl rfl ?_
    -- R7.1 18 := laws.go:279 load
    refine WL.v (by exact r_load1 ty_one28 rfl (by first | assumption | exact st.c0 (by first | decide | omega) | exact st.c1 (by first | decide | omega) | exact st.c2 (by first | decide | omega) | exact st.c3 (by first | decide | omega) | exact st.c4 (by first | decide | omega) | exact st.c5 (by first | decide | omega) | exact st.c6 (by first | decide | omega) | exact st.c7 (by first | decide | omega) | exact st.c8 (by first | decide | omega))) rfl rfl rfl ?_
    -- R7.2 19 := laws.go:279 binOp
    refine WL.v (by first | exact r_neq rfl rfl (decide_eq_true (by omega)) | exact r_neq rfl rfl (decide_eq_false (by omega)) | exact r_neq rfl rfl rfl) rfl rfl rfl ?_
    refine WL.fin hK711 (fun _ _ h => h) ?_
    refine WC.condF rfl rfl ?_
    refine WC.skipF hK710 (fun _ _ h => h) ?_
    refine WC.seq fun K712 hK712 => ?_
    -- region 9
    refine WC.region ?_
    -- R9.0 23 := laws.go:283 move
    refine WL.v (by first | exact r_move (v := .pointer _) rfl | exact r_move rfl) rfl rfl rfl ?_
    -- R9.1 24 := laws.go:283 call
    refine WL.call (r_call ty_call21 rfl) rfl rfl rfl (seen_ok (bs := bs) h (by simp) (st_inF [_, _] st)) ?_
    rintro _ w ⟨D', eD, h', hv⟩
    obtain ⟨_, bb, rfl, st⟩ := hv.resolve_left (fun h => by rw [hdn] at h; cases h.1)
    have st := (st.perm ((di_pull [_, _]).cons _)).front2
    rw [← eD] at st
    -- R9.2 6 := laws.go:283 assign
    refine WL.v (by first | exact r_assign (v := .slice _ _ _) rfl | exact r_assign rfl) rfl rfl rfl ?_
    refine WL.fin hK712 (fun _ _ h => h) ?_
    refine WC.seq fun K713 hK713 => ?_
    refine WC.seq fun K714 hK714 => ?_
    -- region 10
    refine WC.region ?_
    -- R10.0 25 := laws.go:284 move
    refine WL.v (by first | exact r_move (v := .pointer _) rfl | exact r_move rfl) rfl rfl rfl ?_
    -- R10.1 26 := laws.go:284 load
    refine WL.v (by exact r_loadL (vs := [_, _, _, _, _, _, _, _, _]) ty_agg33 rfl ⟨st.c2 (by decide), st.c2 (by decide), st.c2 (by decide), st.c2 (by decide), st.c2 (by decide), st.c2 (by decide), st.c2 (by decide), st.c2 (by decide), st.c2 (by decide), trivial⟩) rfl rfl rfl ?_
    -- R10.2 27 := laws.go:284 call
    refine WL.call (r_call ty_call14 rfl) rfl rfl rfl (step_ok (o := op i) hg h' hok (by omega) (st_inF [_, _, _] st)) ?_
    rintro _ w ⟨D2, dv, l1, h2, rfl, hrv, st⟩
    rw [es2] at h2 ⊢
    dsimp only at h2 ⊢
    have st := st_outF [_, _, _] (st.sublist (di_sub (List.Sublist.cons_cons _ (List.sublist_append_right _ _))))
    have hp0 : D2.tl - D2.hd = 0 := by have := h2.hd; rw [epe] at this; have : D2.hd + 0 = D2.tl := this; omega
    -- R10.3 28 := laws.go:284 field
    refine WL.v (by exact r_fieldv ty_fv37_0 rfl rfl) rfl rfl rfl ?_
    -- R10.4 29 := laws.go:284 binOp
    refine WL.v (by first | exact r_neq rfl rfl (decide_eq_true (by omega)) | exact r_neq rfl rfl (decide_eq_false (by omega)) | exact r_neq rfl rfl rfl) rfl rfl rfl ?_
    refine WL.fin hK714 (fun _ _ h => h) ?_
    refine WC.condF rfl rfl ?_
    refine WC.skipF hK713 (fun _ _ h => h) ?_
    refine WC.seq fun K715 hK715 => ?_
    -- region 11
    refine WC.region ?_
    -- R11.0 30 := laws.go:287 move
    refine WL.v (by first | exact r_move (v := .pointer _) rfl | exact r_move rfl) rfl rfl rfl ?_
    -- R11.1 31 := laws.go:287 nilCheck
    refine WL.v (by exact r_nilCheck rfl) rfl rfl rfl ?_
    -- R11.2 32 := laws.go:287 fieldAddr
    refine WL.v (by exact r_field ty_fld42_0 rfl) rfl rfl rfl ?_
    -- R11.3 33 := laws.go:287 load
    refine WL.v (by exact r_load1 ty_one40 rfl (by first | assumption | exact st.c0 (by first | decide | omega) | exact st.c1 (by first | decide | omega) | exact st.c2 (by first | decide | omega) | exact st.c3 (by first | decide | omega) | exact st.c4 (by first | decide | omega) | exact st.c5 (by first | decide | omega) | exact st.c6 (by first | decide | omega) | exact st.c7 (by first | decide | omega) | exact st.c8 (by first | decide | omega))) rfl rfl rfl ?_
    -- R11.4 34 := laws.go:287 call
    refine WL.call (r_call ty_call18 rfl) rfl rfl rfl (pending_ok (by have := h2.hd; omega) (by have := h2.tl; have := h2.wr; omega) (st_inF [_, _, _] st)) ?_
    rintro _ w ⟨rfl, st⟩
    have st := st_outF [_, _, _] st
    rw [hp0]
    -- R11.5 35 := laws.go:287 binOp
    refine WL.v (by first | exact r_neq rfl rfl (decide_eq_true (by omega)) | exact r_neq rfl rfl (decide_eq_false (by omega)) | exact r_neq rfl rfl rfl) rfl rfl rfl ?_
    -- R11.6 36 := laws.go:287 move
    refine WL.v (by first | exact r_move (v := .bool _) rfl | exact r_move rfl) rfl rfl rfl ?_
    -- R11.7 37 := laws.go:287 move
    refine WL.v (by first | exact r_move (v := .pointer _) rfl | exact r_move rfl) rfl rfl rfl ?_
    -- R11.8 38 := laws.go:287 call
    refine WL.call (r_call ty_call20 rfl) rfl rfl rfl (platter_ok (bs := bs) h2 (by simp) (st_inF [_, _, _] st)) ?_
    rintro _ w ⟨b2, rfl, st⟩
    rw [esec, epc] at st
    rw [esec]
    have st := st.perm ((di_pull [_, _, _]).cons _)
    -- R11.9 39 := laws.go:287 move
    refine WL.v (by first | exact r_move (v := .slice _ _ _) rfl | exact r_move rfl) rfl rfl rfl ?_
    -- R11.10 40 := laws.go:287 call
    refine WL.call (r_call ty_call22 rfl) rfl rfl rfl (equal_ok (Sees.img (img_range hrg) hsl) (Sees.img (img_range hrg) hsl) (by intro x hx; simp only [List.mem_singleton] at hx; subst hx; exact List.mem_cons_self) (by intro x hx; simp only [List.mem_singleton] at hx; subst hx; exact List.mem_cons_of_mem _ (List.mem_cons_of_mem _ List.mem_cons_self)) st) ?_
    rintro _ w ⟨r, rfl, hr, st⟩
    obtain rfl := hr rfl
    -- R11.11 41 := laws.go:287 unOp
    refine WL.v (by first | exact r_notT rfl | exact r_notF rfl | exact r_not rfl) rfl rfl rfl ?_
    -- R11.12 42 := laws.go:287 pick
    refine WL.v (by first | exact r_pickT (v := .bool _) rfl rfl | exact r_pickF (v := .bool _) rfl rfl) rfl rfl rfl ?_
    -- R11.13 43 := laws.go:287 move
    refine WL.v (by first | exact r_move (v := .bool _) rfl | exact r_move rfl) rfl rfl rfl ?_
    -- R11.14 44 := laws.go:287 move
    refine WL.v (by first | exact r_move (v := .pointer _) rfl | exact r_move rfl) rfl rfl rfl ?_
    -- R11.15 45 := laws.go:287 call
    refine WL.call (r_call ty_call21 rfl) rfl rfl rfl (seen_ok (bs := bs) h2 (by simp) (st_inF [_, _, _, _] st)) ?_
    rintro _ w ⟨D3, eD3, h3, hv⟩
    obtain ⟨_, b3, rfl, st⟩ := hv.resolve_left (fun h => by rw [edn] at h; cases h.1)
    rw [esec, ese] at st
    rw [esec]
    have st := st.perm ((di_pull [_, _, _, _]).cons _)
    -- R11.16 46 := laws.go:287 move
    refine WL.v (by first | exact r_move (v := .slice _ _ _) rfl | exact r_move rfl) rfl rfl rfl ?_
    -- R11.17 47 := laws.go:287 call
    refine WL.call (r_call ty_call22 rfl) rfl rfl rfl (equal_ok (Sees.img (img_range hrg) hsl) (Sees.img (img_range hrg) hsl) (by intro x hx; simp only [List.mem_singleton] at hx; subst hx; exact List.mem_cons_self) (by intro x hx; simp only [List.mem_singleton] at hx; subst hx; exact List.mem_cons_of_mem _ (List.mem_cons_of_mem _ (List.mem_cons_of_mem _ List.mem_cons_self))) st) ?_
    rintro _ w ⟨r, rfl, hr, st⟩
    obtain rfl := hr rfl
    -- R11.18 48 := laws.go:287 unOp
    refine WL.v (by first | exact r_notT rfl | exact r_notF rfl | exact r_not rfl) rfl rfl rfl ?_
    -- R11.19 49 := laws.go:287 pick
    refine WL.v (by first | exact r_pickT (v := .bool _) rfl rfl | exact r_pickF (v := .bool _) rfl rfl) rfl rfl rfl ?_
    refine WL.fin hK715 (fun _ _ h => h) ?_
    refine WC.condF rfl rfl ?_
    refine WC.skipF hK708 (fun _ _ h => h) ?_
    -- region 13
    refine WC.region ?_
    -- R13.0 50 := laws.go:278 binOp
    refine WL.v (by exact r_add (r := ((i + 1 : Nat) : Int)) rfl rfl ((wi64 (by omega) (by omega)).trans (by omega))) rfl rfl rfl ?_
    -- R13.1 13 := laws.go:278 move
    refine WL.v (by first | exact r_move (v := .int _ _) rfl | exact r_move rfl) rfl rfl rfl ?_
    have ewr : P2.wr = P.wr := by rw [hP2]
    refine WL.next hK1 (fun _ _ h => h) (D3, P2, i + 1) ⟨h3, by show i + 1 ≤ n; omega, by show P2.wr ≤ 128 * (i + 1); omega, by rw [eD3]; exact st.drop.drop.drop1.drop1⟩ (by show n - (i + 1) < n - i; omega) (by repeat (first | exact sub_nil _ | refine sub_cons rfl rfl ?_))
  rw [hw0] at goal
  exact goal
end Go.Proofs.Qxb6500837aDoor

