import Derived.Test.Qxb6500837aDoorD16
set_option linter.unusedVariables false
set_option linter.unusedSimpArgs false
set_option maxRecDepth 20000
namespace Go.Proofs.Qxb6500837aDoor
open Go.RowKit Go.E1 Go.Disk
variable {w0 : World} {L L' l : List HI} {w : World} {D : DK} {m : Int} {P : PD} {q : Obj → Prop}

theorem st_out2 {x y : HI} (st : S0 w0 (DI D m (x :: y :: L)) w) : S0 w0 (x :: y :: DI D m L) w := st.perm (((di_front (L := L) (x := y)).symm.cons x).trans di_front.symm).symm
theorem rv_sl {d : Option (Nat × (Nat → Int))} {v : Value} {l1 : List HI} (h : RV d v l1) : ∃ a n c, v = .slice a n c := by
  cases d with
  | none => exact ⟨_, _, _, h.1⟩
  | some x => obtain ⟨bb, g, h, _⟩ := h; exact ⟨_, _, _, h⟩

def struckB (P : PD) (o : OP) : Bool := !P.down && (stepP P o).1.down && decide (o.kind ≠ 4)
def AI (P : PD) (ar : Bool) (start n : Int) : Prop := ar = P.armed ∧ 0 ≤ start ∧ start ≤ 1000000000000 ∧ (P.armed = true → 1 ≤ P.fuse ∧ start + n = P.wr + P.fuse)
def AO (P : PD) (o : OP) (ar : Bool) (start n : Int) : Prop :=
  (struckB P o = true → ar = true ∧ ((stepP P o).1.wr : Int) - start = n ∧ (stepP P o).1.armed = false) ∧
  (struckB P o = false → ar = (stepP P o).1.armed ∧ ((stepP P o).1.armed = true → 1 ≤ (stepP P o).1.fuse ∧ start + n = (stepP P o).1.wr + (stepP P o).1.fuse)) ∧ 0 ≤ start ∧ start ≤ 1000000000000

theorem ao_A {o : OP} {ar : Bool} {s n : Int} (h : AI P ar s n) (h0 : (stepP P o).2 = 0) (hk : o.kind = 0 ∨ o.kind = 4 ∨ o.kind = 6) : AO P o false s n := by
  obtain ⟨h1, h2, h3, h4⟩ := h
  rcases step_arm (P := P) (o := o) (fun h => (h4 h).1) with ⟨_, _, a, b⟩ | ⟨_, b, _⟩ | ⟨b, _⟩
  · have hs : struckB P o = false := by
      unfold struckB
      rcases b with b | b
      · simp [b]
      · cases hd : P.down with
        | true => rfl
        | false => rw [b hd]; rfl
    exact ⟨(fun h => by rw [hs] at h; cases h), fun _ => ⟨a.symm, fun h => by rw [a] at h; cases h⟩, h2, h3⟩
  · omega
  · exact absurd ⟨h0, by omega⟩ b
theorem ao_B {o : OP} {ar : Bool} {s n : Int} (h : AI P ar s n) (h0 : (stepP P o).2 = 0) (hk : o.kind = 5) (hw : P.wr ≤ 1000000000000) : AO P o true ((stepP P o).1.wr : Int) o.after := by
  obtain ⟨h1, h2, h3, h4⟩ := h
  rcases step_arm (P := P) (o := o) (fun h => (h4 h).1) with ⟨_, a, _⟩ | ⟨_, _, a, b, c, d, e⟩ | ⟨b, _⟩
  · omega
  · have hs : struckB P o = false := by unfold struckB; rw [e]; simp
    exact ⟨(fun h => by rw [hs] at h; cases h), fun _ => ⟨a.symm, fun _ => ⟨by omega, by omega⟩⟩, by omega, by omega⟩
  · exact absurd ⟨h0, by omega⟩ b
theorem ao_C {o : OP} {ar : Bool} {s n : Int} (h : AI P ar s n) (hk : ¬ ((stepP P o).2 = 0 ∧ (o.kind = 0 ∨ o.kind = 4 ∨ o.kind = 6 ∨ o.kind = 5))) : AO P o ar s n := by
  obtain ⟨h1, h2, h3, h4⟩ := h
  rcases step_arm (P := P) (o := o) (fun h => (h4 h).1) with ⟨a, b, _⟩ | ⟨a, b, _⟩ | ⟨_, ⟨a, b, c, d, e, f⟩ | ⟨a, b, c⟩⟩
  · exact absurd ⟨a, by omega⟩ hk
  · exact absurd ⟨a, by omega⟩ hk
  · have hs : struckB P o = true := by unfold struckB; rw [a, b]; simp [c]
    have := h4 d
    exact ⟨fun _ => ⟨h1.trans d, by omega, e⟩, (fun h => by rw [hs] at h; cases h), h2, h3⟩
  · have hs : struckB P o = false := by
      unfold struckB
      cases hd : P.down with
      | true => rfl
      | false => rw [a hd]; rfl
    exact ⟨(fun h => by rw [hs] at h; cases h), fun _ => ⟨h1.trans b.symm, fun h => by have x := b.symm.trans h; have := c x; have := h4 x; exact ⟨by omega, by omega⟩⟩, h2, h3⟩

set_option maxHeartbeats 32000000 in
theorem armed_ok (a : Option Addr) (sb so n c : Nat) (op : Nat → OP) {w : World} (hg : hG w) (hS : Scr w sb so n op) (hn63 : n ≤ 140737488355328) (ha : 0 < n → a = some ⟨sb, so, none⟩) :
    Calls Tryd.prog 9 #[.slice a n c] w (Ret fun v w' => v = .bool true ∧ S0 w [] w') := by
  have st0 := St.init w (fun _ => False)
  obtain ⟨w0, hw0⟩ : ∃ w0, w0 = w := ⟨w, rfl⟩
  have st : S0 w0 [] w := by rw [hw0]; exact st0
  clear st0
  have hg : hG w0 := by rw [hw0]; exact hg
  have hS : Scr w0 sb so n op := by rw [hw0]; exact hS
  have goal : Calls Tryd.prog 9 #[.slice a n c] w (Ret fun v w' => v = .bool true ∧ S0 w0 [] w') := by
    clear hw0
    refine enter [.slice a n c] Tryd.func9 rfl Tryd.ntmps9 rfl ?_
    show WC _ _ _ 92 [] [(0, .slice a n c)] _
    refine WC.seq fun K591 hK591 => ?_
    -- region 0
    refine WC.region ?_
    -- R0.0 2 := laws.go:298 assign
    refine WL.v (by first | exact r_assign (v := .bool _) rfl | exact r_assign rfl) rfl rfl rfl ?_
    refine WL.fin hK591 (fun _ _ h => h) ?_
    refine WC.seq fun K592 hK592 => ?_
    refine WC.seq fun K593 hK593 => ?_
    -- region 1
    refine WC.region ?_
    -- R1.0 14 := laws.go:299 move
    refine WL.v (by first | exact r_move (v := .slice _ _ _) rfl | exact r_move rfl) rfl rfl rfl ?_
    -- R1.1 15 := laws.go:299 call
    refine WL.call (r_call ty_call10 rfl) rfl rfl rfl (zzSmall1_ok a sb so n c op hS hn63 ha st) ?_
    rintro _ w ⟨t, rfl, hsm, st⟩
    -- R1.2 16 := laws.go:299 unOp
    refine WL.v (by first | exact r_notT rfl | exact r_notF rfl | exact r_not rfl) rfl rfl rfl ?_
    refine WL.fin hK593 (fun _ _ h => h) ?_
    rcases t with _ | _
    · skip
      refine WC.condT rfl rfl ?_
      refine WC.seq fun K594 hK594 => ?_
      -- region 2
      refine WC.region ?_
      -- R2.0 2 := laws.go:300 assign
      refine WL.v (by first | exact r_assign (v := .bool _) rfl | exact r_assign rfl) rfl rfl rfl ?_
      refine WL.fin hK594 (fun _ _ h => h) ?_
      refine WC.ret1 Tryd.results9 (fun _ _ h => h) rfl ?_
      exact ⟨_, rfl, rfl, st⟩
    have hsm := hsm rfl
    have hnn := hsm.1
    refine WC.condF rfl rfl ?_
    refine WC.skipF hK592 (fun _ _ h => h) ?_
    refine WC.seq fun K595 hK595 => ?_
    -- region 3
    refine WC.region ?_
    -- R3.0 17 := laws.go:303 call
    refine WL.call (r_call ty_call11 rfl) rfl rfl rfl (newStage_ok st) ?_
    rintro _ w ⟨D, bs, rfl, hr, st⟩
    -- R3.1 3 := laws.go:303 assign
    refine WL.v (by first | exact r_assign (v := .pointer _) rfl | exact r_assign rfl) rfl rfl rfl ?_
    refine WL.fin hK595 (fun _ _ h => h) ?_
    refine WC.seq fun K596 hK596 => ?_
    -- region 4
    refine WC.region ?_
    -- R4.0 4 := laws.go:304 assign
    refine WL.v (by first | exact r_assign (v := .bool _) rfl | exact r_assign rfl) rfl rfl rfl ?_
    -- R4.1 5 := laws.go:304 assign
    refine WL.v (by first | exact r_assign (v := .int _ _) rfl | exact r_assign rfl) rfl rfl rfl ?_
    -- R4.2 6 := laws.go:304 assign
    refine WL.v (by first | exact r_assign (v := .int _ _) rfl | exact r_assign rfl) rfl rfl rfl ?_
    refine WL.fin hK596 (fun _ _ h => h) ?_
    refine WC.seq fun K597 hK597 => ?_
    refine WC.seq fun K598 hK598 => ?_
    -- region 5
    refine WC.region ?_
    -- R5.0 18 := laws.go:305 move
    refine WL.v (by first | exact r_move (v := .slice _ _ _) rfl | exact r_move rfl) rfl rfl rfl ?_
    -- R5.1 19 := laws.go:305 call
    refine WL.v (by exact r_len ty_usl22 rfl) rfl rfl rfl ?_
    -- R5.2 20 := laws.go:305 move
    refine WL.v (by first | exact r_move (v := .int _ _) rfl | exact r_move rfl) rfl rfl rfl ?_
    refine WL.fin hK598 (fun _ _ h => h) ?_
    refine WC.block ?_
    refine WC.loop (ι := DK × PD × Nat × Bool × Int × Int) (fun z => [(3, .pointer (some ⟨bs, 0, none⟩)), (4, .bool z.2.2.2.1), (5, .int .i64 z.2.2.2.2.1), (6, .int .i64 z.2.2.2.2.2), (18, .slice a n c), (19, .int .i64 (n : Nat)), (20, .int .i64 (z.2.2.1 : Nat))])
      (fun z w' => Rep z.1 z.2.1 ∧ z.2.2.1 ≤ n ∧ z.2.1.wr ≤ 128 * z.2.2.1 ∧ AI z.2.1 z.2.2.2.1 z.2.2.2.2.1 z.2.2.2.2.2 ∧ S0 w0 (sI bs z.1.bD :: DI z.1 0 []) w') (fun z => n - z.2.2.1) (D, newP 4096 8192, 0, false, 0, 0)
      ⟨hr, Nat.zero_le _, Nat.le_refl _, ⟨rfl, Int.le_refl 0, (show (0 : Int) ≤ 1000000000000 by decide), fun h => by cases h⟩, st⟩ ?_ ?_
    · skip
      repeat (first | exact sub_nil _ | refine sub_cons rfl rfl ?_)
    rintro ⟨D, P, i, ar, s, k⟩ w ⟨h, hi, hwr, hai, st⟩ K1 hK1
    dsimp only at h hi hwr hai st ⊢
    by_cases hlt : ¬ i < n
    · skip
      refine WC.seq fun K599 hK599 => ?_
      -- region 6
      refine WC.region ?_
      -- R6.0 21 := laws.go:305 binOp
      refine WL.v (by first | exact r_lss rfl rfl (decide_eq_true (by omega)) | exact r_lss rfl rfl (decide_eq_false (by omega)) | exact r_lss rfl rfl rfl) rfl rfl rfl ?_
      refine WL.fin hK599 (fun _ _ h => h) ?_
      refine WC.seq fun K600 hK600 => ?_
      refine WC.condF rfl rfl ?_
      refine WC.exitF hK597 (fun _ _ h => h) ?_
      refine WC.seq fun K601 hK601 => ?_
      -- region 26
      refine WC.region ?_
      -- R26.0 2 := laws.go:326 assign
      refine WL.v (by first | exact r_assign (v := .bool _) rfl | exact r_assign rfl) rfl rfl rfl ?_
      refine WL.fin hK601 (fun _ _ h => h) ?_
      refine WC.ret1 Tryd.results9 (fun _ _ h => h) rfl ?_
      exact ⟨_, rfl, rfl, st_none st⟩
    have hlt : i < n := by omega
    obtain rfl := ha (by omega)
    have hok := hS.ok hsm hlt
    have hw2 := step_wr (P := P) hok.datl
    refine WC.seq fun K602 hK602 => ?_
    -- region 6
    refine WC.region ?_
    -- R6.0 21 := laws.go:305 binOp
    refine WL.v (by first | exact r_lss rfl rfl (decide_eq_true (by omega)) | exact r_lss rfl rfl (decide_eq_false (by omega)) | exact r_lss rfl rfl rfl) rfl rfl rfl ?_
    refine WL.fin hK602 (fun _ _ h => h) ?_
    refine WC.seq fun K603 hK603 => ?_
    refine WC.condT rfl rfl ?_
    refine WC.skipF hK603 (fun _ _ h => h) ?_
    refine WC.seq fun K604 hK604 => ?_
    refine WC.block ?_
    refine WC.seq fun K605 hK605 => ?_
    -- region 7
    refine WC.region ?_
    -- R7.0 22 := laws.go:305 indexAddr
    refine WL.v (by exact r_indexS (j := i) ty_sl22 rfl rfl rfl hlt) rfl rfl rfl ?_
    -- R7.1 23 := laws.go:305 load
    refine WL.v (v := (op i).v) (by exact r_loadL (vs := opC (op i)) ty_agg33 rfl ⟨hS.ld hlt st 0 (by decide), hS.ld hlt st 1 (by decide), hS.ld hlt st 2 (by decide), hS.ld hlt st 3 (by decide), hS.ld hlt st 4 (by decide), hS.ld hlt st 5 (by decide), hS.ld hlt st 6 (by decide), hS.ld hlt st 7 (by decide), hS.ld hlt st 8 (by decide), trivial⟩) rfl rfl rfl ?_
    -- R7.2 8 := laws.go:305 alloc
    refine WL.alloc (m := 9) st ty_zero33 rfl rfl rfl ?_
    intro b8 w st
    -- R7.3 None := laws.go:305 store
    first | refine WL.storeW (vs := [_, _, _, _, _, _, _, _, _]) st ty_agg33 rfl rfl rfl rfl rfl rfl ?_ | refine WL.storeL (vs := [_, _, _, _, _, _, _, _, _]) st ty_agg33 rfl rfl rfl rfl (by first | decide | omega) rfl rfl ?_ | refine WL.storeW (vs := [_, _, _, _, _, _, _, _, _]) st.front1 ty_agg33 rfl rfl rfl rfl rfl rfl ?_ | refine WL.storeL (vs := [_, _, _, _, _, _, _, _, _]) st.front1 ty_agg33 rfl rfl rfl rfl (by first | decide | omega) rfl rfl ?_ | refine WL.storeW (vs := [_, _, _, _, _, _, _, _, _]) st.front2 ty_agg33 rfl rfl rfl rfl rfl rfl ?_ | refine WL.storeL (vs := [_, _, _, _, _, _, _, _, _]) st.front2 ty_agg33 rfl rfl rfl rfl (by first | decide | omega) rfl rfl ?_ | refine WL.storeW (vs := [_, _, _, _, _, _, _, _, _]) st.front3 ty_agg33 rfl rfl rfl rfl rfl rfl ?_ | refine WL.storeL (vs := [_, _, _, _, _, _, _, _, _]) st.front3 ty_agg33 rfl rfl rfl rfl (by first | decide | omega) rfl rfl ?_ | refine WL.storeW (vs := [_, _, _, _, _, _, _, _, _]) st.front4 ty_agg33 rfl rfl rfl rfl rfl rfl ?_ | refine WL.storeL (vs := [_, _, _, _, _, _, _, _, _]) st.front4 ty_agg33 rfl rfl rfl rfl (by first | decide | omega) rfl rfl ?_ | refine WL.storeW (vs := [_, _, _, _, _, _, _, _, _]) st.front5 ty_agg33 rfl rfl rfl rfl rfl rfl ?_ | refine WL.storeL (vs := [_, _, _, _, _, _, _, _, _]) st.front5 ty_agg33 rfl rfl rfl rfl (by first | decide | omega) rfl rfl ?_ | refine WL.storeW (vs := [_, _, _, _, _, _, _, _, _]) st.front6 ty_agg33 rfl rfl rfl rfl rfl rfl ?_ | refine WL.storeL (vs := [_, _, _, _, _, _, _, _, _]) st.front6 ty_agg33 rfl rfl rfl rfl (by first | decide | omega) rfl rfl ?_ | refine WL.storeW (vs := [_, _, _, _, _, _, _, _, _]) st.front7 ty_agg33 rfl rfl rfl rfl rfl rfl ?_ | refine WL.storeL (vs := [_, _, _, _, _, _, _, _, _]) st.front7 ty_agg33 rfl rfl rfl rfl (by first | decide | omega) rfl rfl ?_ | refine WL.storeW (vs := [_, _, _, _, _, _, _, _, _]) st.front8 ty_agg33 rfl rfl rfl rfl rfl rfl ?_ | refine WL.storeL (vs := [_, _, _, _, _, _, _, _, _]) st.front8 ty_agg33 rfl rfl rfl rfl (by first | decide | omega) rfl rfl ?_
    intro w st
    refine WL.fin hK605 (fun _ _ h => h) ?_
    refine WC.seq fun K606 hK606 => ?_
    -- region 8
    refine WC.region ?_
    -- R8.0 24 := laws.go:306 move
    refine WL.v (by first | exact r_move (v := .pointer _) rfl | exact r_move rfl) rfl rfl rfl ?_
    -- R8.1 25 := laws.go:306 nilCheck
    refine WL.v (by exact r_nilCheck rfl) rfl rfl rfl ?_
    -- R8.2 26 := laws.go:306 fieldAddr
    refine WL.v (by exact r_field ty_fld42_0 rfl) rfl rfl rfl ?_
    -- R8.3 27 := laws.go:306 load
    refine WL.v (by exact r_load1 ty_one40 rfl (by first | assumption | exact st.c0 (by first | decide | omega) | exact st.c1 (by first | decide | omega) | exact st.c2 (by first | decide | omega) | exact st.c3 (by first | decide | omega) | exact st.c4 (by first | decide | omega) | exact st.c5 (by first | decide | omega) | exact st.c6 (by first | decide | omega) | exact st.c7 (by first | decide | omega) | exact st.c8 (by first | decide | omega))) rfl rfl rfl ?_
    -- R8.4 28 := laws.go:306 call
    refine WL.call (r_call ty_call17 rfl) rfl rfl rfl (isDown_ok (st_in2 st)) ?_
    rintro _ w ⟨rfl, st⟩
    have st := st_out2 st
    rw [h.down]
    -- R8.5 9 := laws.go:306 assign
    refine WL.v (by first | exact r_assign (v := .bool _) rfl | exact r_assign rfl) rfl rfl rfl ?_
    refine WL.fin hK606 (fun _ _ h => h) ?_
    refine WC.seq fun K607 hK607 => ?_
    -- region 9
    refine WC.region ?_
    -- R9.0 29 := laws.go:307 move
    refine WL.v (by first | exact r_move (v := .pointer _) rfl | exact r_move rfl) rfl rfl rfl ?_
    -- R9.1 30 := laws.go:307 load
    refine WL.v (by exact r_loadL (vs := [_, _, _, _, _, _, _, _, _]) ty_agg33 rfl ⟨(by first | assumption | exact st.c0 (by first | decide | omega) | exact st.c1 (by first | decide | omega) | exact st.c2 (by first | decide | omega) | exact st.c3 (by first | decide | omega) | exact st.c4 (by first | decide | omega) | exact st.c5 (by first | decide | omega) | exact st.c6 (by first | decide | omega) | exact st.c7 (by first | decide | omega) | exact st.c8 (by first | decide | omega)), (by first | assumption | exact st.c0 (by first | decide | omega) | exact st.c1 (by first | decide | omega) | exact st.c2 (by first | decide | omega) | exact st.c3 (by first | decide | omega) | exact st.c4 (by first | decide | omega) | exact st.c5 (by first | decide | omega) | exact st.c6 (by first | decide | omega) | exact st.c7 (by first | decide | omega) | exact st.c8 (by first | decide | omega)), (by first | assumption | exact st.c0 (by first | decide | omega) | exact st.c1 (by first | decide | omega) | exact st.c2 (by first | decide | omega) | exact st.c3 (by first | decide | omega) | exact st.c4 (by first | decide | omega) | exact st.c5 (by first | decide | omega) | exact st.c6 (by first | decide | omega) | exact st.c7 (by first | decide | omega) | exact st.c8 (by first | decide | omega)), (by first | assumption | exact st.c0 (by first | decide | omega) | exact st.c1 (by first | decide | omega) | exact st.c2 (by first | decide | omega) | exact st.c3 (by first | decide | omega) | exact st.c4 (by first | decide | omega) | exact st.c5 (by first | decide | omega) | exact st.c6 (by first | decide | omega) | exact st.c7 (by first | decide | omega) | exact st.c8 (by first | decide | omega)), (by first | assumption | exact st.c0 (by first | decide | omega) | exact st.c1 (by first | decide | omega) | exact st.c2 (by first | decide | omega) | exact st.c3 (by first | decide | omega) | exact st.c4 (by first | decide | omega) | exact st.c5 (by first | decide | omega) | exact st.c6 (by first | decide | omega) | exact st.c7 (by first | decide | omega) | exact st.c8 (by first | decide | omega)), (by first | assumption | exact st.c0 (by first | decide | omega) | exact st.c1 (by first | decide | omega) | exact st.c2 (by first | decide | omega) | exact st.c3 (by first | decide | omega) | exact st.c4 (by first | decide | omega) | exact st.c5 (by first | decide | omega) | exact st.c6 (by first | decide | omega) | exact st.c7 (by first | decide | omega) | exact st.c8 (by first | decide | omega)), (by first | assumption | exact st.c0 (by first | decide | omega) | exact st.c1 (by first | decide | omega) | exact st.c2 (by first | decide | omega) | exact st.c3 (by first | decide | omega) | exact st.c4 (by first | decide | omega) | exact st.c5 (by first | decide | omega) | exact st.c6 (by first | decide | omega) | exact st.c7 (by first | decide | omega) | exact st.c8 (by first | decide | omega)), (by first | assumption | exact st.c0 (by first | decide | omega) | exact st.c1 (by first | decide | omega) | exact st.c2 (by first | decide | omega) | exact st.c3 (by first | decide | omega) | exact st.c4 (by first | decide | omega) | exact st.c5 (by first | decide | omega) | exact st.c6 (by first | decide | omega) | exact st.c7 (by first | decide | omega) | exact st.c8 (by first | decide | omega)), (by first | assumption | exact st.c0 (by first | decide | omega) | exact st.c1 (by first | decide | omega) | exact st.c2 (by first | decide | omega) | exact st.c3 (by first | decide | omega) | exact st.c4 (by first | decide | omega) | exact st.c5 (by first | decide | omega) | exact st.c6 (by first | decide | omega) | exact st.c7 (by first | decide | omega) | exact st.c8 (by first | decide | omega)), trivial⟩) rfl rfl rfl ?_
    -- R9.2 31 := laws.go:307 call
    refine WL.call (r_call ty_call14 rfl) rfl rfl rfl (step_ok (o := op i) hg h hok (by omega) (st_in2 st.front1)) ?_
    rintro _ w ⟨D', dv, l1, h', rfl, hrv, st⟩
    obtain ⟨da, dn, dc, rfl⟩ := rv_sl hrv
    have st := st_out2 (st.sublist (di_sub (List.Sublist.cons_cons _ (List.sublist_append_right _ _))))
    -- R9.3 10 := laws.go:307 alloc
    refine WL.alloc (m := 2) st ty_zero37 rfl rfl rfl ?_
    intro b10 w st
    -- R9.4 None := laws.go:307 store
    first | refine WL.storeW (vs := [_, _]) st ty_agg37 rfl rfl rfl rfl rfl rfl ?_ | refine WL.storeL (vs := [_, _]) st ty_agg37 rfl rfl rfl rfl (by first | decide | omega) rfl rfl ?_ | refine WL.storeW (vs := [_, _]) st.front1 ty_agg37 rfl rfl rfl rfl rfl rfl ?_ | refine WL.storeL (vs := [_, _]) st.front1 ty_agg37 rfl rfl rfl rfl (by first | decide | omega) rfl rfl ?_ | refine WL.storeW (vs := [_, _]) st.front2 ty_agg37 rfl rfl rfl rfl rfl rfl ?_ | refine WL.storeL (vs := [_, _]) st.front2 ty_agg37 rfl rfl rfl rfl (by first | decide | omega) rfl rfl ?_ | refine WL.storeW (vs := [_, _]) st.front3 ty_agg37 rfl rfl rfl rfl rfl rfl ?_ | refine WL.storeL (vs := [_, _]) st.front3 ty_agg37 rfl rfl rfl rfl (by first | decide | omega) rfl rfl ?_ | refine WL.storeW (vs := [_, _]) st.front4 ty_agg37 rfl rfl rfl rfl rfl rfl ?_ | refine WL.storeL (vs := [_, _]) st.front4 ty_agg37 rfl rfl rfl rfl (by first | decide | omega) rfl rfl ?_ | refine WL.storeW (vs := [_, _]) st.front5 ty_agg37 rfl rfl rfl rfl rfl rfl ?_ | refine WL.storeL (vs := [_, _]) st.front5 ty_agg37 rfl rfl rfl rfl (by first | decide | omega) rfl rfl ?_ | refine WL.storeW (vs := [_, _]) st.front6 ty_agg37 rfl rfl rfl rfl rfl rfl ?_ | refine WL.storeL (vs := [_, _]) st.front6 ty_agg37 rfl rfl rfl rfl (by first | decide | omega) rfl rfl ?_ | refine WL.storeW (vs := [_, _]) st.front7 ty_agg37 rfl rfl rfl rfl rfl rfl ?_ | refine WL.storeL (vs := [_, _]) st.front7 ty_agg37 rfl rfl rfl rfl (by first | decide | omega) rfl rfl ?_ | refine WL.storeW (vs := [_, _]) st.front8 ty_agg37 rfl rfl rfl rfl rfl rfl ?_ | refine WL.storeL (vs := [_, _]) st.front8 ty_agg37 rfl rfl rfl rfl (by first | decide | omega) rfl rfl ?_
    intro w st
    refine WL.fin hK607 (fun _ _ h => h) ?_
    have hkind : True := trivial
    refine WC.cut (ι := Bool × Int × Int) (fun z => [(3, .pointer (some ⟨bs, 0, none⟩)), (4, .bool z.1), (5, .int .i64 z.2.1), (6, .int .i64 z.2.2), (8, .pointer (some ⟨b8, 0, none⟩)), (9, .bool P.down), (18, .slice (some ⟨sb, so, none⟩) n c), (19, .int .i64 (n : Nat)), (20, .int .i64 (i : Nat))])
      (fun z w' => AO P (op i) z.1 z.2.1 z.2.2 ∧ S0 w0 (sI bs D'.bD :: (b8, Row 33 9 (nth (opC (op i)))) :: DI D' 0 []) w') ?_ ?_
    rotate_left
    · intro KC hKC
      by_cases hc : (stepP P (op i)).2 = 0
      rotate_left
      · skip
        refine WC.seq fun K608 hK608 => ?_
        -- region 10
        refine WC.region ?_
        -- R10.0 32 := laws.go:308 fieldAddr
        refine WL.v (by exact r_field ty_fld37_0 rfl) rfl rfl rfl ?_
        -- R10.1 33 := laws.go:308 load
        refine WL.v (by exact r_load1 ty_one35 rfl (by first | assumption | exact st.c0 (by first | decide | omega) | exact st.c1 (by first | decide | omega) | exact st.c2 (by first | decide | omega) | exact st.c3 (by first | decide | omega) | exact st.c4 (by first | decide | omega) | exact st.c5 (by first | decide | omega) | exact st.c6 (by first | decide | omega) | exact st.c7 (by first | decide | omega) | exact st.c8 (by first | decide | omega))) rfl rfl rfl ?_
        -- R10.2 34 := laws.go:308 binOp
        refine WL.v (by first | exact r_eql rfl rfl (decide_eq_true (by omega)) | exact r_eql rfl rfl (decide_eq_false (by omega)) | exact r_eql rfl rfl rfl) rfl rfl rfl ?_
        refine WL.fin hK608 (fun _ _ h => h) ?_
        refine WC.condF rfl rfl ?_
        refine WC.skipJ hKC (fun _ _ h => h) (ar, s, k) ⟨ao_C hai (fun h => hc h.1), st.drop⟩ (by repeat (first | exact sub_nil _ | refine sub_cons rfl rfl ?_))
      by_cases hk0 : (op i).kind = 0
      · skip
        refine WC.seq fun K609 hK609 => ?_
        -- region 10
        refine WC.region ?_
        -- R10.0 32 := laws.go:308 fieldAddr
        refine WL.v (by exact r_field ty_fld37_0 rfl) rfl rfl rfl ?_
        -- R10.1 33 := laws.go:308 load
        refine WL.v (by exact r_load1 ty_one35 rfl (by first | assumption | exact st.c0 (by first | decide | omega) | exact st.c1 (by first | decide | omega) | exact st.c2 (by first | decide | omega) | exact st.c3 (by first | decide | omega) | exact st.c4 (by first | decide | omega) | exact st.c5 (by first | decide | omega) | exact st.c6 (by first | decide | omega) | exact st.c7 (by first | decide | omega) | exact st.c8 (by first | decide | omega))) rfl rfl rfl ?_
        -- R10.2 34 := laws.go:308 binOp
        refine WL.v (by first | exact r_eql rfl rfl (decide_eq_true (by omega)) | exact r_eql rfl rfl (decide_eq_false (by omega)) | exact r_eql rfl rfl rfl) rfl rfl rfl ?_
        refine WL.fin hK609 (fun _ _ h => h) ?_
        refine WC.condT rfl rfl ?_
        refine WC.seq fun K610 hK610 => ?_
        -- region 11
        refine WC.region ?_
        -- R11.0 35 := laws.go:309 fieldAddr
        refine WL.v (by exact r_field ty_fld33_0 rfl) rfl rfl rfl ?_
        -- R11.1 36 := laws.go:309 load
        refine WL.v (by exact r_load1 ty_one28 rfl (by first | assumption | exact st.c0 (by first | decide | omega) | exact st.c1 (by first | decide | omega) | exact st.c2 (by first | decide | omega) | exact st.c3 (by first | decide | omega) | exact st.c4 (by first | decide | omega) | exact st.c5 (by first | decide | omega) | exact st.c6 (by first | decide | omega) | exact st.c7 (by first | decide | omega) | exact st.c8 (by first | decide | omega))) rfl rfl rfl ?_
        refine WL.fin hK610 (fun _ _ h => h) ?_
        refine WC.block ?_
        refine WC.seq fun K611 hK611 => ?_
        refine WC.seq fun K612 hK612 => ?_
        -- region 12
        refine WC.region ?_
        -- R12.0 38 := laws.go:310 binOp
        refine WL.v (by first | exact r_eql rfl rfl (decide_eq_true (by omega)) | exact r_eql rfl rfl (decide_eq_false (by omega)) | exact r_eql rfl rfl rfl) rfl rfl rfl ?_
        -- R12.1 37 := laws.go:310 assign
        refine WL.v (by first | exact r_assign (v := .bool _) rfl | exact r_assign rfl) rfl rfl rfl ?_
        refine WL.fin hK612 (fun _ _ h => h) ?_
        refine WC.condT rfl rfl ?_
        refine WC.skipF hK611 (fun _ _ h => h) ?_
        refine WC.condT rfl rfl ?_
        -- region 15
        refine WC.region ?_
        -- R15.0 4 := laws.go:311 assign
        refine WL.v (by first | exact r_assign (v := .bool _) rfl | exact r_assign rfl) rfl rfl rfl ?_
        refine WL.join hKC (fun _ _ h => h) (false, s, k) ⟨ao_A hai hc (.inl hk0), st.drop⟩ (by repeat (first | exact sub_nil _ | refine sub_cons rfl rfl ?_))
      by_cases hk4 : (op i).kind = 4
      · skip
        refine WC.seq fun K613 hK613 => ?_
        -- region 10
        refine WC.region ?_
        -- R10.0 32 := laws.go:308 fieldAddr
        refine WL.v (by exact r_field ty_fld37_0 rfl) rfl rfl rfl ?_
        -- R10.1 33 := laws.go:308 load
        refine WL.v (by exact r_load1 ty_one35 rfl (by first | assumption | exact st.c0 (by first | decide | omega) | exact st.c1 (by first | decide | omega) | exact st.c2 (by first | decide | omega) | exact st.c3 (by first | decide | omega) | exact st.c4 (by first | decide | omega) | exact st.c5 (by first | decide | omega) | exact st.c6 (by first | decide | omega) | exact st.c7 (by first | decide | omega) | exact st.c8 (by first | decide | omega))) rfl rfl rfl ?_
        -- R10.2 34 := laws.go:308 binOp
        refine WL.v (by first | exact r_eql rfl rfl (decide_eq_true (by omega)) | exact r_eql rfl rfl (decide_eq_false (by omega)) | exact r_eql rfl rfl rfl) rfl rfl rfl ?_
        refine WL.fin hK613 (fun _ _ h => h) ?_
        refine WC.condT rfl rfl ?_
        refine WC.seq fun K614 hK614 => ?_
        -- region 11
        refine WC.region ?_
        -- R11.0 35 := laws.go:309 fieldAddr
        refine WL.v (by exact r_field ty_fld33_0 rfl) rfl rfl rfl ?_
        -- R11.1 36 := laws.go:309 load
        refine WL.v (by exact r_load1 ty_one28 rfl (by first | assumption | exact st.c0 (by first | decide | omega) | exact st.c1 (by first | decide | omega) | exact st.c2 (by first | decide | omega) | exact st.c3 (by first | decide | omega) | exact st.c4 (by first | decide | omega) | exact st.c5 (by first | decide | omega) | exact st.c6 (by first | decide | omega) | exact st.c7 (by first | decide | omega) | exact st.c8 (by first | decide | omega))) rfl rfl rfl ?_
        refine WL.fin hK614 (fun _ _ h => h) ?_
        refine WC.block ?_
        refine WC.seq fun K615 hK615 => ?_
        refine WC.seq fun K616 hK616 => ?_
        -- region 12
        refine WC.region ?_
        -- R12.0 38 := laws.go:310 binOp
        refine WL.v (by first | exact r_eql rfl rfl (decide_eq_true (by omega)) | exact r_eql rfl rfl (decide_eq_false (by omega)) | exact r_eql rfl rfl rfl) rfl rfl rfl ?_
        -- R12.1 37 := laws.go:310 assign
        refine WL.v (by first | exact r_assign (v := .bool _) rfl | exact r_assign rfl) rfl rfl rfl ?_
        refine WL.fin hK616 (fun _ _ h => h) ?_
        refine WC.condF rfl rfl ?_
        refine WC.seq fun K617 hK617 => ?_
        -- region 13
        refine WC.region ?_
        -- R13.0 39 := laws.go:310 binOp
        refine WL.v (by first | exact r_eql rfl rfl (decide_eq_true (by omega)) | exact r_eql rfl rfl (decide_eq_false (by omega)) | exact r_eql rfl rfl rfl) rfl rfl rfl ?_
        -- R13.1 37 := laws.go:310 assign
        refine WL.v (by first | exact r_assign (v := .bool _) rfl | exact r_assign rfl) rfl rfl rfl ?_
        refine WL.fin hK617 (fun _ _ h => h) ?_
        refine WC.condT rfl rfl ?_
        refine WC.skipF hK615 (fun _ _ h => h) ?_
        refine WC.condT rfl rfl ?_
        -- region 15
        refine WC.region ?_
        -- R15.0 4 := laws.go:311 assign
        refine WL.v (by first | exact r_assign (v := .bool _) rfl | exact r_assign rfl) rfl rfl rfl ?_
        refine WL.join hKC (fun _ _ h => h) (false, s, k) ⟨ao_A hai hc (.inr (.inl hk4)), st.drop⟩ (by repeat (first | exact sub_nil _ | refine sub_cons rfl rfl ?_))
      by_cases hk6 : (op i).kind = 6
      · skip
        refine WC.seq fun K618 hK618 => ?_
        -- region 10
        refine WC.region ?_
        -- R10.0 32 := laws.go:308 fieldAddr
        refine WL.v (by exact r_field ty_fld37_0 rfl) rfl rfl rfl ?_
        -- R10.1 33 := laws.go:308 load
        refine WL.v (by exact r_load1 ty_one35 rfl (by first | assumption | exact st.c0 (by first | decide | omega) | exact st.c1 (by first | decide | omega) | exact st.c2 (by first | decide | omega) | exact st.c3 (by first | decide | omega) | exact st.c4 (by first | decide | omega) | exact st.c5 (by first | decide | omega) | exact st.c6 (by first | decide | omega) | exact st.c7 (by first | decide | omega) | exact st.c8 (by first | decide | omega))) rfl rfl rfl ?_
        -- R10.2 34 := laws.go:308 binOp
        refine WL.v (by first | exact r_eql rfl rfl (decide_eq_true (by omega)) | exact r_eql rfl rfl (decide_eq_false (by omega)) | exact r_eql rfl rfl rfl) rfl rfl rfl ?_
        refine WL.fin hK618 (fun _ _ h => h) ?_
        refine WC.condT rfl rfl ?_
        refine WC.seq fun K619 hK619 => ?_
        -- region 11
        refine WC.region ?_
        -- R11.0 35 := laws.go:309 fieldAddr
        refine WL.v (by exact r_field ty_fld33_0 rfl) rfl rfl rfl ?_
        -- R11.1 36 := laws.go:309 load
        refine WL.v (by exact r_load1 ty_one28 rfl (by first | assumption | exact st.c0 (by first | decide | omega) | exact st.c1 (by first | decide | omega) | exact st.c2 (by first | decide | omega) | exact st.c3 (by first | decide | omega) | exact st.c4 (by first | decide | omega) | exact st.c5 (by first | decide | omega) | exact st.c6 (by first | decide | omega) | exact st.c7 (by first | decide | omega) | exact st.c8 (by first | decide | omega))) rfl rfl rfl ?_
        refine WL.fin hK619 (fun _ _ h => h) ?_
        refine WC.block ?_
        refine WC.seq fun K620 hK620 => ?_
        refine WC.seq fun K621 hK621 => ?_
        -- region 12
        refine WC.region ?_
        -- R12.0 38 := laws.go:310 binOp
        refine WL.v (by first | exact r_eql rfl rfl (decide_eq_true (by omega)) | exact r_eql rfl rfl (decide_eq_false (by omega)) | exact r_eql rfl rfl rfl) rfl rfl rfl ?_
        -- R12.1 37 := laws.go:310 assign
        refine WL.v (by first | exact r_assign (v := .bool _) rfl | exact r_assign rfl) rfl rfl rfl ?_
        refine WL.fin hK621 (fun _ _ h => h) ?_
        refine WC.condF rfl rfl ?_
        refine WC.seq fun K622 hK622 => ?_
        -- region 13
        refine WC.region ?_
        -- R13.0 39 := laws.go:310 binOp
        refine WL.v (by first | exact r_eql rfl rfl (decide_eq_true (by omega)) | exact r_eql rfl rfl (decide_eq_false (by omega)) | exact r_eql rfl rfl rfl) rfl rfl rfl ?_
        -- R13.1 37 := laws.go:310 assign
        refine WL.v (by first | exact r_assign (v := .bool _) rfl | exact r_assign rfl) rfl rfl rfl ?_
        refine WL.fin hK622 (fun _ _ h => h) ?_
        refine WC.condF rfl rfl ?_
        -- region 14
        refine WC.region ?_
        -- R14.0 40 := laws.go:310 binOp
        refine WL.v (by first | exact r_eql rfl rfl (decide_eq_true (by omega)) | exact r_eql rfl rfl (decide_eq_false (by omega)) | exact r_eql rfl rfl rfl) rfl rfl rfl ?_
        -- R14.1 37 := laws.go:310 assign
        refine WL.v (by first | exact r_assign (v := .bool _) rfl | exact r_assign rfl) rfl rfl rfl ?_
        refine WL.fin hK620 (fun _ _ h => h) ?_
        refine WC.condT rfl rfl ?_
        -- region 15
        refine WC.region ?_
        -- R15.0 4 := laws.go:311 assign
        refine WL.v (by first | exact r_assign (v := .bool _) rfl | exact r_assign rfl) rfl rfl rfl ?_
        refine WL.join hKC (fun _ _ h => h) (false, s, k) ⟨ao_A hai hc (.inr (.inr hk6)), st.drop⟩ (by repeat (first | exact sub_nil _ | refine sub_cons rfl rfl ?_))
      by_cases hk5 : (op i).kind = 5
      · skip
        refine WC.seq fun K623 hK623 => ?_
        -- region 10
        refine WC.region ?_
        -- R10.0 32 := laws.go:308 fieldAddr
        refine WL.v (by exact r_field ty_fld37_0 rfl) rfl rfl rfl ?_
        -- R10.1 33 := laws.go:308 load
        refine WL.v (by exact r_load1 ty_one35 rfl (by first | assumption | exact st.c0 (by first | decide | omega) | exact st.c1 (by first | decide | omega) | exact st.c2 (by first | decide | omega) | exact st.c3 (by first | decide | omega) | exact st.c4 (by first | decide | omega) | exact st.c5 (by first | decide | omega) | exact st.c6 (by first | decide | omega) | exact st.c7 (by first | decide | omega) | exact st.c8 (by first | decide | omega))) rfl rfl rfl ?_
        -- R10.2 34 := laws.go:308 binOp
        refine WL.v (by first | exact r_eql rfl rfl (decide_eq_true (by omega)) | exact r_eql rfl rfl (decide_eq_false (by omega)) | exact r_eql rfl rfl rfl) rfl rfl rfl ?_
        refine WL.fin hK623 (fun _ _ h => h) ?_
        refine WC.condT rfl rfl ?_
        refine WC.seq fun K624 hK624 => ?_
        -- region 11
        refine WC.region ?_
        -- R11.0 35 := laws.go:309 fieldAddr
        refine WL.v (by exact r_field ty_fld33_0 rfl) rfl rfl rfl ?_
        -- R11.1 36 := laws.go:309 load
        refine WL.v (by exact r_load1 ty_one28 rfl (by first | assumption | exact st.c0 (by first | decide | omega) | exact st.c1 (by first | decide | omega) | exact st.c2 (by first | decide | omega) | exact st.c3 (by first | decide | omega) | exact st.c4 (by first | decide | omega) | exact st.c5 (by first | decide | omega) | exact st.c6 (by first | decide | omega) | exact st.c7 (by first | decide | omega) | exact st.c8 (by first | decide | omega))) rfl rfl rfl ?_
        refine WL.fin hK624 (fun _ _ h => h) ?_
        refine WC.block ?_
        refine WC.seq fun K625 hK625 => ?_
        refine WC.seq fun K626 hK626 => ?_
        -- region 12
        refine WC.region ?_
        -- R12.0 38 := laws.go:310 binOp
        refine WL.v (by first | exact r_eql rfl rfl (decide_eq_true (by omega)) | exact r_eql rfl rfl (decide_eq_false (by omega)) | exact r_eql rfl rfl rfl) rfl rfl rfl ?_
        -- R12.1 37 := laws.go:310 assign
        refine WL.v (by first | exact r_assign (v := .bool _) rfl | exact r_assign rfl) rfl rfl rfl ?_
        refine WL.fin hK626 (fun _ _ h => h) ?_
        refine WC.condF rfl rfl ?_
        refine WC.seq fun K627 hK627 => ?_
        -- region 13
        refine WC.region ?_
        -- R13.0 39 := laws.go:310 binOp
        refine WL.v (by first | exact r_eql rfl rfl (decide_eq_true (by omega)) | exact r_eql rfl rfl (decide_eq_false (by omega)) | exact r_eql rfl rfl rfl) rfl rfl rfl ?_
        -- R13.1 37 := laws.go:310 assign
        refine WL.v (by first | exact r_assign (v := .bool _) rfl | exact r_assign rfl) rfl rfl rfl ?_
        refine WL.fin hK627 (fun _ _ h => h) ?_
        refine WC.condF rfl rfl ?_
        -- region 14
        refine WC.region ?_
        -- R14.0 40 := laws.go:310 binOp
        refine WL.v (by first | exact r_eql rfl rfl (decide_eq_true (by omega)) | exact r_eql rfl rfl (decide_eq_false (by omega)) | exact r_eql rfl rfl rfl) rfl rfl rfl ?_
        -- R14.1 37 := laws.go:310 assign
        refine WL.v (by first | exact r_assign (v := .bool _) rfl | exact r_assign rfl) rfl rfl rfl ?_
        refine WL.fin hK625 (fun _ _ h => h) ?_
        refine WC.condF rfl rfl ?_
        refine WC.seq fun K628 hK628 => ?_
        -- region 16
        refine WC.region ?_
        -- R16.0 42 := laws.go:312 binOp
        refine WL.v (by first | exact r_eql rfl rfl (decide_eq_true (by omega)) | exact r_eql rfl rfl (decide_eq_false (by omega)) | exact r_eql rfl rfl rfl) rfl rfl rfl ?_
        -- R16.1 41 := laws.go:312 assign
        refine WL.v (by first | exact r_assign (v := .bool _) rfl | exact r_assign rfl) rfl rfl rfl ?_
        refine WL.fin hK628 (fun _ _ h => h) ?_
        refine WC.condT rfl rfl ?_
        -- region 17 (draws)
        refine WC.quietS st ty_mixed (by kernel_rfl) fun Kq hKq => ?_
        -- R17.0 43 := laws.go:313 move
        refine QL.v (fun w st => by first | exact r_move (v := .pointer _) rfl | exact r_move rfl) rfl rfl rfl ?_
        -- R17.1 44 := laws.go:313 nilCheck
        refine QL.v (fun w st => by exact r_nilCheck rfl) rfl rfl rfl ?_
        -- R17.2 45 := laws.go:313 fieldAddr
        refine QL.v (fun w st => by exact r_field ty_fld42_0 rfl) rfl rfl rfl ?_
        -- R17.3 46 := laws.go:313 load
        refine QL.v (fun w st => by exact r_load1 ty_one40 rfl (by first | assumption | exact st.c0 (by first | decide | omega) | exact st.c1 (by first | decide | omega) | exact st.c2 (by first | decide | omega) | exact st.c3 (by first | decide | omega) | exact st.c4 (by first | decide | omega) | exact st.c5 (by first | decide | omega) | exact st.c6 (by first | decide | omega) | exact st.c7 (by first | decide | omega) | exact st.c8 (by first | decide | omega))) rfl rfl rfl ?_
        -- R17.4 47 := laws.go:313 call
        refine QL.call (val := .agg #[.int .i64 (D'.sx 0), .int .i64 ((stepP P (op i)).1.wr : Int), .int .i64 (D'.sx 2), .int .i64 (D'.sx 3), .int .i64 (D'.sx 4), .int .i64 (D'.sx 5), .int .i64 (D'.sx 6), .int .i64 (D'.sx 7)]) (fun w st => r_call ty_call32 rfl) rfl rfl rfl (fun w st => (stats_ok (st_in3 st)).mono fun e w' he => by obtain ⟨v, rfl, rfl, st⟩ := he; exact ⟨_, rfl, by rw [h'.sx], st_out3 st⟩) ?_
        -- R17.5 48 := laws.go:313 field
        refine QL.v (fun w st => by exact r_fieldv ty_fv67_1 rfl rfl) rfl rfl rfl ?_
        -- R17.6 49 := laws.go:313 fieldAddr
        refine QL.v (fun w st => by exact r_field ty_fld33_5 rfl) rfl rfl rfl ?_
        -- R17.7 50 := laws.go:313 load
        refine QL.v (fun w st => by exact r_load1 ty_one2 rfl (by first | assumption | exact st.c0 (by first | decide | omega) | exact st.c1 (by first | decide | omega) | exact st.c2 (by first | decide | omega) | exact st.c3 (by first | decide | omega) | exact st.c4 (by first | decide | omega) | exact st.c5 (by first | decide | omega) | exact st.c6 (by first | decide | omega) | exact st.c7 (by first | decide | omega) | exact st.c8 (by first | decide | omega))) rfl rfl rfl ?_
        -- R17.8 4 := laws.go:313 assign
        refine QL.v (fun w st => by first | exact r_assign (v := .bool _) rfl | exact r_assign rfl) rfl rfl rfl ?_
        -- R17.9 5 := laws.go:313 assign
        refine QL.v (fun w st => by first | exact r_assign (v := .int _ _) rfl | exact r_assign rfl) rfl rfl rfl ?_
        -- R17.10 6 := laws.go:313 assign
        refine QL.v (fun w st => by first | exact r_assign (v := .int _ _) rfl | exact r_assign rfl) rfl rfl rfl ?_
        refine QL.wl hKq fun w st => ?_
        refine WL.join hKC (fun _ _ h => h) (true, ((stepP P (op i)).1.wr : Int), (op i).after) ⟨ao_B hai hc hk5 (by omega), st.drop⟩ (by repeat (first | exact sub_nil _ | refine sub_cons rfl rfl ?_))
      · skip
        refine WC.seq fun K629 hK629 => ?_
        -- region 10
        refine WC.region ?_
        -- R10.0 32 := laws.go:308 fieldAddr
        refine WL.v (by exact r_field ty_fld37_0 rfl) rfl rfl rfl ?_
        -- R10.1 33 := laws.go:308 load
        refine WL.v (by exact r_load1 ty_one35 rfl (by first | assumption | exact st.c0 (by first | decide | omega) | exact st.c1 (by first | decide | omega) | exact st.c2 (by first | decide | omega) | exact st.c3 (by first | decide | omega) | exact st.c4 (by first | decide | omega) | exact st.c5 (by first | decide | omega) | exact st.c6 (by first | decide | omega) | exact st.c7 (by first | decide | omega) | exact st.c8 (by first | decide | omega))) rfl rfl rfl ?_
        -- R10.2 34 := laws.go:308 binOp
        refine WL.v (by first | exact r_eql rfl rfl (decide_eq_true (by omega)) | exact r_eql rfl rfl (decide_eq_false (by omega)) | exact r_eql rfl rfl rfl) rfl rfl rfl ?_
        refine WL.fin hK629 (fun _ _ h => h) ?_
        refine WC.condT rfl rfl ?_
        refine WC.seq fun K630 hK630 => ?_
        -- region 11
        refine WC.region ?_
        -- R11.0 35 := laws.go:309 fieldAddr
        refine WL.v (by exact r_field ty_fld33_0 rfl) rfl rfl rfl ?_
        -- R11.1 36 := laws.go:309 load
        refine WL.v (by exact r_load1 ty_one28 rfl (by first | assumption | exact st.c0 (by first | decide | omega) | exact st.c1 (by first | decide | omega) | exact st.c2 (by first | decide | omega) | exact st.c3 (by first | decide | omega) | exact st.c4 (by first | decide | omega) | exact st.c5 (by first | decide | omega) | exact st.c6 (by first | decide | omega) | exact st.c7 (by first | decide | omega) | exact st.c8 (by first | decide | omega))) rfl rfl rfl ?_
        refine WL.fin hK630 (fun _ _ h => h) ?_
        refine WC.block ?_
        refine WC.seq fun K631 hK631 => ?_
        refine WC.seq fun K632 hK632 => ?_
        -- region 12
        refine WC.region ?_
        -- R12.0 38 := laws.go:310 binOp
        refine WL.v (by first | exact r_eql rfl rfl (decide_eq_true (by omega)) | exact r_eql rfl rfl (decide_eq_false (by omega)) | exact r_eql rfl rfl rfl) rfl rfl rfl ?_
        -- R12.1 37 := laws.go:310 assign
        refine WL.v (by first | exact r_assign (v := .bool _) rfl | exact r_assign rfl) rfl rfl rfl ?_
        refine WL.fin hK632 (fun _ _ h => h) ?_
        refine WC.condF rfl rfl ?_
        refine WC.seq fun K633 hK633 => ?_
        -- region 13
        refine WC.region ?_
        -- R13.0 39 := laws.go:310 binOp
        refine WL.v (by first | exact r_eql rfl rfl (decide_eq_true (by omega)) | exact r_eql rfl rfl (decide_eq_false (by omega)) | exact r_eql rfl rfl rfl) rfl rfl rfl ?_
        -- R13.1 37 := laws.go:310 assign
        refine WL.v (by first | exact r_assign (v := .bool _) rfl | exact r_assign rfl) rfl rfl rfl ?_
        refine WL.fin hK633 (fun _ _ h => h) ?_
        refine WC.condF rfl rfl ?_
        -- region 14
        refine WC.region ?_
        -- R14.0 40 := laws.go:310 binOp
        refine WL.v (by first | exact r_eql rfl rfl (decide_eq_true (by omega)) | exact r_eql rfl rfl (decide_eq_false (by omega)) | exact r_eql rfl rfl rfl) rfl rfl rfl ?_
        -- R14.1 37 := laws.go:310 assign
        refine WL.v (by first | exact r_assign (v := .bool _) rfl | exact r_assign rfl) rfl rfl rfl ?_
        refine WL.fin hK631 (fun _ _ h => h) ?_
        refine WC.condF rfl rfl ?_
        refine WC.seq fun K634 hK634 => ?_
        -- region 16
        refine WC.region ?_
        -- R16.0 42 := laws.go:312 binOp
        refine WL.v (by first | exact r_eql rfl rfl (decide_eq_true (by omega)) | exact r_eql rfl rfl (decide_eq_false (by omega)) | exact r_eql rfl rfl rfl) rfl rfl rfl ?_
        -- R16.1 41 := laws.go:312 assign
        refine WL.v (by first | exact r_assign (v := .bool _) rfl | exact r_assign rfl) rfl rfl rfl ?_
        refine WL.fin hK634 (fun _ _ h => h) ?_
        refine WC.condF rfl rfl ?_
        refine WC.skipJ hKC (fun _ _ h => h) (ar, s, k) ⟨ao_C hai (fun h => by omega), st.drop⟩ (by repeat (first | exact sub_nil _ | refine sub_cons rfl rfl ?_))
    rintro ⟨ar', s', k'⟩ w ⟨hao, st⟩
    dsimp only at hao ⊢
    have hwr' := h'.wr
    refine WC.cut (ι := Unit) (fun _ => [(3, .pointer (some ⟨bs, 0, none⟩)), (4, .bool ar'), (5, .int .i64 s'), (6, .int .i64 k'), (11, .bool (struckB P (op i))), (18, .slice (some ⟨sb, so, none⟩) n c), (19, .int .i64 (n : Nat)), (20, .int .i64 (i : Nat))])
      (fun _ w' => S0 w0 (sI bs D'.bD :: (b8, Row 33 9 (nth (opC (op i)))) :: DI D' 0 []) w') ?_ ?_
    rotate_left
    · intro KC hKC
      rcases hd : P.down with _ | _
      rotate_left
      · have e : struckB P (op i) = false := by unfold struckB; rw [hd]; rfl
        rw [e] at hKC
        -- region 18
        refine WC.region ?_
        -- R18.0 51 := laws.go:316 move
        refine WL.v (by first | exact r_move (v := .bool _) rfl | exact r_move rfl) rfl rfl rfl ?_
        -- R18.1 52 := laws.go:316 unOp
        refine WL.v (by first | exact r_notT rfl | exact r_notF rfl | exact r_not rfl) rfl rfl rfl ?_
        -- R18.2 53 := laws.go:316 move
        refine WL.v (by first | exact r_move (v := .bool _) rfl | exact r_move rfl) rfl rfl rfl ?_
        -- R18.3 54 := laws.go:316 move
        refine WL.no rfl rfl ?_
        -- R18.4 55 := laws.go:316 nilCheck
        refine WL.no rfl rfl ?_
        -- R18.5 56 := laws.go:316 fieldAddr
        refine WL.no rfl rfl ?_
        -- R18.6 57 := laws.go:316 load
        refine WL.no rfl rfl ?_
        -- R18.7 58 := laws.go:316 call
        refine WL.no rfl rfl ?_
        -- R18.8 59 := laws.go:316 pick
        refine WL.v (by first | exact r_pickT (v := .bool _) rfl rfl | exact r_pickF (v := .bool _) rfl rfl) rfl rfl rfl ?_
        -- R18.9 60 := laws.go:316 move
        refine WL.v (by first | exact r_move (v := .bool _) rfl | exact r_move rfl) rfl rfl rfl ?_
        -- R18.10 61 := laws.go:316 fieldAddr
        refine WL.no rfl rfl ?_
        -- R18.11 62 := laws.go:316 load
        refine WL.no rfl rfl ?_
        -- R18.12 63 := laws.go:316 binOp
        refine WL.no rfl rfl ?_
        -- R18.13 64 := laws.go:316 pick
        refine WL.v (by first | exact r_pickT (v := .bool _) rfl rfl | exact r_pickF (v := .bool _) rfl rfl) rfl rfl rfl ?_
        -- R18.14 11 := laws.go:316 assign
        refine WL.v (by first | exact r_assign (v := .bool _) rfl | exact r_assign rfl) rfl rfl rfl ?_
        refine WL.join hKC (fun _ _ h => h) () st (by repeat (first | exact sub_nil _ | refine sub_cons rfl rfl ?_))
      rcases hd2 : (stepP P (op i)).1.down with _ | _
      · have e : struckB P (op i) = false := by unfold struckB; rw [hd, hd2]; rfl
        rw [e] at hKC
        -- region 18
        refine WC.region ?_
        -- R18.0 51 := laws.go:316 move
        refine WL.v (by first | exact r_move (v := .bool _) rfl | exact r_move rfl) rfl rfl rfl ?_
        -- R18.1 52 := laws.go:316 unOp
        refine WL.v (by first | exact r_notT rfl | exact r_notF rfl | exact r_not rfl) rfl rfl rfl ?_
        -- R18.2 53 := laws.go:316 move
        refine WL.v (by first | exact r_move (v := .bool _) rfl | exact r_move rfl) rfl rfl rfl ?_
        -- R18.3 54 := laws.go:316 move
        refine WL.v (by first | exact r_move (v := .pointer _) rfl | exact r_move rfl) rfl rfl rfl ?_
        -- R18.4 55 := laws.go:316 nilCheck
        refine WL.v (by exact r_nilCheck rfl) rfl rfl rfl ?_
        -- R18.5 56 := laws.go:316 fieldAddr
        refine WL.v (by exact r_field ty_fld42_0 rfl) rfl rfl rfl ?_
        -- R18.6 57 := laws.go:316 load
        refine WL.v (by exact r_load1 ty_one40 rfl (by first | assumption | exact st.c0 (by first | decide | omega) | exact st.c1 (by first | decide | omega) | exact st.c2 (by first | decide | omega) | exact st.c3 (by first | decide | omega) | exact st.c4 (by first | decide | omega) | exact st.c5 (by first | decide | omega) | exact st.c6 (by first | decide | omega) | exact st.c7 (by first | decide | omega) | exact st.c8 (by first | decide | omega))) rfl rfl rfl ?_
        -- R18.7 58 := laws.go:316 call
        refine WL.call (r_call ty_call17 rfl) rfl rfl rfl (isDown_ok (st_in2 st)) ?_
        rintro _ w ⟨rfl, st⟩
        have st := st_out2 st
        rw [h'.down, hd2]
        -- R18.8 59 := laws.go:316 pick
        refine WL.v (by first | exact r_pickT (v := .bool _) rfl rfl | exact r_pickF (v := .bool _) rfl rfl) rfl rfl rfl ?_
        -- R18.9 60 := laws.go:316 move
        refine WL.v (by first | exact r_move (v := .bool _) rfl | exact r_move rfl) rfl rfl rfl ?_
        -- R18.10 61 := laws.go:316 fieldAddr
        refine WL.no rfl rfl ?_
        -- R18.11 62 := laws.go:316 load
        refine WL.no rfl rfl ?_
        -- R18.12 63 := laws.go:316 binOp
        refine WL.no rfl rfl ?_
        -- R18.13 64 := laws.go:316 pick
        refine WL.v (by first | exact r_pickT (v := .bool _) rfl rfl | exact r_pickF (v := .bool _) rfl rfl) rfl rfl rfl ?_
        -- R18.14 11 := laws.go:316 assign
        refine WL.v (by first | exact r_assign (v := .bool _) rfl | exact r_assign rfl) rfl rfl rfl ?_
        refine WL.join hKC (fun _ _ h => h) () st (by repeat (first | exact sub_nil _ | refine sub_cons rfl rfl ?_))
      by_cases hk4 : (op i).kind = 4
      · have e : struckB P (op i) = false := by unfold struckB; rw [hd, hd2]; simp [hk4]
        rw [e] at hKC
        -- region 18
        refine WC.region ?_
        -- R18.0 51 := laws.go:316 move
        refine WL.v (by first | exact r_move (v := .bool _) rfl | exact r_move rfl) rfl rfl rfl ?_
        -- R18.1 52 := laws.go:316 unOp
        refine WL.v (by first | exact r_notT rfl | exact r_notF rfl | exact r_not rfl) rfl rfl rfl ?_
        -- R18.2 53 := laws.go:316 move
        refine WL.v (by first | exact r_move (v := .bool _) rfl | exact r_move rfl) rfl rfl rfl ?_
        -- R18.3 54 := laws.go:316 move
        refine WL.v (by first | exact r_move (v := .pointer _) rfl | exact r_move rfl) rfl rfl rfl ?_
        -- R18.4 55 := laws.go:316 nilCheck
        refine WL.v (by exact r_nilCheck rfl) rfl rfl rfl ?_
        -- R18.5 56 := laws.go:316 fieldAddr
        refine WL.v (by exact r_field ty_fld42_0 rfl) rfl rfl rfl ?_
        -- R18.6 57 := laws.go:316 load
        refine WL.v (by exact r_load1 ty_one40 rfl (by first | assumption | exact st.c0 (by first | decide | omega) | exact st.c1 (by first | decide | omega) | exact st.c2 (by first | decide | omega) | exact st.c3 (by first | decide | omega) | exact st.c4 (by first | decide | omega) | exact st.c5 (by first | decide | omega) | exact st.c6 (by first | decide | omega) | exact st.c7 (by first | decide | omega) | exact st.c8 (by first | decide | omega))) rfl rfl rfl ?_
        -- R18.7 58 := laws.go:316 call
        refine WL.call (r_call ty_call17 rfl) rfl rfl rfl (isDown_ok (st_in2 st)) ?_
        rintro _ w ⟨rfl, st⟩
        have st := st_out2 st
        rw [h'.down, hd2]
        -- R18.8 59 := laws.go:316 pick
        refine WL.v (by first | exact r_pickT (v := .bool _) rfl rfl | exact r_pickF (v := .bool _) rfl rfl) rfl rfl rfl ?_
        -- R18.9 60 := laws.go:316 move
        refine WL.v (by first | exact r_move (v := .bool _) rfl | exact r_move rfl) rfl rfl rfl ?_
        -- R18.10 61 := laws.go:316 fieldAddr
        refine WL.v (by exact r_field ty_fld33_0 rfl) rfl rfl rfl ?_
        -- R18.11 62 := laws.go:316 load
        refine WL.v (by exact r_load1 ty_one28 rfl (by first | assumption | exact st.c0 (by first | decide | omega) | exact st.c1 (by first | decide | omega) | exact st.c2 (by first | decide | omega) | exact st.c3 (by first | decide | omega) | exact st.c4 (by first | decide | omega) | exact st.c5 (by first | decide | omega) | exact st.c6 (by first | decide | omega) | exact st.c7 (by first | decide | omega) | exact st.c8 (by first | decide | omega))) rfl rfl rfl ?_
        -- R18.12 63 := laws.go:316 binOp
        refine WL.v (by first | exact r_neq rfl rfl (decide_eq_true (by omega)) | exact r_neq rfl rfl (decide_eq_false (by omega)) | exact r_neq rfl rfl rfl) rfl rfl rfl ?_
        -- R18.13 64 := laws.go:316 pick
        refine WL.v (by first | exact r_pickT (v := .bool _) rfl rfl | exact r_pickF (v := .bool _) rfl rfl) rfl rfl rfl ?_
        -- R18.14 11 := laws.go:316 assign
        refine WL.v (by first | exact r_assign (v := .bool _) rfl | exact r_assign rfl) rfl rfl rfl ?_
        refine WL.join hKC (fun _ _ h => h) () st (by repeat (first | exact sub_nil _ | refine sub_cons rfl rfl ?_))
      · have e : struckB P (op i) = true := by unfold struckB; rw [hd, hd2]; simp [hk4]
        rw [e] at hKC
        -- region 18
        refine WC.region ?_
        -- R18.0 51 := laws.go:316 move
        refine WL.v (by first | exact r_move (v := .bool _) rfl | exact r_move rfl) rfl rfl rfl ?_
        -- R18.1 52 := laws.go:316 unOp
        refine WL.v (by first | exact r_notT rfl | exact r_notF rfl | exact r_not rfl) rfl rfl rfl ?_
        -- R18.2 53 := laws.go:316 move
        refine WL.v (by first | exact r_move (v := .bool _) rfl | exact r_move rfl) rfl rfl rfl ?_
        -- R18.3 54 := laws.go:316 move
        refine WL.v (by first | exact r_move (v := .pointer _) rfl | exact r_move rfl) rfl rfl rfl ?_
        -- R18.4 55 := laws.go:316 nilCheck
        refine WL.v (by exact r_nilCheck rfl) rfl rfl rfl ?_
        -- R18.5 56 := laws.go:316 fieldAddr
        refine WL.v (by exact r_field ty_fld42_0 rfl) rfl rfl rfl ?_
        -- R18.6 57 := laws.go:316 load
        refine WL.v (by exact r_load1 ty_one40 rfl (by first | assumption | exact st.c0 (by first | decide | omega) | exact st.c1 (by first | decide | omega) | exact st.c2 (by first | decide | omega) | exact st.c3 (by first | decide | omega) | exact st.c4 (by first | decide | omega) | exact st.c5 (by first | decide | omega) | exact st.c6 (by first | decide | omega) | exact st.c7 (by first | decide | omega) | exact st.c8 (by first | decide | omega))) rfl rfl rfl ?_
        -- R18.7 58 := laws.go:316 call
        refine WL.call (r_call ty_call17 rfl) rfl rfl rfl (isDown_ok (st_in2 st)) ?_
        rintro _ w ⟨rfl, st⟩
        have st := st_out2 st
        rw [h'.down, hd2]
        -- R18.8 59 := laws.go:316 pick
        refine WL.v (by first | exact r_pickT (v := .bool _) rfl rfl | exact r_pickF (v := .bool _) rfl rfl) rfl rfl rfl ?_
        -- R18.9 60 := laws.go:316 move
        refine WL.v (by first | exact r_move (v := .bool _) rfl | exact r_move rfl) rfl rfl rfl ?_
        -- R18.10 61 := laws.go:316 fieldAddr
        refine WL.v (by exact r_field ty_fld33_0 rfl) rfl rfl rfl ?_
        -- R18.11 62 := laws.go:316 load
        refine WL.v (by exact r_load1 ty_one28 rfl (by first | assumption | exact st.c0 (by first | decide | omega) | exact st.c1 (by first | decide | omega) | exact st.c2 (by first | decide | omega) | exact st.c3 (by first | decide | omega) | exact st.c4 (by first | decide | omega) | exact st.c5 (by first | decide | omega) | exact st.c6 (by first | decide | omega) | exact st.c7 (by first | decide | omega) | exact st.c8 (by first | decide | omega))) rfl rfl rfl ?_
        -- R18.12 63 := laws.go:316 binOp
        refine WL.v (by first | exact r_neq rfl rfl (decide_eq_true (by omega)) | exact r_neq rfl rfl (decide_eq_false (by omega)) | exact r_neq rfl rfl rfl) rfl rfl rfl ?_
        -- R18.13 64 := laws.go:316 pick
        refine WL.v (by first | exact r_pickT (v := .bool _) rfl rfl | exact r_pickF (v := .bool _) rfl rfl) rfl rfl rfl ?_
        -- R18.14 11 := laws.go:316 assign
        refine WL.v (by first | exact r_assign (v := .bool _) rfl | exact r_assign rfl) rfl rfl rfl ?_
        refine WL.join hKC (fun _ _ h => h) () st (by repeat (first | exact sub_nil _ | refine sub_cons rfl rfl ?_))
    rintro _ w st
    obtain ⟨hao1, hao2, hs0, hs1⟩ := hao
    rcases hstr : struckB P (op i) with _ | _
    · obtain ⟨e1, e2⟩ := hao2 hstr
      rcases har : (stepP P (op i)).1.armed with _ | _
      · rw [har] at e1
        subst e1
        refine WC.seq fun K635 hK635 => ?_
        -- region 19
        refine WC.region ?_
        -- R19.0 65 := laws.go:317 move
        refine WL.v (by first | exact r_move (v := .pointer _) rfl | exact r_move rfl) rfl rfl rfl ?_
        -- R19.1 66 := laws.go:317 nilCheck
        refine WL.v (by exact r_nilCheck rfl) rfl rfl rfl ?_
        -- R19.2 67 := laws.go:317 fieldAddr
        refine WL.v (by exact r_field ty_fld42_0 rfl) rfl rfl rfl ?_
        -- R19.3 68 := laws.go:317 load
        refine WL.v (by exact r_load1 ty_one40 rfl (by first | assumption | exact st.c0 (by first | decide | omega) | exact st.c1 (by first | decide | omega) | exact st.c2 (by first | decide | omega) | exact st.c3 (by first | decide | omega) | exact st.c4 (by first | decide | omega) | exact st.c5 (by first | decide | omega) | exact st.c6 (by first | decide | omega) | exact st.c7 (by first | decide | omega) | exact st.c8 (by first | decide | omega))) rfl rfl rfl ?_
        -- R19.4 69 := laws.go:317 call
        refine WL.call (r_call ty_call32 rfl) rfl rfl rfl (stats_ok (st_in2 st)) ?_
        rintro _ w ⟨rfl, st⟩
        have st := st_out2 st
        rw [h'.sx]
        -- R19.5 70 := laws.go:317 field
        refine WL.v (by exact r_fieldv ty_fv67_1 rfl rfl) rfl rfl rfl ?_
        -- R19.6 71 := laws.go:317 move
        refine WL.v (by first | exact r_move (v := .int _ _) rfl | exact r_move rfl) rfl rfl rfl ?_
        -- R19.7 72 := laws.go:317 binOp
        refine WL.v (by exact r_sub (r := ((stepP P (op i)).1.wr : Int) - s') rfl rfl (wi64 (by omega) (by omega))) rfl rfl rfl ?_
        -- R19.8 12 := laws.go:317 assign
        refine WL.v (by first | exact r_assign (v := .int _ _) rfl | exact r_assign rfl) rfl rfl rfl ?_
        refine WL.fin hK635 (fun _ _ h => h) ?_
        refine WC.seq fun K636 hK636 => ?_
        -- region 20
        refine WC.region ?_
        -- R20.0 73 := laws.go:318 move
        refine WL.v (by first | exact r_move (v := .bool _) rfl | exact r_move rfl) rfl rfl rfl ?_
        -- R20.1 74 := laws.go:318 move
        refine WL.v (by first | exact r_move (v := .bool _) rfl | exact r_move rfl) rfl rfl rfl ?_
        -- R20.2 75 := laws.go:318 move
        refine WL.no rfl rfl ?_
        -- R20.3 76 := laws.go:318 move
        refine WL.no rfl rfl ?_
        -- R20.4 77 := laws.go:318 binOp
        refine WL.no rfl rfl ?_
        -- R20.5 78 := laws.go:318 pick
        refine WL.v (by first | exact r_pickT (v := .bool _) rfl rfl | exact r_pickF (v := .bool _) rfl rfl) rfl rfl rfl ?_
        -- R20.6 13 := laws.go:318 assign
        refine WL.v (by first | exact r_assign (v := .bool _) rfl | exact r_assign rfl) rfl rfl rfl ?_
        refine WL.fin hK636 (fun _ _ h => h) ?_
        refine WC.seq fun K637 hK637 => ?_
        refine WC.seq fun K638 hK638 => ?_
        -- region 21
        refine WC.region ?_
        -- R21.0 79 := laws.go:319 move
        refine WL.v (by first | exact r_move (v := .bool _) rfl | exact r_move rfl) rfl rfl rfl ?_
        -- R21.1 80 := laws.go:319 move
        refine WL.v (by first | exact r_move (v := .bool _) rfl | exact r_move rfl) rfl rfl rfl ?_
        -- R21.2 81 := laws.go:319 binOp
        refine WL.v (by exact r_bneq ty_bool4 rfl rfl rfl) rfl rfl rfl ?_
        -- R21.3 82 := laws.go:319 move
        refine WL.v (by first | exact r_move (v := .bool _) rfl | exact r_move rfl) rfl rfl rfl ?_
        -- R21.4 83 := laws.go:319 move
        refine WL.v (by first | exact r_move (v := .bool _) rfl | exact r_move rfl) rfl rfl rfl ?_
        -- R21.5 84 := laws.go:319 move
        refine WL.v (by first | exact r_move (v := .bool _) rfl | exact r_move rfl) rfl rfl rfl ?_
        -- R21.6 85 := laws.go:319 move
        refine WL.no rfl rfl ?_
        -- R21.7 86 := laws.go:319 move
        refine WL.no rfl rfl ?_
        -- R21.8 87 := laws.go:319 binOp
        refine WL.no rfl rfl ?_
        -- R21.9 88 := laws.go:319 pick
        refine WL.v (by first | exact r_pickT (v := .bool _) rfl rfl | exact r_pickF (v := .bool _) rfl rfl) rfl rfl rfl ?_
        -- R21.10 89 := laws.go:319 pick
        refine WL.v (by first | exact r_pickT (v := .bool _) rfl rfl | exact r_pickF (v := .bool _) rfl rfl) rfl rfl rfl ?_
        refine WL.fin hK638 (fun _ _ h => h) ?_
        refine WC.condF rfl rfl ?_
        refine WC.skipF hK637 (fun _ _ h => h) ?_
        refine WC.seq fun K639 hK639 => ?_
        -- region 23
        refine WC.region ?_
        -- R23.0 90 := laws.go:322 move
        refine WL.v (by first | exact r_move (v := .bool _) rfl | exact r_move rfl) rfl rfl rfl ?_
        refine WL.fin hK639 (fun _ _ h => h) ?_
        refine WC.condF rfl rfl ?_
        refine WC.skipF hK604 (fun _ _ h => h) ?_
        -- region 25
        refine WC.region ?_
        -- R25.0 91 := laws.go:305 binOp
        refine WL.v (by exact r_add (r := ((i + 1 : Nat) : Int)) rfl rfl ((wi64 (by omega) (by omega)).trans (by omega))) rfl rfl rfl ?_
        -- R25.1 20 := laws.go:305 move
        refine WL.v (by first | exact r_move (v := .int _ _) rfl | exact r_move rfl) rfl rfl rfl ?_
        refine WL.next hK1 (fun _ _ h => h) (D', (stepP P (op i)).1, i + 1, false, s', k') ⟨h', by show i + 1 ≤ n; omega, by show (stepP P (op i)).1.wr ≤ 128 * (i + 1); omega, ⟨har.symm, hs0, hs1, fun h => by rw [har] at h; cases h⟩, st.drop1⟩ (by show n - (i + 1) < n - i; omega) (by repeat (first | exact sub_nil _ | refine sub_cons rfl rfl ?_))
      · obtain ⟨e3, e4⟩ := e2 har
        rw [har] at e1
        subst e1
        refine WC.seq fun K640 hK640 => ?_
        -- region 19
        refine WC.region ?_
        -- R19.0 65 := laws.go:317 move
        refine WL.v (by first | exact r_move (v := .pointer _) rfl | exact r_move rfl) rfl rfl rfl ?_
        -- R19.1 66 := laws.go:317 nilCheck
        refine WL.v (by exact r_nilCheck rfl) rfl rfl rfl ?_
        -- R19.2 67 := laws.go:317 fieldAddr
        refine WL.v (by exact r_field ty_fld42_0 rfl) rfl rfl rfl ?_
        -- R19.3 68 := laws.go:317 load
        refine WL.v (by exact r_load1 ty_one40 rfl (by first | assumption | exact st.c0 (by first | decide | omega) | exact st.c1 (by first | decide | omega) | exact st.c2 (by first | decide | omega) | exact st.c3 (by first | decide | omega) | exact st.c4 (by first | decide | omega) | exact st.c5 (by first | decide | omega) | exact st.c6 (by first | decide | omega) | exact st.c7 (by first | decide | omega) | exact st.c8 (by first | decide | omega))) rfl rfl rfl ?_
        -- R19.4 69 := laws.go:317 call
        refine WL.call (r_call ty_call32 rfl) rfl rfl rfl (stats_ok (st_in2 st)) ?_
        rintro _ w ⟨rfl, st⟩
        have st := st_out2 st
        rw [h'.sx]
        -- R19.5 70 := laws.go:317 field
        refine WL.v (by exact r_fieldv ty_fv67_1 rfl rfl) rfl rfl rfl ?_
        -- R19.6 71 := laws.go:317 move
        refine WL.v (by first | exact r_move (v := .int _ _) rfl | exact r_move rfl) rfl rfl rfl ?_
        -- R19.7 72 := laws.go:317 binOp
        refine WL.v (by exact r_sub (r := ((stepP P (op i)).1.wr : Int) - s') rfl rfl (wi64 (by omega) (by omega))) rfl rfl rfl ?_
        -- R19.8 12 := laws.go:317 assign
        refine WL.v (by first | exact r_assign (v := .int _ _) rfl | exact r_assign rfl) rfl rfl rfl ?_
        refine WL.fin hK640 (fun _ _ h => h) ?_
        refine WC.seq fun K641 hK641 => ?_
        -- region 20
        refine WC.region ?_
        -- R20.0 73 := laws.go:318 move
        refine WL.v (by first | exact r_move (v := .bool _) rfl | exact r_move rfl) rfl rfl rfl ?_
        -- R20.1 74 := laws.go:318 move
        refine WL.v (by first | exact r_move (v := .bool _) rfl | exact r_move rfl) rfl rfl rfl ?_
        -- R20.2 75 := laws.go:318 move
        refine WL.v (by first | exact r_move (v := .int _ _) rfl | exact r_move rfl) rfl rfl rfl ?_
        -- R20.3 76 := laws.go:318 move
        refine WL.v (by first | exact r_move (v := .int _ _) rfl | exact r_move rfl) rfl rfl rfl ?_
        -- R20.4 77 := laws.go:318 binOp
        refine WL.v (by first | exact r_geq rfl rfl (decide_eq_true (by omega)) | exact r_geq rfl rfl (decide_eq_false (by omega)) | exact r_geq rfl rfl rfl) rfl rfl rfl ?_
        -- R20.5 78 := laws.go:318 pick
        refine WL.v (by first | exact r_pickT (v := .bool _) rfl rfl | exact r_pickF (v := .bool _) rfl rfl) rfl rfl rfl ?_
        -- R20.6 13 := laws.go:318 assign
        refine WL.v (by first | exact r_assign (v := .bool _) rfl | exact r_assign rfl) rfl rfl rfl ?_
        refine WL.fin hK641 (fun _ _ h => h) ?_
        refine WC.seq fun K642 hK642 => ?_
        refine WC.seq fun K643 hK643 => ?_
        -- region 21
        refine WC.region ?_
        -- R21.0 79 := laws.go:319 move
        refine WL.v (by first | exact r_move (v := .bool _) rfl | exact r_move rfl) rfl rfl rfl ?_
        -- R21.1 80 := laws.go:319 move
        refine WL.v (by first | exact r_move (v := .bool _) rfl | exact r_move rfl) rfl rfl rfl ?_
        -- R21.2 81 := laws.go:319 binOp
        refine WL.v (by exact r_bneq ty_bool4 rfl rfl rfl) rfl rfl rfl ?_
        -- R21.3 82 := laws.go:319 move
        refine WL.v (by first | exact r_move (v := .bool _) rfl | exact r_move rfl) rfl rfl rfl ?_
        -- R21.4 83 := laws.go:319 move
        refine WL.v (by first | exact r_move (v := .bool _) rfl | exact r_move rfl) rfl rfl rfl ?_
        -- R21.5 84 := laws.go:319 move
        refine WL.v (by first | exact r_move (v := .bool _) rfl | exact r_move rfl) rfl rfl rfl ?_
        -- R21.6 85 := laws.go:319 move
        refine WL.no rfl rfl ?_
        -- R21.7 86 := laws.go:319 move
        refine WL.no rfl rfl ?_
        -- R21.8 87 := laws.go:319 binOp
        refine WL.no rfl rfl ?_
        -- R21.9 88 := laws.go:319 pick
        refine WL.v (by first | exact r_pickT (v := .bool _) rfl rfl | exact r_pickF (v := .bool _) rfl rfl) rfl rfl rfl ?_
        -- R21.10 89 := laws.go:319 pick
        refine WL.v (by first | exact r_pickT (v := .bool _) rfl rfl | exact r_pickF (v := .bool _) rfl rfl) rfl rfl rfl ?_
        refine WL.fin hK643 (fun _ _ h => h) ?_
        refine WC.condF rfl rfl ?_
        refine WC.skipF hK642 (fun _ _ h => h) ?_
        refine WC.seq fun K644 hK644 => ?_
        -- region 23
        refine WC.region ?_
        -- R23.0 90 := laws.go:322 move
        refine WL.v (by first | exact r_move (v := .bool _) rfl | exact r_move rfl) rfl rfl rfl ?_
        refine WL.fin hK644 (fun _ _ h => h) ?_
        refine WC.condF rfl rfl ?_
        refine WC.skipF hK604 (fun _ _ h => h) ?_
        -- region 25
        refine WC.region ?_
        -- R25.0 91 := laws.go:305 binOp
        refine WL.v (by exact r_add (r := ((i + 1 : Nat) : Int)) rfl rfl ((wi64 (by omega) (by omega)).trans (by omega))) rfl rfl rfl ?_
        -- R25.1 20 := laws.go:305 move
        refine WL.v (by first | exact r_move (v := .int _ _) rfl | exact r_move rfl) rfl rfl rfl ?_
        refine WL.next hK1 (fun _ _ h => h) (D', (stepP P (op i)).1, i + 1, true, s', k') ⟨h', by show i + 1 ≤ n; omega, by show (stepP P (op i)).1.wr ≤ 128 * (i + 1); omega, ⟨har.symm, hs0, hs1, fun _ => ⟨e3, e4⟩⟩, st.drop1⟩ (by show n - (i + 1) < n - i; omega) (by repeat (first | exact sub_nil _ | refine sub_cons rfl rfl ?_))
    · obtain ⟨e1, e2, e3⟩ := hao1 hstr
      subst e1
      refine WC.seq fun K645 hK645 => ?_
      -- region 19
      refine WC.region ?_
      -- R19.0 65 := laws.go:317 move
      refine WL.v (by first | exact r_move (v := .pointer _) rfl | exact r_move rfl) rfl rfl rfl ?_
      -- R19.1 66 := laws.go:317 nilCheck
      refine WL.v (by exact r_nilCheck rfl) rfl rfl rfl ?_
      -- R19.2 67 := laws.go:317 fieldAddr
      refine WL.v (by exact r_field ty_fld42_0 rfl) rfl rfl rfl ?_
      -- R19.3 68 := laws.go:317 load
      refine WL.v (by exact r_load1 ty_one40 rfl (by first | assumption | exact st.c0 (by first | decide | omega) | exact st.c1 (by first | decide | omega) | exact st.c2 (by first | decide | omega) | exact st.c3 (by first | decide | omega) | exact st.c4 (by first | decide | omega) | exact st.c5 (by first | decide | omega) | exact st.c6 (by first | decide | omega) | exact st.c7 (by first | decide | omega) | exact st.c8 (by first | decide | omega))) rfl rfl rfl ?_
      -- R19.4 69 := laws.go:317 call
      refine WL.call (r_call ty_call32 rfl) rfl rfl rfl (stats_ok (st_in2 st)) ?_
      rintro _ w ⟨rfl, st⟩
      have st := st_out2 st
      rw [h'.sx]
      -- R19.5 70 := laws.go:317 field
      refine WL.v (by exact r_fieldv ty_fv67_1 rfl rfl) rfl rfl rfl ?_
      -- R19.6 71 := laws.go:317 move
      refine WL.v (by first | exact r_move (v := .int _ _) rfl | exact r_move rfl) rfl rfl rfl ?_
      -- R19.7 72 := laws.go:317 binOp
      refine WL.v (by exact r_sub (r := ((stepP P (op i)).1.wr : Int) - s') rfl rfl (wi64 (by omega) (by omega))) rfl rfl rfl ?_
      -- R19.8 12 := laws.go:317 assign
      refine WL.v (by first | exact r_assign (v := .int _ _) rfl | exact r_assign rfl) rfl rfl rfl ?_
      refine WL.fin hK645 (fun _ _ h => h) ?_
      refine WC.seq fun K646 hK646 => ?_
      -- region 20
      refine WC.region ?_
      -- R20.0 73 := laws.go:318 move
      refine WL.v (by first | exact r_move (v := .bool _) rfl | exact r_move rfl) rfl rfl rfl ?_
      -- R20.1 74 := laws.go:318 move
      refine WL.v (by first | exact r_move (v := .bool _) rfl | exact r_move rfl) rfl rfl rfl ?_
      -- R20.2 75 := laws.go:318 move
      refine WL.v (by first | exact r_move (v := .int _ _) rfl | exact r_move rfl) rfl rfl rfl ?_
      -- R20.3 76 := laws.go:318 move
      refine WL.v (by first | exact r_move (v := .int _ _) rfl | exact r_move rfl) rfl rfl rfl ?_
      -- R20.4 77 := laws.go:318 binOp
      refine WL.v (by first | exact r_geq rfl rfl (decide_eq_true (by omega)) | exact r_geq rfl rfl (decide_eq_false (by omega)) | exact r_geq rfl rfl rfl) rfl rfl rfl ?_
      -- R20.5 78 := laws.go:318 pick
      refine WL.v (by first | exact r_pickT (v := .bool _) rfl rfl | exact r_pickF (v := .bool _) rfl rfl) rfl rfl rfl ?_
      -- R20.6 13 := laws.go:318 assign
      refine WL.v (by first | exact r_assign (v := .bool _) rfl | exact r_assign rfl) rfl rfl rfl ?_
      refine WL.fin hK646 (fun _ _ h => h) ?_
      refine WC.seq fun K647 hK647 => ?_
      refine WC.seq fun K648 hK648 => ?_
      -- region 21
      refine WC.region ?_
      -- R21.0 79 := laws.go:319 move
      refine WL.v (by first | exact r_move (v := .bool _) rfl | exact r_move rfl) rfl rfl rfl ?_
      -- R21.1 80 := laws.go:319 move
      refine WL.v (by first | exact r_move (v := .bool _) rfl | exact r_move rfl) rfl rfl rfl ?_
      -- R21.2 81 := laws.go:319 binOp
      refine WL.v (by exact r_bneq ty_bool4 rfl rfl rfl) rfl rfl rfl ?_
      -- R21.3 82 := laws.go:319 move
      refine WL.v (by first | exact r_move (v := .bool _) rfl | exact r_move rfl) rfl rfl rfl ?_
      -- R21.4 83 := laws.go:319 move
      refine WL.v (by first | exact r_move (v := .bool _) rfl | exact r_move rfl) rfl rfl rfl ?_
      -- R21.5 84 := laws.go:319 move
      refine WL.v (by first | exact r_move (v := .bool _) rfl | exact r_move rfl) rfl rfl rfl ?_
      -- R21.6 85 := laws.go:319 move
      refine WL.v (by first | exact r_move (v := .int _ _) rfl | exact r_move rfl) rfl rfl rfl ?_
      -- R21.7 86 := laws.go:319 move
      refine WL.v (by first | exact r_move (v := .int _ _) rfl | exact r_move rfl) rfl rfl rfl ?_
      -- R21.8 87 := laws.go:319 binOp
      refine WL.v (by first | exact r_neq rfl rfl (decide_eq_true (by omega)) | exact r_neq rfl rfl (decide_eq_false (by omega)) | exact r_neq rfl rfl rfl) rfl rfl rfl ?_
      -- R21.9 88 := laws.go:319 pick
      refine WL.v (by first | exact r_pickT (v := .bool _) rfl rfl | exact r_pickF (v := .bool _) rfl rfl) rfl rfl rfl ?_
      -- R21.10 89 := laws.go:319 pick
      refine WL.v (by first | exact r_pickT (v := .bool _) rfl rfl | exact r_pickF (v := .bool _) rfl rfl) rfl rfl rfl ?_
      refine WL.fin hK648 (fun _ _ h => h) ?_
      refine WC.condF rfl rfl ?_
      refine WC.skipF hK647 (fun _ _ h => h) ?_
      refine WC.seq fun K649 hK649 => ?_
      -- region 23
      refine WC.region ?_
      -- R23.0 90 := laws.go:322 move
      refine WL.v (by first | exact r_move (v := .bool _) rfl | exact r_move rfl) rfl rfl rfl ?_
      refine WL.fin hK649 (fun _ _ h => h) ?_
      refine WC.condT rfl rfl ?_
      -- region 24
      refine WC.region ?_
      -- R24.0 4 := laws.go:323 assign
      refine WL.v (by first | exact r_assign (v := .bool _) rfl | exact r_assign rfl) rfl rfl rfl ?_
      refine WL.fin hK604 (fun _ _ h => h) ?_
      -- region 25
      refine WC.region ?_
      -- R25.0 91 := laws.go:305 binOp
      refine WL.v (by exact r_add (r := ((i + 1 : Nat) : Int)) rfl rfl ((wi64 (by omega) (by omega)).trans (by omega))) rfl rfl rfl ?_
      -- R25.1 20 := laws.go:305 move
      refine WL.v (by first | exact r_move (v := .int _ _) rfl | exact r_move rfl) rfl rfl rfl ?_
      refine WL.next hK1 (fun _ _ h => h) (D', (stepP P (op i)).1, i + 1, false, s', k') ⟨h', by show i + 1 ≤ n; omega, by show (stepP P (op i)).1.wr ≤ 128 * (i + 1); omega, ⟨e3.symm, hs0, hs1, fun h => by rw [e3] at h; cases h⟩, st.drop1⟩ (by show n - (i + 1) < n - i; omega) (by repeat (first | exact sub_nil _ | refine sub_cons rfl rfl ?_))
  rw [hw0] at goal
  exact goal
end Go.Proofs.Qxb6500837aDoor

