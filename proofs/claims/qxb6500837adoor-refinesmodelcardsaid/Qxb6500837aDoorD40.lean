import Derived.Test.Qxb6500837aDoorD39
set_option linter.unusedVariables false
set_option linter.unusedSimpArgs false
set_option maxRecDepth 20000
namespace Go.Proofs.Qxb6500837aDoor
open Go.RowKit Go.E1 Go.Disk
variable {w0 : World} {L L' l I J K K' : List HI} {w : World} {D : DK} {m : Int} {P : PD} {q : Obj → Prop}
variable {bq : Nat} {z : MZ}

theorem stepM_ok {o : OP} (hp : PWf P) (hfz : P.armed = true → -1000000001000 ≤ P.fuse ∧ P.fuse ≤ 9223372036854775807) (h : MI w0 P z) (ho : o.ok w0) (st : S0 w0 (mds bq P z l) w) :
    Calls Tryd.prog 15 #[.pointer (some ⟨bq, 0, none⟩), o.v] w (Ret (MPost w0 bq l P o)) := by
  by_cases k0 : o.kind = 0
  · exact stepM_fmt h k0 st
  by_cases k8 : o.kind = 8
  · exact stepM_peek hp h ho k8 st
  by_cases k7 : o.kind = 7
  · exact stepM_reopen hp hfz h ho k7 st
  by_cases k1 : o.kind = 1
  · rcases hd : P.down with _ | _
    · exact stepM_write hp hfz h ho k1 hd st
    · exact stepM_down1 hp hfz h ho k1 hd st
  by_cases k2 : o.kind = 2
  · rcases hd : P.down with _ | _
    · exact stepM_read hp h ho k2 hd st
    · exact stepM_down2 hp hfz h ho k2 hd st
  by_cases k3 : o.kind = 3
  · rcases hd : P.down with _ | _
    · exact stepM_sync hp h k3 hd st
    · exact stepM_down3 hp hfz h ho k3 hd st
  by_cases k4 : o.kind = 4
  · rcases hd : P.down with _ | _
    · exact stepM_crash hp hfz h ho k4 hd st
    · exact stepM_down4 hp hfz h ho k4 hd st
  by_cases k5 : o.kind = 5
  · rcases hd : P.down with _ | _
    · exact stepM_arm hp hfz h ho k5 hd st
    · exact stepM_down5 hp hfz h ho k5 hd st
  by_cases k6 : o.kind = 6
  · rcases hd : P.down with _ | _
    · exact stepM_disarm hp hfz h ho k6 hd st
    · exact stepM_down6 hp hfz h ho k6 hd st
  exact stepM_other hp hfz h ho ⟨k0, k1, k2, k3, k4, k5, k6, k7, k8⟩ st

theorem pm_model {a s x y : HI} {l1 XW K : List HI} : (a :: s :: x :: y :: DI D m (l1 ++ (XW ++ K))).Perm (x :: y :: (XW ++ (K ++ (a :: s :: DI D m l1)))) := by
  have p1 : (DI D m (l1 ++ (XW ++ K))).Perm ((XW ++ K) ++ DI D m l1) := (di_perm List.perm_append_comm).trans (di_pull (XW ++ K))
  have p2 := (p1.append_left [a, s, x, y]).trans (List.perm_append_comm_assoc [a, s] ([x, y] ++ (XW ++ K)) (DI D m l1))
  have e : ([x, y] ++ (XW ++ K)) ++ ([a, s] ++ DI D m l1) = x :: y :: (XW ++ (K ++ (a :: s :: DI D m l1))) := by simp [List.append_assoc]
  rw [← e]
  exact p2
theorem pm_plain {F : List HI} {x y : HI} {XW K : List HI} : (F ++ (x :: y :: DI D m (XW ++ K))).Perm (x :: y :: (F ++ (XW ++ (K ++ DI D m [])))) := by
  have p1 : (DI D m (XW ++ K)).Perm ((XW ++ K) ++ DI D m []) := by have := di_pull (D := D) (m := m) (L := []) (XW ++ K); rwa [List.append_nil] at this
  have p2 := (List.perm_append_comm_assoc F [x, y] (DI D m (XW ++ K))).trans ((p1.append_left F).append_left [x, y])
  rw [List.append_assoc] at p2
  exact p2
theorem st_l3 {s a b c : HI} {l1 K : List HI} (st : S0 w0 (DI D m (s :: (l1 ++ (a :: b :: c :: K)))) w) : S0 w0 (a :: s :: b :: c :: DI D m (l1 ++ K)) w := (st_l1 st).front1
theorem st_a0 {a : HI} (st : S0 w0 (a :: l) w) : S0 w0 [a] w := st.sublist ((List.nil_sublist _).cons_cons _)
theorem img_cut {S : Nat → Nat → Int} {s : Nat} : bytesOf 512 (fun j => img S (s * 512 + j)) = bytesOf 512 (S s) := bytesOf_congr fun j hj => by unfold img; rw [show (s * 512 + j) / 512 = s by omega, show (s * 512 + j) % 512 = j by omega]

theorem run_slne {Pg : Program} (w : World) (t e : TypeId) (a : Option Addr) (n c n' c' : Nat) (h : Pg.underlying t = some (.slice e)) : (binOp .neq t (.slice a n c) (.slice none n' c')).run Pg w = .ok (.bool (!a.isNone)) w := by
  simp only [binOp]
  simp [Op.equal, Op.maxDepth, Go.Lib.run_equalIn_slice_nil w 9999 t e a n c n' c' h]
theorem r_slneF {Pg : Program} {w : World} {ρ : Operand → Value} {d : Option Tmp} {ty : TypeId} {pos : String} {af : Array Edge} {g : Option (Nat × Bool)} {x y : Operand} {T te s T' n c : Nat} (hT : slT Pg T = some (te, s)) (hx : ρ x = .slice none n c) (hy : ρ y = .slice none 0 0) : (execOp ρ ⟨d, .binOp .neq T x y T', ty, pos, af, g⟩).run Pg w = .ok (.value (.bool false)) w := by
  simp only [execOp, hx, hy]
  simp [eqGuard, run_slne w T te none n c 0 0 (slT_spec hT).1]
theorem r_slneT {Pg : Program} {w : World} {ρ : Operand → Value} {d : Option Tmp} {ty : TypeId} {pos : String} {af : Array Edge} {g : Option (Nat × Bool)} {x y : Operand} {T te s T' n c : Nat} {a : Addr} (hT : slT Pg T = some (te, s)) (hx : ρ x = .slice (some a) n c) (hy : ρ y = .slice none 0 0) : (execOp ρ ⟨d, .binOp .neq T x y T', ty, pos, af, g⟩).run Pg w = .ok (.value (.bool true)) w := by
  simp only [execOp, hx, hy]
  simp [eqGuard, run_slne w T te (some a) n c 0 0 (slT_spec hT).1]

structure RI where
  D : DK
  P : PD
  i : Nat
  z : MZ
structure RInv (w0 : World) (bs bq n : Nat) (y : RI) (w : World) : Prop where
  rep : Rep y.D y.P
  i : y.i ≤ n
  wr : y.P.wr ≤ 128 * y.i
  mi : MI w0 y.P y.z
  st : S0 w0 (sI bs y.D.bD :: mdI bq y.z.bm y.P y.z.wv (.slice y.z.sv.a y.z.sv.bs.length y.z.sv.c) y.z.t y.z.tb :: mpI y.z.bm y.z.NS :: DI y.D 0 (y.z.XW ++ y.z.K)) w

set_option maxHeartbeats 64000000 in
theorem refines_law (a : Option Addr) (sb so n c : Nat) (op : Nat → OP) {w : World} (hg : hG w) (hS : Scr w sb so n op) (hn63 : n ≤ 140737488355328) (ha : 0 < n → a = some ⟨sb, so, none⟩) :
    Calls Tryd.prog 3 #[.slice a n c] w (Ret fun v w' => v = .bool true ∧ S0 w [] w') := by
  have st0 := St.init w (fun _ => False)
  obtain ⟨w0, hw0⟩ : ∃ w0, w0 = w := ⟨w, rfl⟩
  have st : S0 w0 [] w := by rw [hw0]; exact st0
  clear st0
  have hg : hG w0 := by rw [hw0]; exact hg
  have hS : Scr w0 sb so n op := by rw [hw0]; exact hS
  have goal : Calls Tryd.prog 3 #[.slice a n c] w (Ret fun v w' => v = .bool true ∧ S0 w0 [] w') := by
    clear hw0
    refine enter [.slice a n c] Tryd.func3 rfl Tryd.ntmps3 rfl ?_
    show WC _ _ _ 123 [] [(0, .slice a n c)] _
    refine WC.seq fun K1598 hK1598 => ?_
    -- region 0
    refine WC.region ?_
    -- R0.0 2 := laws.go:13 assign
    refine WL.v (by first | exact r_assign (v := .bool _) rfl | exact r_assign rfl) rfl rfl rfl ?_
    refine WL.fin hK1598 (fun _ _ h => h) ?_
    refine WC.seq fun K1599 hK1599 => ?_
    refine WC.seq fun K1600 hK1600 => ?_
    -- region 1
    refine WC.region ?_
    -- R1.0 12 := laws.go:14 move
    refine WL.v (by first | exact r_move (v := .slice _ _ _) rfl | exact r_move rfl) rfl rfl rfl ?_
    -- R1.1 13 := laws.go:14 call
    refine WL.call (r_call ty_call10 rfl) rfl rfl rfl (zzSmall1_ok a sb so n c op hS hn63 ha st) ?_
    rintro _ w ⟨t, rfl, hsm, st⟩
    -- R1.2 14 := laws.go:14 unOp
    refine WL.v (by first | exact r_notT rfl | exact r_notF rfl | exact r_not rfl) rfl rfl rfl ?_
    refine WL.fin hK1600 (fun _ _ h => h) ?_
    rcases t with _ | _
    · skip
      refine WC.condT rfl rfl ?_
      refine WC.seq fun K1601 hK1601 => ?_
      -- region 2
      refine WC.region ?_
      -- R2.0 2 := laws.go:15 assign
      refine WL.v (by first | exact r_assign (v := .bool _) rfl | exact r_assign rfl) rfl rfl rfl ?_
      refine WL.fin hK1601 (fun _ _ h => h) ?_
      refine WC.ret1 Tryd.results3 (fun _ _ h => h) rfl ?_
      exact ⟨_, rfl, rfl, st⟩
    have hsm := hsm rfl
    have hnn := hsm.1
    refine WC.condF rfl rfl ?_
    refine WC.skipF hK1599 (fun _ _ h => h) ?_
    refine WC.seq fun K1602 hK1602 => ?_
    -- region 3
    refine WC.region ?_
    -- R3.0 15 := laws.go:18 call
    refine WL.call (r_call ty_call11 rfl) rfl rfl rfl (newStage_ok st) ?_
    rintro _ w ⟨D, bs, rfl, hr, st⟩
    -- R3.1 16 := laws.go:18 call
    refine WL.call (r_call ty_call12 rfl) rfl rfl rfl (newM_ok st) ?_
    rintro _ w ⟨bq, bm, rfl, st⟩
    -- R3.2 3 := laws.go:18 assign
    refine WL.v (by first | exact r_assign (v := .pointer _) rfl | exact r_assign rfl) rfl rfl rfl ?_
    -- R3.3 4 := laws.go:18 assign
    refine WL.v (by first | exact r_assign (v := .pointer _) rfl | exact r_assign rfl) rfl rfl rfl ?_
    refine WL.fin hK1602 (fun _ _ h => h) ?_
    refine WC.seq fun K1603 hK1603 => ?_
    refine WC.seq fun K1604 hK1604 => ?_
    -- region 4
    refine WC.region ?_
    -- R4.0 17 := laws.go:19 move
    refine WL.v (by first | exact r_move (v := .slice _ _ _) rfl | exact r_move rfl) rfl rfl rfl ?_
    -- R4.1 18 := laws.go:19 call
    refine WL.v (by exact r_len ty_usl22 rfl) rfl rfl rfl ?_
    -- R4.2 19 := laws.go:19 move
    refine WL.v (by first | exact r_move (v := .int _ _) rfl | exact r_move rfl) rfl rfl rfl ?_
    refine WL.fin hK1604 (fun _ _ h => h) ?_
    refine WC.block ?_
    refine WC.loop (ι := RI) (fun y => [(3, .pointer (some ⟨bs, 0, none⟩)), (4, .pointer (some ⟨bq, 0, none⟩)), (17, .slice a n c), (18, .int .i64 (n : Nat)), (19, .int .i64 (y.i : Nat))])
      (fun y w' => RInv w0 bs bq n y w') (fun y => n - y.i) ⟨D, newP 4096 8192, 0, ⟨bm, fun _ => none, .slice none 0 0, [], fun _ => undef, [], SV.nil, 0, 0⟩⟩
      ⟨hr, Nat.zero_le _, Nat.le_refl _, MI.fresh0, st.front2⟩ ?_ ?_
    · skip
      repeat (first | exact sub_nil _ | refine sub_cons rfl rfl ?_)
    rintro ⟨D, P, i, z⟩ w ⟨h, hi, hwr, hmi, st⟩ K1 hK1
    dsimp only at h hi hwr hmi st ⊢
    have hs2 := h.s2
    by_cases hlt : ¬ i < n
    · skip
      rcases hdn : P.down with _ | _
      rotate_left
      · skip
        refine WC.seq fun K1605 hK1605 => ?_
        -- region 5
        refine WC.region ?_
        -- R5.0 20 := laws.go:19 binOp
        refine WL.v (by first | exact r_lss rfl rfl (decide_eq_true (by omega)) | exact r_lss rfl rfl (decide_eq_false (by omega)) | exact r_lss rfl rfl rfl) rfl rfl rfl ?_
        refine WL.fin hK1605 (fun _ _ h => h) ?_
        refine WC.seq fun K1606 hK1606 => ?_
        refine WC.condF rfl rfl ?_
        refine WC.exitF hK1603 (fun _ _ h => h) ?_
        refine WC.seq fun K1607 hK1607 => ?_
        -- region 13
        refine WC.region ?_
        -- R13.0 91 := laws.go:29 move
        refine WL.v (by first | exact r_move (v := .pointer _) rfl | exact r_move rfl) rfl rfl rfl ?_
        -- R13.1 92 := laws.go:29 call
        refine WL.call (r_call ty_call20 rfl) rfl rfl rfl (platter_ok (bs := bs) h (by simp) (st_inF [_, _, _] st)) ?_
        rintro _ w ⟨b1, rfl, st⟩
        have st := st.perm ((di_pull [_, _, _]).cons _)
        -- R13.2 93 := laws.go:29 move
        refine WL.v (by first | exact r_move (v := .pointer _) rfl | exact r_move rfl) rfl rfl rfl ?_
        -- R13.3 94 := laws.go:29 call
        refine WL.call (r_call ty_call21 rfl) rfl rfl rfl (seen_ok (bs := bs) h (by simp) (st_inF [_, _, _, _] st)) ?_
        rintro _ w ⟨D', eD, h', hv⟩
        obtain ⟨_, rfl, st⟩ := hv.resolve_right (fun h => by rw [hdn] at h; cases h.1)
        have st := st_outF [_, _, _, _] st
        -- R13.4 9 := laws.go:29 assign
        refine WL.v (by first | exact r_assign (v := .slice _ _ _) rfl | exact r_assign rfl) rfl rfl rfl ?_
        -- R13.5 10 := laws.go:29 assign
        refine WL.v (by first | exact r_assign (v := .slice _ _ _) rfl | exact r_assign rfl) rfl rfl rfl ?_
        refine WL.fin hK1607 (fun _ _ h => h) ?_
        refine WC.seq fun K1608 hK1608 => ?_
        refine WC.seq fun K1609 hK1609 => ?_
        -- region 14
        refine WC.region ?_
        -- R14.0 11 := laws.go:30 assign
        refine WL.v (by first | exact r_assign (v := .int _ _) rfl | exact r_assign rfl) rfl rfl rfl ?_
        refine WL.fin hK1609 (fun _ _ h => h) ?_
        refine WC.block ?_
        obtain ⟨G, hG⟩ : ∃ G, G = [iI b1 (P.sec * 512) (img P.pc), sI bs D.bD] ++ (z.XW ++ (z.K ++ DI D' 0 [])) := ⟨_, rfl⟩
        have hKG : z.K ⊆ G := fun x hx => by rw [hG]; exact List.mem_append_right _ (List.mem_append_right _ (List.mem_append_left _ hx))
        have hXG : z.XW ⊆ G := fun x hx => by rw [hG]; exact List.mem_append_right _ (List.mem_append_left _ hx)
        have hI1 : iI b1 (P.sec * 512) (img P.pc) ∈ G := by rw [hG]; simp
        have st : S0 w0 (mdI bq z.bm P z.wv (.slice z.sv.a z.sv.bs.length z.sv.c) z.t z.tb :: mpI z.bm z.NS :: G) w := by rw [hG]; exact st.perm (pm_plain (F := [iI b1 (P.sec * 512) (img P.pc), sI bs D.bD]) (D := D') (m := 0) (XW := z.XW) (K := z.K))
        clear hG hv
        refine WC.loop (ι := Nat) (fun y => [(4, .pointer (some ⟨bq, 0, none⟩)), (9, .slice (some ⟨b1, 0, none⟩) (P.sec * 512) (P.sec * 512)), (10, .slice none 0 0), (11, .int .i64 (y : Nat))])
          (fun y w' => y ≤ P.sec ∧ S0 w0 (mdI bq z.bm P z.wv (.slice z.sv.a z.sv.bs.length z.sv.c) z.t z.tb :: mpI z.bm z.NS :: G) w') (fun y => P.sec - y) 0 ⟨Nat.zero_le _, st⟩ ?_ ?_
        · skip
          repeat (first | exact sub_nil _ | refine sub_cons rfl rfl ?_)
        rintro s w ⟨hs, st⟩ K2 hK2
        by_cases hsl : ¬ s < P.sec
        · skip
          refine WC.seq fun K1610 hK1610 => ?_
          refine WC.seq fun K1611 hK1611 => ?_
          -- region 15
          refine WC.region ?_
          -- R15.0 95 := laws.go:30 move
          refine WL.v (by first | exact r_move (v := .int _ _) rfl | exact r_move rfl) rfl rfl rfl ?_
          -- R15.1 96 := laws.go:30 move
          refine WL.v (by first | exact r_move (v := .pointer _) rfl | exact r_move rfl) rfl rfl rfl ?_
          -- R15.2 97 := laws.go:30 nilCheck
          refine WL.v (by exact r_nilCheck rfl) rfl rfl rfl ?_
          -- R15.3 98 := laws.go:30 fieldAddr
          refine WL.v (by exact r_field ty_fld48_0 rfl) rfl rfl rfl ?_
          -- R15.4 99 := laws.go:30 load
          refine WL.v (by exact r_load1 ty_one2 rfl (by first | assumption | exact st.c0 (by first | decide | omega) | exact st.c1 (by first | decide | omega) | exact st.c2 (by first | decide | omega) | exact st.c3 (by first | decide | omega) | exact st.c4 (by first | decide | omega) | exact st.c5 (by first | decide | omega) | exact st.c6 (by first | decide | omega) | exact st.c7 (by first | decide | omega) | exact st.c8 (by first | decide | omega))) rfl rfl rfl ?_
          -- R15.5 100 := laws.go:30 binOp
          refine WL.v (by first | exact r_lss rfl rfl (decide_eq_true (by omega)) | exact r_lss rfl rfl (decide_eq_false (by omega)) | exact r_lss rfl rfl rfl) rfl rfl rfl ?_
          refine WL.fin hK1611 (fun _ _ h => h) ?_
          refine WC.condF rfl rfl ?_
          refine WC.exitF hK1608 (fun _ _ h => h) ?_
          refine WC.seq fun K1612 hK1612 => ?_
          -- region 21
          refine WC.region ?_
          -- R21.0 2 := laws.go:38 assign
          refine WL.v (by first | exact r_assign (v := .bool _) rfl | exact r_assign rfl) rfl rfl rfl ?_
          refine WL.fin hK1612 (fun _ _ h => h) ?_
          refine WC.ret1 Tryd.results3 (fun _ _ h => h) rfl ?_
          exact ⟨_, rfl, rfl, st_none st⟩
        have hsl : s < P.sec := by omega
        refine WC.seq fun K1613 hK1613 => ?_
        refine WC.seq fun K1614 hK1614 => ?_
        -- region 15
        refine WC.region ?_
        -- R15.0 95 := laws.go:30 move
        refine WL.v (by first | exact r_move (v := .int _ _) rfl | exact r_move rfl) rfl rfl rfl ?_
        -- R15.1 96 := laws.go:30 move
        refine WL.v (by first | exact r_move (v := .pointer _) rfl | exact r_move rfl) rfl rfl rfl ?_
        -- R15.2 97 := laws.go:30 nilCheck
        refine WL.v (by exact r_nilCheck rfl) rfl rfl rfl ?_
        -- R15.3 98 := laws.go:30 fieldAddr
        refine WL.v (by exact r_field ty_fld48_0 rfl) rfl rfl rfl ?_
        -- R15.4 99 := laws.go:30 load
        refine WL.v (by exact r_load1 ty_one2 rfl (by first | assumption | exact st.c0 (by first | decide | omega) | exact st.c1 (by first | decide | omega) | exact st.c2 (by first | decide | omega) | exact st.c3 (by first | decide | omega) | exact st.c4 (by first | decide | omega) | exact st.c5 (by first | decide | omega) | exact st.c6 (by first | decide | omega) | exact st.c7 (by first | decide | omega) | exact st.c8 (by first | decide | omega))) rfl rfl rfl ?_
        -- R15.5 100 := laws.go:30 binOp
        refine WL.v (by first | exact r_lss rfl rfl (decide_eq_true (by omega)) | exact r_lss rfl rfl (decide_eq_false (by omega)) | exact r_lss rfl rfl rfl) rfl rfl rfl ?_
        refine WL.fin hK1614 (fun _ _ h => h) ?_
        refine WC.condT rfl rfl ?_
        refine WC.skipF hK1613 (fun _ _ h => h) ?_
        refine WC.seq fun K1615 hK1615 => ?_
        refine WC.block ?_
        refine WC.seq fun K1616 hK1616 => ?_
        refine WC.seq fun K1617 hK1617 => ?_
        -- region 17
        refine WC.region ?_
        -- R17.0 103 := laws.go:31 move
        refine WL.v (by first | exact r_move (v := .slice _ _ _) rfl | exact r_move rfl) rfl rfl rfl ?_
        -- R17.1 104 := laws.go:31 move
        refine WL.v (by first | exact r_move (v := .int _ _) rfl | exact r_move rfl) rfl rfl rfl ?_
        -- R17.2 105 := laws.go:31 call
        refine WL.call (r_call ty_call23 rfl) rfl rfl rfl (cut_ok (bb := b1) (o := 0) (n := P.sec * 512) (c := P.sec * 512) (s := s) (by omega) (Nat.le_refl _) (by omega) st) ?_
        rintro _ w ⟨rfl, st⟩
        rw [Nat.zero_add]
        -- R17.3 106 := laws.go:31 move
        refine WL.v (by first | exact r_move (v := .pointer _) rfl | exact r_move rfl) rfl rfl rfl ?_
        -- R17.4 107 := laws.go:31 move
        refine WL.v (by first | exact r_move (v := .int _ _) rfl | exact r_move rfl) rfl rfl rfl ?_
        -- R17.5 108 := laws.go:31 call
        refine WL.call (r_call ty_call24 rfl) rfl rfl rfl (onPlatter_ok hmi.bk hsl hs2 hKG st) ?_
        rintro _ w ⟨b, rfl, st⟩
        -- R17.6 109 := laws.go:31 call
        refine WL.call (r_call ty_call22 rfl) rfl rfl rfl (equal_ok (Sees.part (bb := b1) (n := P.sec * 512) (s := s) (img_range h.pcr) (by omega) (by omega)) (Sees.img (bb := b) (n := 512) (h.pcr s) (by omega)) (fun x hx => by rw [List.mem_singleton.1 hx]; exact List.mem_cons_of_mem _ (List.mem_cons_of_mem _ (List.mem_cons_of_mem _ hI1))) (fun x hx => by rw [List.mem_singleton.1 hx]; exact List.mem_cons_self) st) ?_
        rintro _ w ⟨r, rfl, hrr, st⟩
        obtain rfl := hrr img_cut
        have st := st.drop
        -- R17.7 110 := laws.go:31 unOp
        refine WL.v (by first | exact r_notT rfl | exact r_notF rfl | exact r_not rfl) rfl rfl rfl ?_
        refine WL.fin hK1617 (fun _ _ h => h) ?_
        refine WC.condF rfl rfl ?_
        refine WC.skipF hK1616 (fun _ _ h => h) ?_
        refine WC.seq fun K1618 hK1618 => ?_
        -- region 19
        refine WC.region ?_
        -- R19.0 111 := laws.go:34 move
        refine WL.v (by first | exact r_move (v := .slice _ _ _) rfl | exact r_move rfl) rfl rfl rfl ?_
        -- R19.1 112 := laws.go:34 binOp
        refine WL.v (by exact r_slneF ty_sl29 rfl rfl) rfl rfl rfl ?_
        -- R19.2 113 := laws.go:34 move
        refine WL.v (by first | exact r_move (v := .bool _) rfl | exact r_move rfl) rfl rfl rfl ?_
        -- R19.3 114 := laws.go:34 move
        refine WL.no rfl rfl ?_
        -- R19.4 115 := laws.go:34 move
        refine WL.no rfl rfl ?_
        -- R19.5 116 := laws.go:34 call
        refine WL.no rfl rfl ?_
        -- R19.6 117 := laws.go:34 move
        refine WL.no rfl rfl ?_
        -- R19.7 118 := laws.go:34 move
        refine WL.no rfl rfl ?_
        -- R19.8 119 := laws.go:34 call
        refine WL.no rfl rfl ?_
        -- R19.9 120 := laws.go:34 call
        refine WL.no rfl rfl ?_
        -- R19.10 121 := laws.go:34 unOp
        refine WL.no rfl rfl ?_
        -- R19.11 122 := laws.go:34 pick
        refine WL.v (by first | exact r_pickT (v := .bool _) rfl rfl | exact r_pickF (v := .bool _) rfl rfl) rfl rfl rfl ?_
        refine WL.fin hK1618 (fun _ _ h => h) ?_
        refine WC.condF rfl rfl ?_
        refine WC.skipF hK1615 (fun _ _ h => h) ?_
        -- region 16
        refine WC.region ?_
        -- R16.0 101 := laws.go:30 move
        refine WL.v (by first | exact r_move (v := .int _ _) rfl | exact r_move rfl) rfl rfl rfl ?_
        -- R16.1 102 := laws.go:30 binOp
        refine WL.v (by exact r_add (r := ((s + 1 : Nat) : Int)) rfl rfl ((wi64 (by omega) (by omega)).trans (by omega))) rfl rfl rfl ?_
        -- R16.2 11 := laws.go:30 assign
        refine WL.v (by first | exact r_assign (v := .int _ _) rfl | exact r_assign rfl) rfl rfl rfl ?_
        refine WL.next hK2 (fun _ _ h => h) (s + 1) ⟨by omega, st⟩ (by omega) (by repeat (first | exact sub_nil _ | refine sub_cons rfl rfl ?_))
      · skip
        refine WC.seq fun K1619 hK1619 => ?_
        -- region 5
        refine WC.region ?_
        -- R5.0 20 := laws.go:19 binOp
        refine WL.v (by first | exact r_lss rfl rfl (decide_eq_true (by omega)) | exact r_lss rfl rfl (decide_eq_false (by omega)) | exact r_lss rfl rfl rfl) rfl rfl rfl ?_
        refine WL.fin hK1619 (fun _ _ h => h) ?_
        refine WC.seq fun K1620 hK1620 => ?_
        refine WC.condF rfl rfl ?_
        refine WC.exitF hK1603 (fun _ _ h => h) ?_
        refine WC.seq fun K1621 hK1621 => ?_
        -- region 13
        refine WC.region ?_
        -- R13.0 91 := laws.go:29 move
        refine WL.v (by first | exact r_move (v := .pointer _) rfl | exact r_move rfl) rfl rfl rfl ?_
        -- R13.1 92 := laws.go:29 call
        refine WL.call (r_call ty_call20 rfl) rfl rfl rfl (platter_ok (bs := bs) h (by simp) (st_inF [_, _, _] st)) ?_
        rintro _ w ⟨b1, rfl, st⟩
        have st := st.perm ((di_pull [_, _, _]).cons _)
        -- R13.2 93 := laws.go:29 move
        refine WL.v (by first | exact r_move (v := .pointer _) rfl | exact r_move rfl) rfl rfl rfl ?_
        -- R13.3 94 := laws.go:29 call
        refine WL.call (r_call ty_call21 rfl) rfl rfl rfl (seen_ok (bs := bs) h (by simp) (st_inF [_, _, _, _] st)) ?_
        rintro _ w ⟨D', eD, h', hv⟩
        obtain ⟨_, b2, rfl, st⟩ := hv.resolve_left (fun h => by rw [hdn] at h; cases h.1)
        have st := st.perm ((di_pull [_, _, _, _]).cons _)
        -- R13.4 9 := laws.go:29 assign
        refine WL.v (by first | exact r_assign (v := .slice _ _ _) rfl | exact r_assign rfl) rfl rfl rfl ?_
        -- R13.5 10 := laws.go:29 assign
        refine WL.v (by first | exact r_assign (v := .slice _ _ _) rfl | exact r_assign rfl) rfl rfl rfl ?_
        refine WL.fin hK1621 (fun _ _ h => h) ?_
        refine WC.seq fun K1622 hK1622 => ?_
        refine WC.seq fun K1623 hK1623 => ?_
        -- region 14
        refine WC.region ?_
        -- R14.0 11 := laws.go:30 assign
        refine WL.v (by first | exact r_assign (v := .int _ _) rfl | exact r_assign rfl) rfl rfl rfl ?_
        refine WL.fin hK1623 (fun _ _ h => h) ?_
        refine WC.block ?_
        obtain ⟨G, hG⟩ : ∃ G, G = [iI b2 (P.sec * 512) (img (settle P.pc P.pend)), iI b1 (P.sec * 512) (img P.pc), sI bs D.bD] ++ (z.XW ++ (z.K ++ DI D' 0 [])) := ⟨_, rfl⟩
        have hKG : z.K ⊆ G := fun x hx => by rw [hG]; exact List.mem_append_right _ (List.mem_append_right _ (List.mem_append_left _ hx))
        have hXG : z.XW ⊆ G := fun x hx => by rw [hG]; exact List.mem_append_right _ (List.mem_append_left _ hx)
        have hI1 : iI b1 (P.sec * 512) (img P.pc) ∈ G := by rw [hG]; simp
        have hI2 : iI b2 (P.sec * 512) (img (settle P.pc P.pend)) ∈ G := by rw [hG]; simp
        have st : S0 w0 (mdI bq z.bm P z.wv (.slice z.sv.a z.sv.bs.length z.sv.c) z.t z.tb :: mpI z.bm z.NS :: G) w := by rw [hG]; exact st.perm (pm_plain (F := [iI b2 (P.sec * 512) (img (settle P.pc P.pend)), iI b1 (P.sec * 512) (img P.pc), sI bs D.bD]) (D := D') (m := 0) (XW := z.XW) (K := z.K))
        clear hG hv
        refine WC.loop (ι := Nat) (fun y => [(4, .pointer (some ⟨bq, 0, none⟩)), (9, .slice (some ⟨b1, 0, none⟩) (P.sec * 512) (P.sec * 512)), (10, .slice (some ⟨b2, 0, none⟩) (P.sec * 512) (P.sec * 512)), (11, .int .i64 (y : Nat))])
          (fun y w' => y ≤ P.sec ∧ S0 w0 (mdI bq z.bm P z.wv (.slice z.sv.a z.sv.bs.length z.sv.c) z.t z.tb :: mpI z.bm z.NS :: G) w') (fun y => P.sec - y) 0 ⟨Nat.zero_le _, st⟩ ?_ ?_
        · skip
          repeat (first | exact sub_nil _ | refine sub_cons rfl rfl ?_)
        rintro s w ⟨hs, st⟩ K2 hK2
        by_cases hsl : ¬ s < P.sec
        · skip
          refine WC.seq fun K1624 hK1624 => ?_
          refine WC.seq fun K1625 hK1625 => ?_
          -- region 15
          refine WC.region ?_
          -- R15.0 95 := laws.go:30 move
          refine WL.v (by first | exact r_move (v := .int _ _) rfl | exact r_move rfl) rfl rfl rfl ?_
          -- R15.1 96 := laws.go:30 move
          refine WL.v (by first | exact r_move (v := .pointer _) rfl | exact r_move rfl) rfl rfl rfl ?_
          -- R15.2 97 := laws.go:30 nilCheck
          refine WL.v (by exact r_nilCheck rfl) rfl rfl rfl ?_
          -- R15.3 98 := laws.go:30 fieldAddr
          refine WL.v (by exact r_field ty_fld48_0 rfl) rfl rfl rfl ?_
          -- R15.4 99 := laws.go:30 load
          refine WL.v (by exact r_load1 ty_one2 rfl (by first | assumption | exact st.c0 (by first | decide | omega) | exact st.c1 (by first | decide | omega) | exact st.c2 (by first | decide | omega) | exact st.c3 (by first | decide | omega) | exact st.c4 (by first | decide | omega) | exact st.c5 (by first | decide | omega) | exact st.c6 (by first | decide | omega) | exact st.c7 (by first | decide | omega) | exact st.c8 (by first | decide | omega))) rfl rfl rfl ?_
          -- R15.5 100 := laws.go:30 binOp
          refine WL.v (by first | exact r_lss rfl rfl (decide_eq_true (by omega)) | exact r_lss rfl rfl (decide_eq_false (by omega)) | exact r_lss rfl rfl rfl) rfl rfl rfl ?_
          refine WL.fin hK1625 (fun _ _ h => h) ?_
          refine WC.condF rfl rfl ?_
          refine WC.exitF hK1622 (fun _ _ h => h) ?_
          refine WC.seq fun K1626 hK1626 => ?_
          -- region 21
          refine WC.region ?_
          -- R21.0 2 := laws.go:38 assign
          refine WL.v (by first | exact r_assign (v := .bool _) rfl | exact r_assign rfl) rfl rfl rfl ?_
          refine WL.fin hK1626 (fun _ _ h => h) ?_
          refine WC.ret1 Tryd.results3 (fun _ _ h => h) rfl ?_
          exact ⟨_, rfl, rfl, st_none st⟩
        have hsl : s < P.sec := by omega
        refine WC.seq fun K1627 hK1627 => ?_
        refine WC.seq fun K1628 hK1628 => ?_
        -- region 15
        refine WC.region ?_
        -- R15.0 95 := laws.go:30 move
        refine WL.v (by first | exact r_move (v := .int _ _) rfl | exact r_move rfl) rfl rfl rfl ?_
        -- R15.1 96 := laws.go:30 move
        refine WL.v (by first | exact r_move (v := .pointer _) rfl | exact r_move rfl) rfl rfl rfl ?_
        -- R15.2 97 := laws.go:30 nilCheck
        refine WL.v (by exact r_nilCheck rfl) rfl rfl rfl ?_
        -- R15.3 98 := laws.go:30 fieldAddr
        refine WL.v (by exact r_field ty_fld48_0 rfl) rfl rfl rfl ?_
        -- R15.4 99 := laws.go:30 load
        refine WL.v (by exact r_load1 ty_one2 rfl (by first | assumption | exact st.c0 (by first | decide | omega) | exact st.c1 (by first | decide | omega) | exact st.c2 (by first | decide | omega) | exact st.c3 (by first | decide | omega) | exact st.c4 (by first | decide | omega) | exact st.c5 (by first | decide | omega) | exact st.c6 (by first | decide | omega) | exact st.c7 (by first | decide | omega) | exact st.c8 (by first | decide | omega))) rfl rfl rfl ?_
        -- R15.5 100 := laws.go:30 binOp
        refine WL.v (by first | exact r_lss rfl rfl (decide_eq_true (by omega)) | exact r_lss rfl rfl (decide_eq_false (by omega)) | exact r_lss rfl rfl rfl) rfl rfl rfl ?_
        refine WL.fin hK1628 (fun _ _ h => h) ?_
        refine WC.condT rfl rfl ?_
        refine WC.skipF hK1627 (fun _ _ h => h) ?_
        refine WC.seq fun K1629 hK1629 => ?_
        refine WC.block ?_
        refine WC.seq fun K1630 hK1630 => ?_
        refine WC.seq fun K1631 hK1631 => ?_
        -- region 17
        refine WC.region ?_
        -- R17.0 103 := laws.go:31 move
        refine WL.v (by first | exact r_move (v := .slice _ _ _) rfl | exact r_move rfl) rfl rfl rfl ?_
        -- R17.1 104 := laws.go:31 move
        refine WL.v (by first | exact r_move (v := .int _ _) rfl | exact r_move rfl) rfl rfl rfl ?_
        -- R17.2 105 := laws.go:31 call
        refine WL.call (r_call ty_call23 rfl) rfl rfl rfl (cut_ok (bb := b1) (o := 0) (n := P.sec * 512) (c := P.sec * 512) (s := s) (by omega) (Nat.le_refl _) (by omega) st) ?_
        rintro _ w ⟨rfl, st⟩
        rw [Nat.zero_add]
        -- R17.3 106 := laws.go:31 move
        refine WL.v (by first | exact r_move (v := .pointer _) rfl | exact r_move rfl) rfl rfl rfl ?_
        -- R17.4 107 := laws.go:31 move
        refine WL.v (by first | exact r_move (v := .int _ _) rfl | exact r_move rfl) rfl rfl rfl ?_
        -- R17.5 108 := laws.go:31 call
        refine WL.call (r_call ty_call24 rfl) rfl rfl rfl (onPlatter_ok hmi.bk hsl hs2 hKG st) ?_
        rintro _ w ⟨b, rfl, st⟩
        -- R17.6 109 := laws.go:31 call
        refine WL.call (r_call ty_call22 rfl) rfl rfl rfl (equal_ok (Sees.part (bb := b1) (n := P.sec * 512) (s := s) (img_range h.pcr) (by omega) (by omega)) (Sees.img (bb := b) (n := 512) (h.pcr s) (by omega)) (fun x hx => by rw [List.mem_singleton.1 hx]; exact List.mem_cons_of_mem _ (List.mem_cons_of_mem _ (List.mem_cons_of_mem _ hI1))) (fun x hx => by rw [List.mem_singleton.1 hx]; exact List.mem_cons_self) st) ?_
        rintro _ w ⟨r, rfl, hrr, st⟩
        obtain rfl := hrr img_cut
        have st := st.drop
        -- R17.7 110 := laws.go:31 unOp
        refine WL.v (by first | exact r_notT rfl | exact r_notF rfl | exact r_not rfl) rfl rfl rfl ?_
        refine WL.fin hK1631 (fun _ _ h => h) ?_
        refine WC.condF rfl rfl ?_
        refine WC.skipF hK1630 (fun _ _ h => h) ?_
        refine WC.seq fun K1632 hK1632 => ?_
        -- region 19
        refine WC.region ?_
        -- R19.0 111 := laws.go:34 move
        refine WL.v (by first | exact r_move (v := .slice _ _ _) rfl | exact r_move rfl) rfl rfl rfl ?_
        -- R19.1 112 := laws.go:34 binOp
        refine WL.v (by exact r_slneT ty_sl29 rfl rfl) rfl rfl rfl ?_
        -- R19.2 113 := laws.go:34 move
        refine WL.v (by first | exact r_move (v := .bool _) rfl | exact r_move rfl) rfl rfl rfl ?_
        -- R19.3 114 := laws.go:34 move
        refine WL.v (by first | exact r_move (v := .slice _ _ _) rfl | exact r_move rfl) rfl rfl rfl ?_
        -- R19.4 115 := laws.go:34 move
        refine WL.v (by first | exact r_move (v := .int _ _) rfl | exact r_move rfl) rfl rfl rfl ?_
        -- R19.5 116 := laws.go:34 call
        refine WL.call (r_call ty_call23 rfl) rfl rfl rfl (cut_ok (bb := b2) (o := 0) (n := P.sec * 512) (c := P.sec * 512) (s := s) (by omega) (Nat.le_refl _) (by omega) st) ?_
        rintro _ w ⟨rfl, st⟩
        rw [Nat.zero_add]
        -- R19.6 117 := laws.go:34 move
        refine WL.v (by first | exact r_move (v := .pointer _) rfl | exact r_move rfl) rfl rfl rfl ?_
        -- R19.7 118 := laws.go:34 move
        refine WL.v (by first | exact r_move (v := .int _ _) rfl | exact r_move rfl) rfl rfl rfl ?_
        -- R19.8 119 := laws.go:34 call
        refine WL.call (r_call ty_call25 rfl) rfl rfl rfl (seenM_ok hmi.bk hmi.own (by have := h.ple; have := h.l2; omega) hsl hs2 hKG hXG st) ?_
        rintro _ w ⟨b, rfl, st⟩
        -- R19.9 120 := laws.go:34 call
        refine WL.call (r_call ty_call22 rfl) rfl rfl rfl (equal_ok (Sees.part (bb := b2) (n := P.sec * 512) (s := s) (img_range h.seenr) (by omega) (by omega)) (Sees.img (bb := b) (n := 512) (h.seenr s) (by omega)) (fun x hx => by rw [List.mem_singleton.1 hx]; exact List.mem_cons_of_mem _ (List.mem_cons_of_mem _ (List.mem_cons_of_mem _ hI2))) (fun x hx => by rw [List.mem_singleton.1 hx]; exact List.mem_cons_self) st) ?_
        rintro _ w ⟨r, rfl, hrr, st⟩
        obtain rfl := hrr img_cut
        have st := st.drop
        -- R19.10 121 := laws.go:34 unOp
        refine WL.v (by first | exact r_notT rfl | exact r_notF rfl | exact r_not rfl) rfl rfl rfl ?_
        -- R19.11 122 := laws.go:34 pick
        refine WL.v (by first | exact r_pickT (v := .bool _) rfl rfl | exact r_pickF (v := .bool _) rfl rfl) rfl rfl rfl ?_
        refine WL.fin hK1632 (fun _ _ h => h) ?_
        refine WC.condF rfl rfl ?_
        refine WC.skipF hK1629 (fun _ _ h => h) ?_
        -- region 16
        refine WC.region ?_
        -- R16.0 101 := laws.go:30 move
        refine WL.v (by first | exact r_move (v := .int _ _) rfl | exact r_move rfl) rfl rfl rfl ?_
        -- R16.1 102 := laws.go:30 binOp
        refine WL.v (by exact r_add (r := ((s + 1 : Nat) : Int)) rfl rfl ((wi64 (by omega) (by omega)).trans (by omega))) rfl rfl rfl ?_
        -- R16.2 11 := laws.go:30 assign
        refine WL.v (by first | exact r_assign (v := .int _ _) rfl | exact r_assign rfl) rfl rfl rfl ?_
        refine WL.next hK2 (fun _ _ h => h) (s + 1) ⟨by omega, st⟩ (by omega) (by repeat (first | exact sub_nil _ | refine sub_cons rfl rfl ?_))
    have hlt : i < n := by omega
    obtain rfl := ha (by omega)
    have hok := hS.ok hsm hlt
    have hw2 := step_wr (P := P) hok.datl
    have hwf := h.wf
    have hfz : P.armed = true → -1000000001000 ≤ P.fuse ∧ P.fuse ≤ 9223372036854775807 := fun hh => by have := h.fz hh; omega
    refine WC.seq fun K1633 hK1633 => ?_
    -- region 5
    refine WC.region ?_
    -- R5.0 20 := laws.go:19 binOp
    refine WL.v (by first | exact r_lss rfl rfl (decide_eq_true (by omega)) | exact r_lss rfl rfl (decide_eq_false (by omega)) | exact r_lss rfl rfl rfl) rfl rfl rfl ?_
    refine WL.fin hK1633 (fun _ _ h => h) ?_
    refine WC.seq fun K1634 hK1634 => ?_
    refine WC.condT rfl rfl ?_
    refine WC.skipF hK1634 (fun _ _ h => h) ?_
    refine WC.seq fun K1635 hK1635 => ?_
    refine WC.block ?_
    refine WC.seq fun K1636 hK1636 => ?_
    -- region 6
    refine WC.region ?_
    -- R6.0 21 := laws.go:19 indexAddr
    refine WL.v (by exact r_indexS (j := i) ty_sl22 rfl rfl rfl hlt) rfl rfl rfl ?_
    -- R6.1 22 := laws.go:19 load
    refine WL.v (v := (op i).v) (by exact r_loadL (vs := opC (op i)) ty_agg33 rfl ⟨hS.ld hlt st 0 (by decide), hS.ld hlt st 1 (by decide), hS.ld hlt st 2 (by decide), hS.ld hlt st 3 (by decide), hS.ld hlt st 4 (by decide), hS.ld hlt st 5 (by decide), hS.ld hlt st 6 (by decide), hS.ld hlt st 7 (by decide), hS.ld hlt st 8 (by decide), trivial⟩) rfl rfl rfl ?_
    -- R6.2 6 := laws.go:19 alloc
    refine WL.alloc (m := 9) st ty_zero33 rfl rfl rfl ?_
    intro b6 w st
    -- R6.3 None := laws.go:19 store
    first | refine WL.storeW (vs := [_, _, _, _, _, _, _, _, _]) st ty_agg33 rfl rfl rfl rfl rfl rfl ?_ | refine WL.storeL (vs := [_, _, _, _, _, _, _, _, _]) st ty_agg33 rfl rfl rfl rfl (by first | decide | omega) rfl rfl ?_ | refine WL.storeW (vs := [_, _, _, _, _, _, _, _, _]) st.front1 ty_agg33 rfl rfl rfl rfl rfl rfl ?_ | refine WL.storeL (vs := [_, _, _, _, _, _, _, _, _]) st.front1 ty_agg33 rfl rfl rfl rfl (by first | decide | omega) rfl rfl ?_ | refine WL.storeW (vs := [_, _, _, _, _, _, _, _, _]) st.front2 ty_agg33 rfl rfl rfl rfl rfl rfl ?_ | refine WL.storeL (vs := [_, _, _, _, _, _, _, _, _]) st.front2 ty_agg33 rfl rfl rfl rfl (by first | decide | omega) rfl rfl ?_ | refine WL.storeW (vs := [_, _, _, _, _, _, _, _, _]) st.front3 ty_agg33 rfl rfl rfl rfl rfl rfl ?_ | refine WL.storeL (vs := [_, _, _, _, _, _, _, _, _]) st.front3 ty_agg33 rfl rfl rfl rfl (by first | decide | omega) rfl rfl ?_ | refine WL.storeW (vs := [_, _, _, _, _, _, _, _, _]) st.front4 ty_agg33 rfl rfl rfl rfl rfl rfl ?_ | refine WL.storeL (vs := [_, _, _, _, _, _, _, _, _]) st.front4 ty_agg33 rfl rfl rfl rfl (by first | decide | omega) rfl rfl ?_ | refine WL.storeW (vs := [_, _, _, _, _, _, _, _, _]) st.front5 ty_agg33 rfl rfl rfl rfl rfl rfl ?_ | refine WL.storeL (vs := [_, _, _, _, _, _, _, _, _]) st.front5 ty_agg33 rfl rfl rfl rfl (by first | decide | omega) rfl rfl ?_ | refine WL.storeW (vs := [_, _, _, _, _, _, _, _, _]) st.front6 ty_agg33 rfl rfl rfl rfl rfl rfl ?_ | refine WL.storeL (vs := [_, _, _, _, _, _, _, _, _]) st.front6 ty_agg33 rfl rfl rfl rfl (by first | decide | omega) rfl rfl ?_ | refine WL.storeW (vs := [_, _, _, _, _, _, _, _, _]) st.front7 ty_agg33 rfl rfl rfl rfl rfl rfl ?_ | refine WL.storeL (vs := [_, _, _, _, _, _, _, _, _]) st.front7 ty_agg33 rfl rfl rfl rfl (by first | decide | omega) rfl rfl ?_ | refine WL.storeW (vs := [_, _, _, _, _, _, _, _, _]) st.front8 ty_agg33 rfl rfl rfl rfl rfl rfl ?_ | refine WL.storeL (vs := [_, _, _, _, _, _, _, _, _]) st.front8 ty_agg33 rfl rfl rfl rfl (by first | decide | omega) rfl rfl ?_
    intro w st
    refine WL.fin hK1636 (fun _ _ h => h) ?_
    refine WC.seq fun K1637 hK1637 => ?_
    refine WC.seq fun K1638 hK1638 => ?_
    -- region 7 (draws)
    refine WC.mixS [(0, true), (1, true), (3, true), (4, true), (2, false), (5, false), (6, false), (7, true)] st (st_a0 st) ty_mixed (by kernel_rfl) fun w st => ?_
    -- R7.0 23 := laws.go:20 move
    refine ML.v (fun w st => by first | exact r_move (v := .pointer _) rfl | exact r_move rfl) rfl rfl rfl ?_
    -- R7.1 24 := laws.go:20 load
    refine ML.v (fun w st => by exact r_loadL (vs := [_, _, _, _, _, _, _, _, _]) ty_agg33 rfl ⟨(by first | assumption | exact st.c0 (by first | decide | omega) | exact st.c1 (by first | decide | omega) | exact st.c2 (by first | decide | omega) | exact st.c3 (by first | decide | omega) | exact st.c4 (by first | decide | omega) | exact st.c5 (by first | decide | omega) | exact st.c6 (by first | decide | omega) | exact st.c7 (by first | decide | omega) | exact st.c8 (by first | decide | omega)), (by first | assumption | exact st.c0 (by first | decide | omega) | exact st.c1 (by first | decide | omega) | exact st.c2 (by first | decide | omega) | exact st.c3 (by first | decide | omega) | exact st.c4 (by first | decide | omega) | exact st.c5 (by first | decide | omega) | exact st.c6 (by first | decide | omega) | exact st.c7 (by first | decide | omega) | exact st.c8 (by first | decide | omega)), (by first | assumption | exact st.c0 (by first | decide | omega) | exact st.c1 (by first | decide | omega) | exact st.c2 (by first | decide | omega) | exact st.c3 (by first | decide | omega) | exact st.c4 (by first | decide | omega) | exact st.c5 (by first | decide | omega) | exact st.c6 (by first | decide | omega) | exact st.c7 (by first | decide | omega) | exact st.c8 (by first | decide | omega)), (by first | assumption | exact st.c0 (by first | decide | omega) | exact st.c1 (by first | decide | omega) | exact st.c2 (by first | decide | omega) | exact st.c3 (by first | decide | omega) | exact st.c4 (by first | decide | omega) | exact st.c5 (by first | decide | omega) | exact st.c6 (by first | decide | omega) | exact st.c7 (by first | decide | omega) | exact st.c8 (by first | decide | omega)), (by first | assumption | exact st.c0 (by first | decide | omega) | exact st.c1 (by first | decide | omega) | exact st.c2 (by first | decide | omega) | exact st.c3 (by first | decide | omega) | exact st.c4 (by first | decide | omega) | exact st.c5 (by first | decide | omega) | exact st.c6 (by first | decide | omega) | exact st.c7 (by first | decide | omega) | exact st.c8 (by first | decide | omega)), (by first | assumption | exact st.c0 (by first | decide | omega) | exact st.c1 (by first | decide | omega) | exact st.c2 (by first | decide | omega) | exact st.c3 (by first | decide | omega) | exact st.c4 (by first | decide | omega) | exact st.c5 (by first | decide | omega) | exact st.c6 (by first | decide | omega) | exact st.c7 (by first | decide | omega) | exact st.c8 (by first | decide | omega)), (by first | assumption | exact st.c0 (by first | decide | omega) | exact st.c1 (by first | decide | omega) | exact st.c2 (by first | decide | omega) | exact st.c3 (by first | decide | omega) | exact st.c4 (by first | decide | omega) | exact st.c5 (by first | decide | omega) | exact st.c6 (by first | decide | omega) | exact st.c7 (by first | decide | omega) | exact st.c8 (by first | decide | omega)), (by first | assumption | exact st.c0 (by first | decide | omega) | exact st.c1 (by first | decide | omega) | exact st.c2 (by first | decide | omega) | exact st.c3 (by first | decide | omega) | exact st.c4 (by first | decide | omega) | exact st.c5 (by first | decide | omega) | exact st.c6 (by first | decide | omega) | exact st.c7 (by first | decide | omega) | exact st.c8 (by first | decide | omega)), (by first | assumption | exact st.c0 (by first | decide | omega) | exact st.c1 (by first | decide | omega) | exact st.c2 (by first | decide | omega) | exact st.c3 (by first | decide | omega) | exact st.c4 (by first | decide | omega) | exact st.c5 (by first | decide | omega) | exact st.c6 (by first | decide | omega) | exact st.c7 (by first | decide | omega) | exact st.c8 (by first | decide | omega)), trivial⟩) rfl rfl rfl ?_
    -- R7.3 26 := laws.go:20 move
    refine ML.v (fun w st => by first | exact r_move (v := .pointer _) rfl | exact r_move rfl) rfl rfl rfl ?_
    -- R7.4 27 := laws.go:20 load
    refine ML.v (fun w st => by exact r_loadL (vs := [_, _, _, _, _, _, _, _, _]) ty_agg33 rfl ⟨(by first | assumption | exact st.c0 (by first | decide | omega) | exact st.c1 (by first | decide | omega) | exact st.c2 (by first | decide | omega) | exact st.c3 (by first | decide | omega) | exact st.c4 (by first | decide | omega) | exact st.c5 (by first | decide | omega) | exact st.c6 (by first | decide | omega) | exact st.c7 (by first | decide | omega) | exact st.c8 (by first | decide | omega)), (by first | assumption | exact st.c0 (by first | decide | omega) | exact st.c1 (by first | decide | omega) | exact st.c2 (by first | decide | omega) | exact st.c3 (by first | decide | omega) | exact st.c4 (by first | decide | omega) | exact st.c5 (by first | decide | omega) | exact st.c6 (by first | decide | omega) | exact st.c7 (by first | decide | omega) | exact st.c8 (by first | decide | omega)), (by first | assumption | exact st.c0 (by first | decide | omega) | exact st.c1 (by first | decide | omega) | exact st.c2 (by first | decide | omega) | exact st.c3 (by first | decide | omega) | exact st.c4 (by first | decide | omega) | exact st.c5 (by first | decide | omega) | exact st.c6 (by first | decide | omega) | exact st.c7 (by first | decide | omega) | exact st.c8 (by first | decide | omega)), (by first | assumption | exact st.c0 (by first | decide | omega) | exact st.c1 (by first | decide | omega) | exact st.c2 (by first | decide | omega) | exact st.c3 (by first | decide | omega) | exact st.c4 (by first | decide | omega) | exact st.c5 (by first | decide | omega) | exact st.c6 (by first | decide | omega) | exact st.c7 (by first | decide | omega) | exact st.c8 (by first | decide | omega)), (by first | assumption | exact st.c0 (by first | decide | omega) | exact st.c1 (by first | decide | omega) | exact st.c2 (by first | decide | omega) | exact st.c3 (by first | decide | omega) | exact st.c4 (by first | decide | omega) | exact st.c5 (by first | decide | omega) | exact st.c6 (by first | decide | omega) | exact st.c7 (by first | decide | omega) | exact st.c8 (by first | decide | omega)), (by first | assumption | exact st.c0 (by first | decide | omega) | exact st.c1 (by first | decide | omega) | exact st.c2 (by first | decide | omega) | exact st.c3 (by first | decide | omega) | exact st.c4 (by first | decide | omega) | exact st.c5 (by first | decide | omega) | exact st.c6 (by first | decide | omega) | exact st.c7 (by first | decide | omega) | exact st.c8 (by first | decide | omega)), (by first | assumption | exact st.c0 (by first | decide | omega) | exact st.c1 (by first | decide | omega) | exact st.c2 (by first | decide | omega) | exact st.c3 (by first | decide | omega) | exact st.c4 (by first | decide | omega) | exact st.c5 (by first | decide | omega) | exact st.c6 (by first | decide | omega) | exact st.c7 (by first | decide | omega) | exact st.c8 (by first | decide | omega)), (by first | assumption | exact st.c0 (by first | decide | omega) | exact st.c1 (by first | decide | omega) | exact st.c2 (by first | decide | omega) | exact st.c3 (by first | decide | omega) | exact st.c4 (by first | decide | omega) | exact st.c5 (by first | decide | omega) | exact st.c6 (by first | decide | omega) | exact st.c7 (by first | decide | omega) | exact st.c8 (by first | decide | omega)), (by first | assumption | exact st.c0 (by first | decide | omega) | exact st.c1 (by first | decide | omega) | exact st.c2 (by first | decide | omega) | exact st.c3 (by first | decide | omega) | exact st.c4 (by first | decide | omega) | exact st.c5 (by first | decide | omega) | exact st.c6 (by first | decide | omega) | exact st.c7 (by first | decide | omega) | exact st.c8 (by first | decide | omega)), trivial⟩) rfl rfl rfl ?_
    refine ML.at ?_
    -- R7.2 25 := laws.go:20 call
    refine WL.call (r_call ty_call14 rfl) rfl rfl rfl (step_ok (o := op i) hg h hok (by omega) (st_inF [_, _, _, _] st.front1)) ?_
    rintro _ w ⟨D', dv, l1, h', rfl, hrv, st⟩
    have st := st_l3 st
    refine ML.nxt (st_a0 st) ?_
    refine ML.at ?_
    -- R7.5 28 := laws.go:20 call
    refine WL.call (r_call ty_call15 rfl) rfl rfl rfl (stepM_ok (o := op i) (l := opI b6 (op i) :: sI bs D'.bD :: DI D' 0 l1) hwf hfz hmi hok (st.perm (pm_model (D := D') (m := 0) (l1 := l1) (XW := z.XW) (K := z.K)))) ?_
    rintro _ w ⟨z', dv', hmi', rfl, hsee', st⟩
    have st := st.perm (pm_model (D := D') (m := 0) (l1 := l1) (XW := z'.XW) (K := z'.K)).symm
    obtain ⟨wa, wc, wb, wo, hwv, _⟩ := hmi'.own.form
    refine ML.nxt (st_a0 st) ?_
    refine ML.at ?_
    -- R7.6 29 := laws.go:20 call
    refine WL.call (r_call ty_call13 rfl) rfl rfl rfl (same_ok rfl (hrv.sees h.rdr) hsee' (fun x hx => List.mem_cons_of_mem _ (List.mem_cons_of_mem _ (List.mem_cons_of_mem _ (List.mem_cons_of_mem _ (mem_in (List.mem_append_left _ hx)))))) (fun x hx => List.mem_cons_of_mem _ (List.mem_cons_of_mem _ (List.mem_cons_of_mem _ (List.mem_cons_of_mem _ (mem_in (List.mem_append_right _ (List.mem_append_right _ hx))))))) st) ?_
    rintro _ w ⟨r, rfl, hrr, st⟩
    obtain rfl := hrr (by unfold rdB datB; rfl)
    refine ML.nxt (st_a0 st) ?_
    -- R7.7 30 := laws.go:20 unOp
    refine ML.v (fun w st => by first | exact r_notT rfl | exact r_notF rfl | exact r_not rfl) rfl rfl rfl ?_
    refine ML.wl ?_
    refine WL.fin hK1638 (fun _ _ h => h) ?_
    refine WC.condF rfl rfl ?_
    refine WC.skipF hK1637 (fun _ _ h => h) ?_
    refine WC.seq fun K1639 hK1639 => ?_
    -- region 9
    refine WC.region ?_
    -- R9.0 32 := laws.go:23 move
    refine WL.v (by first | exact r_move (v := .pointer _) rfl | exact r_move rfl) rfl rfl rfl ?_
    -- R9.1 33 := laws.go:23 nilCheck
    refine WL.v (by exact r_nilCheck rfl) rfl rfl rfl ?_
    -- R9.2 34 := laws.go:23 fieldAddr
    refine WL.v (by exact r_field ty_fld42_0 rfl) rfl rfl rfl ?_
    -- R9.3 35 := laws.go:23 load
    refine WL.v (by exact r_load1 ty_one40 rfl (by first | assumption | exact st.c0 (by first | decide | omega) | exact st.c1 (by first | decide | omega) | exact st.c2 (by first | decide | omega) | exact st.c3 (by first | decide | omega) | exact st.c4 (by first | decide | omega) | exact st.c5 (by first | decide | omega) | exact st.c6 (by first | decide | omega) | exact st.c7 (by first | decide | omega) | exact st.c8 (by first | decide | omega))) rfl rfl rfl ?_
    -- R9.4 36 := laws.go:23 call
    refine WL.call (r_call ty_call16 rfl) rfl rfl rfl (fuse_ok (st_inF [_, _, _, _] st)) ?_
    rintro _ w ⟨rfl, st⟩
    have st := st_outF [_, _, _, _] st
    rw [h'.fuse, h'.armed]
    -- R9.5 31 := laws.go:23 move
    refine WL.v (by first | exact r_move (v := .tuple _) rfl | exact r_move rfl) rfl rfl rfl ?_
    -- R9.6 37 := laws.go:23 extract
    refine WL.v (by first | exact r_extract (v := .int _ _) rfl rfl | exact r_extract rfl rfl) rfl rfl rfl ?_
    -- R9.7 38 := laws.go:23 extract
    refine WL.v (by first | exact r_extract (v := .bool _) rfl rfl | exact r_extract rfl rfl) rfl rfl rfl ?_
    -- R9.8 7 := laws.go:23 assign
    refine WL.v (by first | exact r_assign (v := .int _ _) rfl | exact r_assign rfl) rfl rfl rfl ?_
    -- R9.9 8 := laws.go:23 assign
    refine WL.v (by first | exact r_assign (v := .bool _) rfl | exact r_assign rfl) rfl rfl rfl ?_
    refine WL.fin hK1639 (fun _ _ h => h) ?_
    refine WC.seq fun K1640 hK1640 => ?_
    -- region 10 (draws)
    refine WC.quietS st ty_mixed (by kernel_rfl) fun Kq hKq => ?_
    -- R10.0 39 := laws.go:24 move
    refine QL.v (fun w st => by first | exact r_move (v := .pointer _) rfl | exact r_move rfl) rfl rfl rfl ?_
    -- R10.1 40 := laws.go:24 nilCheck
    refine QL.v (fun w st => by exact r_nilCheck rfl) rfl rfl rfl ?_
    -- R10.2 41 := laws.go:24 fieldAddr
    refine QL.v (fun w st => by exact r_field ty_fld42_0 rfl) rfl rfl rfl ?_
    -- R10.3 42 := laws.go:24 load
    refine QL.v (fun w st => by exact r_load1 ty_one40 rfl (by first | assumption | exact st.c0 (by first | decide | omega) | exact st.c1 (by first | decide | omega) | exact st.c2 (by first | decide | omega) | exact st.c3 (by first | decide | omega) | exact st.c4 (by first | decide | omega) | exact st.c5 (by first | decide | omega) | exact st.c6 (by first | decide | omega) | exact st.c7 (by first | decide | omega) | exact st.c8 (by first | decide | omega))) rfl rfl rfl ?_
    -- R10.4 43 := laws.go:24 call
    refine QL.call (val := .bool (stepP P (op i)).1.down) (fun w st => r_call ty_call17 rfl) rfl rfl rfl (fun w st => (isDown_ok (st_inF [_, _, _, _] st)).mono fun e w' he => by obtain ⟨v, rfl, rfl, st⟩ := he; exact ⟨_, rfl, by rw [h'.down], st_outF [_, _, _, _] st⟩) ?_
    -- R10.5 44 := laws.go:24 move
    refine QL.v (fun w st => by first | exact r_move (v := .pointer _) rfl | exact r_move rfl) rfl rfl rfl ?_
    -- R10.6 45 := laws.go:24 nilCheck
    refine QL.v (fun w st => by exact r_nilCheck rfl) rfl rfl rfl ?_
    -- R10.7 46 := laws.go:24 fieldAddr
    refine QL.v (fun w st => by exact r_field ty_fld48_4 rfl) rfl rfl rfl ?_
    -- R10.8 47 := laws.go:24 load
    refine QL.v (fun w st => by exact r_load1 ty_one4 rfl (by first | assumption | exact st.c0 (by first | decide | omega) | exact st.c1 (by first | decide | omega) | exact st.c2 (by first | decide | omega) | exact st.c3 (by first | decide | omega) | exact st.c4 (by first | decide | omega) | exact st.c5 (by first | decide | omega) | exact st.c6 (by first | decide | omega) | exact st.c7 (by first | decide | omega) | exact st.c8 (by first | decide | omega))) rfl rfl rfl ?_
    -- R10.9 48 := laws.go:24 binOp
    refine QL.v (fun w st => by exact r_bneq (t := false) ty_bool4 rfl rfl (by simp)) rfl rfl rfl ?_
    -- R10.10 49 := laws.go:24 move
    refine QL.v (fun w st => by first | exact r_move (v := .bool _) rfl | exact r_move rfl) rfl rfl rfl ?_
    -- R10.11 50 := laws.go:24 move
    refine QL.v (fun w st => by first | exact r_move (v := .pointer _) rfl | exact r_move rfl) rfl rfl rfl ?_
    -- R10.12 51 := laws.go:24 nilCheck
    refine QL.v (fun w st => by exact r_nilCheck rfl) rfl rfl rfl ?_
    -- R10.13 52 := laws.go:24 fieldAddr
    refine QL.v (fun w st => by exact r_field ty_fld42_0 rfl) rfl rfl rfl ?_
    -- R10.14 53 := laws.go:24 load
    refine QL.v (fun w st => by exact r_load1 ty_one40 rfl (by first | assumption | exact st.c0 (by first | decide | omega) | exact st.c1 (by first | decide | omega) | exact st.c2 (by first | decide | omega) | exact st.c3 (by first | decide | omega) | exact st.c4 (by first | decide | omega) | exact st.c5 (by first | decide | omega) | exact st.c6 (by first | decide | omega) | exact st.c7 (by first | decide | omega) | exact st.c8 (by first | decide | omega))) rfl rfl rfl ?_
    -- R10.15 54 := laws.go:24 call
    refine QL.call (val := .int .i64 ((stepP P (op i)).1.pend.length : Nat)) (fun w st => r_call ty_call18 rfl) rfl rfl rfl (fun w st => (pending_ok (by have := h'.hd; omega) (by have := h'.tl; have := h'.wr; omega) (st_inF [_, _, _, _] st)).mono fun e w' he => by obtain ⟨v, rfl, rfl, st⟩ := he; exact ⟨_, rfl, by have := h'.hd; rw [show D'.tl - D'.hd = (stepP P (op i)).1.pend.length by omega], st_outF [_, _, _, _] st⟩) ?_
    -- R10.16 55 := laws.go:24 move
    refine QL.v (fun w st => by first | exact r_move (v := .pointer _) rfl | exact r_move rfl) rfl rfl rfl ?_
    -- R10.17 56 := laws.go:24 nilCheck
    refine QL.v (fun w st => by exact r_nilCheck rfl) rfl rfl rfl ?_
    -- R10.18 57 := laws.go:24 fieldAddr
    refine QL.v (fun w st => by exact r_field ty_fld48_3 rfl) rfl rfl rfl ?_
    -- R10.19 58 := laws.go:24 load
    refine QL.v (fun w st => by exact r_load1 (v := .slice wa (stepP P (op i)).1.pend.length wc) ty_one46 rfl (by rw [← hwv]; exact st.c2 (by decide))) rfl rfl rfl ?_
    -- R10.20 59 := laws.go:24 call
    refine QL.v (fun w st => by exact r_len ty_usl46 rfl) rfl rfl rfl ?_
    -- R10.21 60 := laws.go:24 binOp
    refine QL.v (fun w st => by first | exact r_neq rfl rfl (decide_eq_true (by omega)) | exact r_neq rfl rfl (decide_eq_false (by omega)) | exact r_neq rfl rfl rfl) rfl rfl rfl ?_
    -- R10.22 61 := laws.go:24 pick
    refine QL.v (fun w st => by first | exact r_pickT (v := .bool _) rfl rfl | exact r_pickF (v := .bool _) rfl rfl) rfl rfl rfl ?_
    -- R10.23 62 := laws.go:24 move
    refine QL.v (fun w st => by first | exact r_move (v := .bool _) rfl | exact r_move rfl) rfl rfl rfl ?_
    -- R10.24 63 := laws.go:24 move
    refine QL.v (fun w st => by first | exact r_move (v := .bool _) rfl | exact r_move rfl) rfl rfl rfl ?_
    -- R10.25 64 := laws.go:24 move
    refine QL.v (fun w st => by first | exact r_move (v := .pointer _) rfl | exact r_move rfl) rfl rfl rfl ?_
    -- R10.26 65 := laws.go:24 nilCheck
    refine QL.v (fun w st => by exact r_nilCheck rfl) rfl rfl rfl ?_
    -- R10.27 66 := laws.go:24 fieldAddr
    refine QL.v (fun w st => by exact r_field ty_fld48_5 rfl) rfl rfl rfl ?_
    -- R10.28 67 := laws.go:24 load
    refine QL.v (fun w st => by exact r_load1 ty_one4 rfl (by first | assumption | exact st.c0 (by first | decide | omega) | exact st.c1 (by first | decide | omega) | exact st.c2 (by first | decide | omega) | exact st.c3 (by first | decide | omega) | exact st.c4 (by first | decide | omega) | exact st.c5 (by first | decide | omega) | exact st.c6 (by first | decide | omega) | exact st.c7 (by first | decide | omega) | exact st.c8 (by first | decide | omega))) rfl rfl rfl ?_
    -- R10.29 68 := laws.go:24 binOp
    refine QL.v (fun w st => by exact r_bneq (t := false) ty_bool4 rfl rfl (by simp)) rfl rfl rfl ?_
    -- R10.30 69 := laws.go:24 pick
    refine QL.v (fun w st => by first | exact r_pickT (v := .bool _) rfl rfl | exact r_pickF (v := .bool _) rfl rfl) rfl rfl rfl ?_
    -- R10.31 70 := laws.go:24 move
    refine QL.v (fun w st => by first | exact r_move (v := .bool _) rfl | exact r_move rfl) rfl rfl rfl ?_
    -- R10.32 71 := laws.go:24 move
    refine QL.v (fun w st => by first | exact r_move (v := .int _ _) rfl | exact r_move rfl) rfl rfl rfl ?_
    -- R10.33 72 := laws.go:24 move
    refine QL.v (fun w st => by first | exact r_move (v := .pointer _) rfl | exact r_move rfl) rfl rfl rfl ?_
    -- R10.34 73 := laws.go:24 nilCheck
    refine QL.v (fun w st => by exact r_nilCheck rfl) rfl rfl rfl ?_
    -- R10.35 74 := laws.go:24 fieldAddr
    refine QL.v (fun w st => by exact r_field ty_fld48_6 rfl) rfl rfl rfl ?_
    -- R10.36 75 := laws.go:24 load
    refine QL.v (fun w st => by exact r_load1 ty_one2 rfl (by first | assumption | exact st.c0 (by first | decide | omega) | exact st.c1 (by first | decide | omega) | exact st.c2 (by first | decide | omega) | exact st.c3 (by first | decide | omega) | exact st.c4 (by first | decide | omega) | exact st.c5 (by first | decide | omega) | exact st.c6 (by first | decide | omega) | exact st.c7 (by first | decide | omega) | exact st.c8 (by first | decide | omega))) rfl rfl rfl ?_
    -- R10.37 76 := laws.go:24 binOp
    refine QL.v (fun w st => by first | exact r_neq rfl rfl (decide_eq_true (by omega)) | exact r_neq rfl rfl (decide_eq_false (by omega)) | exact r_neq rfl rfl rfl) rfl rfl rfl ?_
    -- R10.38 77 := laws.go:24 pick
    refine QL.v (fun w st => by first | exact r_pickT (v := .bool _) rfl rfl | exact r_pickF (v := .bool _) rfl rfl) rfl rfl rfl ?_
    -- R10.39 78 := laws.go:24 move
    refine QL.v (fun w st => by first | exact r_move (v := .bool _) rfl | exact r_move rfl) rfl rfl rfl ?_
    -- R10.40 79 := laws.go:24 move
    refine QL.v (fun w st => by first | exact r_move (v := .pointer _) rfl | exact r_move rfl) rfl rfl rfl ?_
    -- R10.41 80 := laws.go:24 nilCheck
    refine QL.v (fun w st => by exact r_nilCheck rfl) rfl rfl rfl ?_
    -- R10.42 81 := laws.go:24 fieldAddr
    refine QL.v (fun w st => by exact r_field ty_fld42_0 rfl) rfl rfl rfl ?_
    -- R10.43 82 := laws.go:24 load
    refine QL.v (fun w st => by exact r_load1 ty_one40 rfl (by first | assumption | exact st.c0 (by first | decide | omega) | exact st.c1 (by first | decide | omega) | exact st.c2 (by first | decide | omega) | exact st.c3 (by first | decide | omega) | exact st.c4 (by first | decide | omega) | exact st.c5 (by first | decide | omega) | exact st.c6 (by first | decide | omega) | exact st.c7 (by first | decide | omega) | exact st.c8 (by first | decide | omega))) rfl rfl rfl ?_
    -- R10.44 83 := laws.go:25 call
    refine QL.call (val := .int .i64 ((stepP P (op i)).1.sec : Nat)) (fun w st => r_call ty_call19 rfl) rfl rfl rfl (fun w st => (sectors_ok (st_inF [_, _, _, _] st)).mono fun e w' he => by obtain ⟨v, rfl, rfl, st⟩ := he; exact ⟨_, rfl, by rw [h'.sec], st_outF [_, _, _, _] st⟩) ?_
    -- R10.45 84 := laws.go:24 move
    refine QL.v (fun w st => by first | exact r_move (v := .pointer _) rfl | exact r_move rfl) rfl rfl rfl ?_
    -- R10.46 85 := laws.go:24 nilCheck
    refine QL.v (fun w st => by exact r_nilCheck rfl) rfl rfl rfl ?_
    -- R10.47 86 := laws.go:24 fieldAddr
    refine QL.v (fun w st => by exact r_field ty_fld48_0 rfl) rfl rfl rfl ?_
    -- R10.48 87 := laws.go:24 load
    refine QL.v (fun w st => by exact r_load1 ty_one2 rfl (by first | assumption | exact st.c0 (by first | decide | omega) | exact st.c1 (by first | decide | omega) | exact st.c2 (by first | decide | omega) | exact st.c3 (by first | decide | omega) | exact st.c4 (by first | decide | omega) | exact st.c5 (by first | decide | omega) | exact st.c6 (by first | decide | omega) | exact st.c7 (by first | decide | omega) | exact st.c8 (by first | decide | omega))) rfl rfl rfl ?_
    -- R10.49 88 := laws.go:24 binOp
    refine QL.v (fun w st => by first | exact r_neq rfl rfl (decide_eq_true (by omega)) | exact r_neq rfl rfl (decide_eq_false (by omega)) | exact r_neq rfl rfl rfl) rfl rfl rfl ?_
    -- R10.50 89 := laws.go:24 pick
    refine QL.v (fun w st => by first | exact r_pickT (v := .bool _) rfl rfl | exact r_pickF (v := .bool _) rfl rfl) rfl rfl rfl ?_
    refine QL.wl hKq fun w st => ?_
    refine WL.fin hK1640 (fun _ _ h => h) ?_
    refine WC.condF rfl rfl ?_
    refine WC.skipF hK1635 (fun _ _ h => h) ?_
    -- region 12
    refine WC.region ?_
    -- R12.0 90 := laws.go:19 binOp
    refine WL.v (by exact r_add (r := ((i + 1 : Nat) : Int)) rfl rfl ((wi64 (by omega) (by omega)).trans (by omega))) rfl rfl rfl ?_
    -- R12.1 19 := laws.go:19 move
    refine WL.v (by first | exact r_move (v := .int _ _) rfl | exact r_move rfl) rfl rfl rfl ?_
    refine WL.next hK1 (fun _ _ h => h) ⟨D', (stepP P (op i)).1, i + 1, z'⟩ ⟨h', by show i + 1 ≤ n; omega, by show (stepP P (op i)).1.wr ≤ 128 * (i + 1); omega, hmi', st.drop.sublist (.cons_cons _ (.cons_cons _ (.cons_cons _ (di_sub (List.sublist_append_right _ _)))))⟩ (by show n - (i + 1) < n - i; omega) (by repeat (first | exact sub_nil _ | refine sub_cons rfl rfl ?_))
  rw [hw0] at goal
  exact goal
end Go.Proofs.Qxb6500837aDoor

