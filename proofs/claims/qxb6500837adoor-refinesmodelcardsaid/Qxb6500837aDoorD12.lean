import Derived.Test.Qxb6500837aDoorD11
set_option linter.unusedVariables false
set_option linter.unusedSimpArgs false
set_option maxRecDepth 20000
namespace Go.Proofs.Qxb6500837aDoor
open Go.RowKit Go.E1 Go.Disk
variable {w0 : World} {L l : List HI} {w : World} {D : DK} {m : Int} {P : PD} {q : Obj → Prop}

theorem st_x2 {e x : HI} (st : S0 w0 (e :: DI D m (x :: L)) w) : S0 w0 (e :: DI D m L) w := (st.perm (List.Perm.cons _ di_front)).drop1
theorem arm_fix {a b c d : HI} {XI XK R : List HI} (st : S0 w0 (a :: (XI ++ (b :: c :: d :: (XK ++ R)))) w) : S0 w0 (a :: b :: c :: d :: (XI ++ R)) w :=
  (st.sublist (l' := a :: (XI ++ (b :: c :: d :: R))) (((((List.sublist_append_right XK R).cons_cons d).cons_cons c).cons_cons b).append_left XI |>.cons_cons a)).perm (.cons _ (List.perm_append_comm_assoc XI [b, c, d] R))
theorem br_sl {el : Nat} {v : Value} {bs : List Int} {XI : List HI} (h : BR el v bs XI) : ∃ a n c, v = .slice a n c := by
  rcases h.form with ⟨h, _⟩ | h
  · exact ⟨_, _, _, h⟩
  · obtain ⟨b, c, f, h, _⟩ := h
    exact ⟨_, _, _, h⟩

set_option maxHeartbeats 4000000 in
theorem disarmM_ok (h : Rep D P) (st : S0 w0 (DI D 0 L) w) :
    Calls Tryd.prog 42 #[.pointer (some ⟨D.bD, 0, none⟩)] w (Ret fun v w' => ∃ D' l1, D'.bD = D.bD ∧ Rep D' (disarmP P).1 ∧ EV (disarmP P).2 v l1 ∧ S0 w0 (l1 ++ DI D' 0 L) w') := by
  by_cases hdn : P.down = true
  · skip
    refine enterD [.pointer (some ⟨D.bD, 0, none⟩)] Tryd.func42 rfl Tryd.ntmps42 rfl ?_
    show WC _ _ _ 17 [] [(0, .pointer (some ⟨D.bD, 0, none⟩))] _
    refine WC.seqD fun K312 hK312 => ?_
    -- region 0
    refine WC.region ?_
    -- R0.0 2 := disk.go:205 assign
    refine WL.v (by first | exact r_assign (v := .nilIface) rfl | exact r_assign (v := .iface _ _) rfl | exact r_assign rfl) rfl rfl rfl ?_
    refine WL.fin (hK312 _) (fun _ _ h => h) ?_
    refine WC.seqD fun K313 hK313 => ?_
    -- region 1
    refine WC.region ?_
    -- R1.0 3 := disk.go:206 move
    refine WL.v (by first | exact r_move (v := .pointer _) rfl | exact r_move rfl) rfl rfl rfl ?_
    -- R1.1 4 := disk.go:206 nilCheck
    refine WL.v (by exact r_nilCheck rfl) rfl rfl rfl ?_
    -- R1.2 5 := disk.go:206 fieldAddr
    refine WL.v (by exact r_field ty_fld97_0 rfl) rfl rfl rfl ?_
    -- R1.3 6 := disk.go:206 call
    refine WL.lock Tryd.muLib ty_call47 (st) rfl (by decide) rfl rfl rfl rfl ?_
    intro w st
    refine WL.fin (hK313 _) (fun _ _ h => h) ?_
    refine WC.seqD fun K314 hK314 => ?_
    -- region 2
    refine WC.region ?_
    -- R2.0 7 := disk.go:207 move
    refine WL.v (by first | exact r_move (v := .pointer _) rfl | exact r_move rfl) rfl rfl rfl ?_
    -- R2.1 8 := disk.go:207 nilCheck
    refine WL.v (by exact r_nilCheck rfl) rfl rfl rfl ?_
    -- R2.2 9 := disk.go:207 fieldAddr
    refine WL.v (by exact r_field ty_fld97_0 rfl) rfl rfl rfl ?_
    -- R2.3 None := disk.go:207 defer
    refine WL.defer rfl rfl rfl ?_
    refine WL.fin (hK314 _) (fun _ _ h => h) ?_
    refine WC.seqD fun K315 hK315 => ?_
    refine WC.seqD fun K316 hK316 => ?_
    -- region 3
    refine WC.region ?_
    -- R3.0 10 := disk.go:208 move
    refine WL.v (by first | exact r_move (v := .pointer _) rfl | exact r_move rfl) rfl rfl rfl ?_
    -- R3.1 11 := disk.go:208 nilCheck
    refine WL.v (by exact r_nilCheck rfl) rfl rfl rfl ?_
    -- R3.2 12 := disk.go:208 fieldAddr
    refine WL.v (by exact r_field ty_fld97_3 rfl) rfl rfl rfl ?_
    -- R3.3 13 := disk.go:208 load
    have st := st_nrm (L' := dC 1 D) rfl st
    refine WL.v (v := .bool true) (by exact r_load1 ty_one4 rfl ((st.c0 (by decide)).trans (show (some (Value.bool D.down) : Option Value) = _ by rw [h.down, hdn]))) rfl rfl rfl ?_
    refine WL.fin (hK316 _) (fun _ _ h => h) ?_
    refine WC.condT rfl rfl ?_
    refine WC.seqD fun K317 hK317 => ?_
    -- region 4
    refine WC.region ?_
    -- R4.0 14 := disk.go:209 call
    refine WL.call (r_call ty_call50 rfl) rfl rfl rfl (refuse_ok _ _ _ st) ?_
    rintro _ w ⟨be, rfl, st⟩
    -- R4.1 2 := disk.go:209 assign
    refine WL.v (by first | exact r_assign (v := .nilIface) rfl | exact r_assign (v := .iface _ _) rfl | exact r_assign rfl) rfl rfl rfl ?_
    refine WL.fin (hK317 _) (fun _ _ h => h) ?_
    refine WC.retD1 Tryd.muLib ty_call48 Tryd.results42 (fun _ _ h => h) rfl (st.front1) (by decide) rfl ?_
    intro w st
    have st := st_nrm (L' := dC 0 D) rfl st
    have e : disarmP P = (P, 3) := by unfold disarmP; rw [if_pos hdn]
    rw [e]
    exact ⟨_, rfl, D, _, rfl, h, EV.e3, st.front1⟩
  have e : disarmP P = (disP P, 0) := by unfold disarmP; rw [if_neg hdn]
  rw [e]
  refine enterD [.pointer (some ⟨D.bD, 0, none⟩)] Tryd.func42 rfl Tryd.ntmps42 rfl ?_
  show WC _ _ _ 17 [] [(0, .pointer (some ⟨D.bD, 0, none⟩))] _
  refine WC.seqD fun K318 hK318 => ?_
  -- region 0
  refine WC.region ?_
  -- R0.0 2 := disk.go:205 assign
  refine WL.v (by first | exact r_assign (v := .nilIface) rfl | exact r_assign (v := .iface _ _) rfl | exact r_assign rfl) rfl rfl rfl ?_
  refine WL.fin (hK318 _) (fun _ _ h => h) ?_
  refine WC.seqD fun K319 hK319 => ?_
  -- region 1
  refine WC.region ?_
  -- R1.0 3 := disk.go:206 move
  refine WL.v (by first | exact r_move (v := .pointer _) rfl | exact r_move rfl) rfl rfl rfl ?_
  -- R1.1 4 := disk.go:206 nilCheck
  refine WL.v (by exact r_nilCheck rfl) rfl rfl rfl ?_
  -- R1.2 5 := disk.go:206 fieldAddr
  refine WL.v (by exact r_field ty_fld97_0 rfl) rfl rfl rfl ?_
  -- R1.3 6 := disk.go:206 call
  refine WL.lock Tryd.muLib ty_call47 (st) rfl (by decide) rfl rfl rfl rfl ?_
  intro w st
  refine WL.fin (hK319 _) (fun _ _ h => h) ?_
  refine WC.seqD fun K320 hK320 => ?_
  -- region 2
  refine WC.region ?_
  -- R2.0 7 := disk.go:207 move
  refine WL.v (by first | exact r_move (v := .pointer _) rfl | exact r_move rfl) rfl rfl rfl ?_
  -- R2.1 8 := disk.go:207 nilCheck
  refine WL.v (by exact r_nilCheck rfl) rfl rfl rfl ?_
  -- R2.2 9 := disk.go:207 fieldAddr
  refine WL.v (by exact r_field ty_fld97_0 rfl) rfl rfl rfl ?_
  -- R2.3 None := disk.go:207 defer
  refine WL.defer rfl rfl rfl ?_
  refine WL.fin (hK320 _) (fun _ _ h => h) ?_
  refine WC.seqD fun K321 hK321 => ?_
  refine WC.seqD fun K322 hK322 => ?_
  -- region 3
  refine WC.region ?_
  -- R3.0 10 := disk.go:208 move
  refine WL.v (by first | exact r_move (v := .pointer _) rfl | exact r_move rfl) rfl rfl rfl ?_
  -- R3.1 11 := disk.go:208 nilCheck
  refine WL.v (by exact r_nilCheck rfl) rfl rfl rfl ?_
  -- R3.2 12 := disk.go:208 fieldAddr
  refine WL.v (by exact r_field ty_fld97_3 rfl) rfl rfl rfl ?_
  -- R3.3 13 := disk.go:208 load
  have st := st_nrm (L' := dC 1 D) rfl st
  refine WL.v (v := .bool false) (by exact r_load1 ty_one4 rfl ((st.c0 (by decide)).trans (show (some (Value.bool D.down) : Option Value) = _ by rw [h.down]; simp [hdn]))) rfl rfl rfl ?_
  refine WL.fin (hK322 _) (fun _ _ h => h) ?_
  refine WC.condF rfl rfl ?_
  refine WC.skipF (hK321 _) (fun _ _ h => h) ?_
  refine WC.seqD fun K323 hK323 => ?_
  -- region 5
  refine WC.region ?_
  -- R5.0 15 := disk.go:211 move
  refine WL.v (by first | exact r_move (v := .pointer _) rfl | exact r_move rfl) rfl rfl rfl ?_
  -- R5.1 16 := disk.go:211 call
  refine WL.call (r_call ty_call64 rfl) rfl rfl rfl (disarm_ok st) ?_
  rintro _ w st
  refine WL.fin (hK323 _) (fun _ _ h => h) ?_
  refine WC.seqD fun K324 hK324 => ?_
  -- region 6
  refine WC.region ?_
  -- R6.0 2 := disk.go:212 assign
  refine WL.v (by first | exact r_assign (v := .nilIface) rfl | exact r_assign (v := .iface _ _) rfl | exact r_assign rfl) rfl rfl rfl ?_
  refine WL.fin (hK324 _) (fun _ _ h => h) ?_
  refine WC.retD1 Tryd.muLib ty_call48 Tryd.results42 (fun _ _ h => h) rfl (st) (by decide) rfl ?_
  intro w st
  have st := st_nrm (L' := dC 0 (disD D)) rfl st
  exact ⟨_, rfl, disD D, [], rfl, h.dis, EV.ok, st⟩

set_option maxHeartbeats 4000000 in
theorem reopen_ok (h : Rep D P) (st : S0 w0 (DI D 0 L) w) :
    Calls Tryd.prog 43 #[.pointer (some ⟨D.bD, 0, none⟩)] w (Ret fun v w' => ∃ D' l1, D'.bD = D.bD ∧ Rep D' (reopenP P).1 ∧ EV (reopenP P).2 v l1 ∧ S0 w0 (l1 ++ DI D' 0 L) w') := by
  by_cases hdn : P.down = true
  · have e : reopenP P = ({ P with down := false }, 0) := by unfold reopenP; rw [if_pos hdn]
    rw [e]
    refine enterD [.pointer (some ⟨D.bD, 0, none⟩)] Tryd.func43 rfl Tryd.ntmps43 rfl ?_
    show WC _ _ _ 19 [] [(0, .pointer (some ⟨D.bD, 0, none⟩))] _
    refine WC.seqD fun K325 hK325 => ?_
    -- region 0
    refine WC.region ?_
    -- R0.0 2 := disk.go:217 assign
    refine WL.v (by first | exact r_assign (v := .nilIface) rfl | exact r_assign (v := .iface _ _) rfl | exact r_assign rfl) rfl rfl rfl ?_
    refine WL.fin (hK325 _) (fun _ _ h => h) ?_
    refine WC.seqD fun K326 hK326 => ?_
    -- region 1
    refine WC.region ?_
    -- R1.0 3 := disk.go:218 move
    refine WL.v (by first | exact r_move (v := .pointer _) rfl | exact r_move rfl) rfl rfl rfl ?_
    -- R1.1 4 := disk.go:218 nilCheck
    refine WL.v (by exact r_nilCheck rfl) rfl rfl rfl ?_
    -- R1.2 5 := disk.go:218 fieldAddr
    refine WL.v (by exact r_field ty_fld97_0 rfl) rfl rfl rfl ?_
    -- R1.3 6 := disk.go:218 call
    refine WL.lock Tryd.muLib ty_call47 (st) rfl (by decide) rfl rfl rfl rfl ?_
    intro w st
    refine WL.fin (hK326 _) (fun _ _ h => h) ?_
    refine WC.seqD fun K327 hK327 => ?_
    -- region 2
    refine WC.region ?_
    -- R2.0 7 := disk.go:219 move
    refine WL.v (by first | exact r_move (v := .pointer _) rfl | exact r_move rfl) rfl rfl rfl ?_
    -- R2.1 8 := disk.go:219 nilCheck
    refine WL.v (by exact r_nilCheck rfl) rfl rfl rfl ?_
    -- R2.2 9 := disk.go:219 fieldAddr
    refine WL.v (by exact r_field ty_fld97_0 rfl) rfl rfl rfl ?_
    -- R2.3 None := disk.go:219 defer
    refine WL.defer rfl rfl rfl ?_
    refine WL.fin (hK327 _) (fun _ _ h => h) ?_
    refine WC.seqD fun K328 hK328 => ?_
    refine WC.seqD fun K329 hK329 => ?_
    -- region 3
    refine WC.region ?_
    -- R3.0 10 := disk.go:220 move
    refine WL.v (by first | exact r_move (v := .pointer _) rfl | exact r_move rfl) rfl rfl rfl ?_
    -- R3.1 11 := disk.go:220 nilCheck
    refine WL.v (by exact r_nilCheck rfl) rfl rfl rfl ?_
    -- R3.2 12 := disk.go:220 fieldAddr
    refine WL.v (by exact r_field ty_fld97_3 rfl) rfl rfl rfl ?_
    -- R3.3 13 := disk.go:220 load
    have st := st_nrm (L' := dC 1 D) rfl st
    refine WL.v (v := .bool true) (by exact r_load1 ty_one4 rfl ((st.c0 (by decide)).trans (show (some (Value.bool D.down) : Option Value) = _ by rw [h.down, hdn]))) rfl rfl rfl ?_
    -- R3.4 14 := disk.go:220 unOp
    refine WL.v (by first | exact r_notT rfl | exact r_notF rfl | exact r_not rfl) rfl rfl rfl ?_
    refine WL.fin (hK329 _) (fun _ _ h => h) ?_
    refine WC.condF rfl rfl ?_
    refine WC.skipF (hK328 _) (fun _ _ h => h) ?_
    refine WC.seqD fun K330 hK330 => ?_
    -- region 5
    refine WC.region ?_
    -- R5.0 16 := disk.go:223 move
    refine WL.v (by first | exact r_move (v := .pointer _) rfl | exact r_move rfl) rfl rfl rfl ?_
    -- R5.1 17 := disk.go:223 nilCheck
    refine WL.v (by exact r_nilCheck rfl) rfl rfl rfl ?_
    -- R5.2 18 := disk.go:223 fieldAddr
    refine WL.v (by exact r_field ty_fld97_3 rfl) rfl rfl rfl ?_
    -- R5.3 None := disk.go:223 store
    first | refine WL.store (v := .bool _) st ty_one4 rfl rfl rfl (by first | decide | omega) rfl rfl ?_ | refine WL.store (v := _) st ty_one4 rfl rfl rfl (by first | decide | omega) rfl rfl ?_ | refine WL.store (v := .bool _) st.front1 ty_one4 rfl rfl rfl (by first | decide | omega) rfl rfl ?_ | refine WL.store (v := _) st.front1 ty_one4 rfl rfl rfl (by first | decide | omega) rfl rfl ?_ | refine WL.store (v := .bool _) st.front2 ty_one4 rfl rfl rfl (by first | decide | omega) rfl rfl ?_ | refine WL.store (v := _) st.front2 ty_one4 rfl rfl rfl (by first | decide | omega) rfl rfl ?_ | refine WL.store (v := .bool _) st.front3 ty_one4 rfl rfl rfl (by first | decide | omega) rfl rfl ?_ | refine WL.store (v := _) st.front3 ty_one4 rfl rfl rfl (by first | decide | omega) rfl rfl ?_ | refine WL.store (v := .bool _) st.front4 ty_one4 rfl rfl rfl (by first | decide | omega) rfl rfl ?_ | refine WL.store (v := _) st.front4 ty_one4 rfl rfl rfl (by first | decide | omega) rfl rfl ?_ | refine WL.store (v := .bool _) st.front5 ty_one4 rfl rfl rfl (by first | decide | omega) rfl rfl ?_ | refine WL.store (v := _) st.front5 ty_one4 rfl rfl rfl (by first | decide | omega) rfl rfl ?_ | refine WL.store (v := .bool _) st.front6 ty_one4 rfl rfl rfl (by first | decide | omega) rfl rfl ?_ | refine WL.store (v := _) st.front6 ty_one4 rfl rfl rfl (by first | decide | omega) rfl rfl ?_ | refine WL.store (v := .bool _) st.front7 ty_one4 rfl rfl rfl (by first | decide | omega) rfl rfl ?_ | refine WL.store (v := _) st.front7 ty_one4 rfl rfl rfl (by first | decide | omega) rfl rfl ?_ | refine WL.store (v := .bool _) st.front8 ty_one4 rfl rfl rfl (by first | decide | omega) rfl rfl ?_ | refine WL.store (v := _) st.front8 ty_one4 rfl rfl rfl (by first | decide | omega) rfl rfl ?_
    intro w st
    refine WL.fin (hK330 _) (fun _ _ h => h) ?_
    refine WC.seqD fun K331 hK331 => ?_
    -- region 6
    refine WC.region ?_
    -- R6.0 2 := disk.go:224 assign
    refine WL.v (by first | exact r_assign (v := .nilIface) rfl | exact r_assign (v := .iface _ _) rfl | exact r_assign rfl) rfl rfl rfl ?_
    refine WL.fin (hK331 _) (fun _ _ h => h) ?_
    refine WC.retD1 Tryd.muLib ty_call48 Tryd.results43 (fun _ _ h => h) rfl (st) (by decide) rfl ?_
    intro w st
    have st := st_nrm (L' := dC 0 { D with down := false }) rfl st
    exact ⟨_, rfl, { D with down := false }, [], rfl, { h with down := rfl }, EV.ok, st⟩
  have e : reopenP P = (P, 4) := by unfold reopenP; rw [if_neg hdn]
  rw [e]
  refine enterD [.pointer (some ⟨D.bD, 0, none⟩)] Tryd.func43 rfl Tryd.ntmps43 rfl ?_
  show WC _ _ _ 19 [] [(0, .pointer (some ⟨D.bD, 0, none⟩))] _
  refine WC.seqD fun K332 hK332 => ?_
  -- region 0
  refine WC.region ?_
  -- R0.0 2 := disk.go:217 assign
  refine WL.v (by first | exact r_assign (v := .nilIface) rfl | exact r_assign (v := .iface _ _) rfl | exact r_assign rfl) rfl rfl rfl ?_
  refine WL.fin (hK332 _) (fun _ _ h => h) ?_
  refine WC.seqD fun K333 hK333 => ?_
  -- region 1
  refine WC.region ?_
  -- R1.0 3 := disk.go:218 move
  refine WL.v (by first | exact r_move (v := .pointer _) rfl | exact r_move rfl) rfl rfl rfl ?_
  -- R1.1 4 := disk.go:218 nilCheck
  refine WL.v (by exact r_nilCheck rfl) rfl rfl rfl ?_
  -- R1.2 5 := disk.go:218 fieldAddr
  refine WL.v (by exact r_field ty_fld97_0 rfl) rfl rfl rfl ?_
  -- R1.3 6 := disk.go:218 call
  refine WL.lock Tryd.muLib ty_call47 (st) rfl (by decide) rfl rfl rfl rfl ?_
  intro w st
  refine WL.fin (hK333 _) (fun _ _ h => h) ?_
  refine WC.seqD fun K334 hK334 => ?_
  -- region 2
  refine WC.region ?_
  -- R2.0 7 := disk.go:219 move
  refine WL.v (by first | exact r_move (v := .pointer _) rfl | exact r_move rfl) rfl rfl rfl ?_
  -- R2.1 8 := disk.go:219 nilCheck
  refine WL.v (by exact r_nilCheck rfl) rfl rfl rfl ?_
  -- R2.2 9 := disk.go:219 fieldAddr
  refine WL.v (by exact r_field ty_fld97_0 rfl) rfl rfl rfl ?_
  -- R2.3 None := disk.go:219 defer
  refine WL.defer rfl rfl rfl ?_
  refine WL.fin (hK334 _) (fun _ _ h => h) ?_
  refine WC.seqD fun K335 hK335 => ?_
  refine WC.seqD fun K336 hK336 => ?_
  -- region 3
  refine WC.region ?_
  -- R3.0 10 := disk.go:220 move
  refine WL.v (by first | exact r_move (v := .pointer _) rfl | exact r_move rfl) rfl rfl rfl ?_
  -- R3.1 11 := disk.go:220 nilCheck
  refine WL.v (by exact r_nilCheck rfl) rfl rfl rfl ?_
  -- R3.2 12 := disk.go:220 fieldAddr
  refine WL.v (by exact r_field ty_fld97_3 rfl) rfl rfl rfl ?_
  -- R3.3 13 := disk.go:220 load
  have st := st_nrm (L' := dC 1 D) rfl st
  refine WL.v (v := .bool false) (by exact r_load1 ty_one4 rfl ((st.c0 (by decide)).trans (show (some (Value.bool D.down) : Option Value) = _ by rw [h.down]; simp [hdn]))) rfl rfl rfl ?_
  -- R3.4 14 := disk.go:220 unOp
  refine WL.v (by first | exact r_notT rfl | exact r_notF rfl | exact r_not rfl) rfl rfl rfl ?_
  refine WL.fin (hK336 _) (fun _ _ h => h) ?_
  refine WC.condT rfl rfl ?_
  refine WC.seqD fun K337 hK337 => ?_
  -- region 4
  refine WC.region ?_
  -- R4.0 15 := disk.go:221 call
  refine WL.call (r_call ty_call50 rfl) rfl rfl rfl (refuse_ok _ _ _ st) ?_
  rintro _ w ⟨be, rfl, st⟩
  -- R4.1 2 := disk.go:221 assign
  refine WL.v (by first | exact r_assign (v := .nilIface) rfl | exact r_assign (v := .iface _ _) rfl | exact r_assign rfl) rfl rfl rfl ?_
  refine WL.fin (hK337 _) (fun _ _ h => h) ?_
  refine WC.retD1 Tryd.muLib ty_call48 Tryd.results43 (fun _ _ h => h) rfl (st.front1) (by decide) rfl ?_
  intro w st
  have st := st_nrm (L' := dC 0 D) rfl st
  exact ⟨_, rfl, D, _, rfl, h, EV.e4, st.front1⟩

set_option maxHeartbeats 4000000 in
theorem crashM_ok (h : Rep D P) (s : SV) (hs : s.ok) (hl : s.bs.length ≤ 65536) (tear tb : Int) (hrd : ∀ l' w', S0 w0 l' w' → s.rd w') (st : S0 w0 (DI D 0 L) w) :
    Calls Tryd.prog 40 #[.pointer (some ⟨D.bD, 0, none⟩), .agg #[.slice s.a s.bs.length s.c, .int .i64 tear, .int .i64 tb]] w (Ret fun v w' => ∃ D' l1, D'.bD = D.bD ∧ Rep D' (crashCP P s.bs tear tb).1 ∧ EV (crashCP P s.bs tear tb).2 v l1 ∧ S0 w0 (l1 ++ DI D' 0 L) w') := by
  by_cases hdn : P.down = true
  · skip
    refine enterD [.pointer (some ⟨D.bD, 0, none⟩), .agg #[.slice s.a s.bs.length s.c, .int .i64 tear, .int .i64 tb]] Tryd.func40 rfl Tryd.ntmps40 rfl ?_
    show WC _ _ _ 20 [] [(0, .pointer (some ⟨D.bD, 0, none⟩)), (1, .agg #[.slice s.a s.bs.length s.c, .int .i64 tear, .int .i64 tb])] _
    refine WC.seqD fun K338 hK338 => ?_
    -- region 0
    refine WC.region ?_
    -- R0.0 3 := disk.go:173 box
    first | refine WL.box (m := 3) (vs := [.slice _ _ _, .int _ _, .int _ _]) st rfl rfl rfl rfl rfl rfl ?_ | refine WL.box (m := 3) (vs := [_, _, _]) st rfl rfl rfl rfl rfl rfl ?_ | refine WL.box st rfl rfl rfl rfl rfl rfl ?_
    intro b3 w st
    -- R0.1 4 := disk.go:173 assign
    refine WL.v (by first | exact r_assign (v := .nilIface) rfl | exact r_assign (v := .iface _ _) rfl | exact r_assign rfl) rfl rfl rfl ?_
    refine WL.fin (hK338 _) (fun _ _ h => h) ?_
    refine WC.seqD fun K339 hK339 => ?_
    -- region 1
    refine WC.region ?_
    -- R1.0 5 := disk.go:174 move
    refine WL.v (by first | exact r_move (v := .pointer _) rfl | exact r_move rfl) rfl rfl rfl ?_
    -- R1.1 6 := disk.go:174 nilCheck
    refine WL.v (by exact r_nilCheck rfl) rfl rfl rfl ?_
    -- R1.2 7 := disk.go:174 fieldAddr
    refine WL.v (by exact r_field ty_fld97_0 rfl) rfl rfl rfl ?_
    -- R1.3 8 := disk.go:174 call
    refine WL.lock Tryd.muLib ty_call47 (st_in st) rfl (by decide) rfl rfl rfl rfl ?_
    intro w st
    refine WL.fin (hK339 _) (fun _ _ h => h) ?_
    refine WC.seqD fun K340 hK340 => ?_
    -- region 2
    refine WC.region ?_
    -- R2.0 9 := disk.go:175 move
    refine WL.v (by first | exact r_move (v := .pointer _) rfl | exact r_move rfl) rfl rfl rfl ?_
    -- R2.1 10 := disk.go:175 nilCheck
    refine WL.v (by exact r_nilCheck rfl) rfl rfl rfl ?_
    -- R2.2 11 := disk.go:175 fieldAddr
    refine WL.v (by exact r_field ty_fld97_0 rfl) rfl rfl rfl ?_
    -- R2.3 None := disk.go:175 defer
    refine WL.defer rfl rfl rfl ?_
    refine WL.fin (hK340 _) (fun _ _ h => h) ?_
    refine WC.seqD fun K341 hK341 => ?_
    refine WC.seqD fun K342 hK342 => ?_
    -- region 3
    refine WC.region ?_
    -- R3.0 12 := disk.go:176 move
    refine WL.v (by first | exact r_move (v := .pointer _) rfl | exact r_move rfl) rfl rfl rfl ?_
    -- R3.1 13 := disk.go:176 nilCheck
    refine WL.v (by exact r_nilCheck rfl) rfl rfl rfl ?_
    -- R3.2 14 := disk.go:176 fieldAddr
    refine WL.v (by exact r_field ty_fld97_3 rfl) rfl rfl rfl ?_
    -- R3.3 15 := disk.go:176 load
    have st := st_nrm (L' := dC 1 D) rfl st
    refine WL.v (v := .bool true) (by exact r_load1 ty_one4 rfl ((st.c0 (by decide)).trans (show (some (Value.bool D.down) : Option Value) = _ by rw [h.down, hdn]))) rfl rfl rfl ?_
    refine WL.fin (hK342 _) (fun _ _ h => h) ?_
    refine WC.condT rfl rfl ?_
    refine WC.seqD fun K343 hK343 => ?_
    -- region 4
    refine WC.region ?_
    -- R4.0 16 := disk.go:177 call
    refine WL.call (r_call ty_call50 rfl) rfl rfl rfl (refuse_ok _ _ _ st) ?_
    rintro _ w ⟨be, rfl, st⟩
    -- R4.1 4 := disk.go:177 assign
    refine WL.v (by first | exact r_assign (v := .nilIface) rfl | exact r_assign (v := .iface _ _) rfl | exact r_assign rfl) rfl rfl rfl ?_
    refine WL.fin (hK343 _) (fun _ _ h => h) ?_
    refine WC.retD1 Tryd.muLib ty_call48 Tryd.results40 (fun _ _ h => h) rfl (st.front1) (by decide) rfl ?_
    intro w st
    have st := st_nrm (L' := dC 0 D) rfl st
    have e : crashCP P s.bs tear tb = (P, 3) := by unfold crashCP; rw [if_pos hdn]
    rw [e]
    exact ⟨_, rfl, D, _, rfl, h, EV.e3, st_x2 st.front1⟩
  have e : crashCP P s.bs tear tb = (crashP P s.bs tear tb, 0) := by unfold crashCP; rw [if_neg hdn]
  rw [e]
  refine enterD [.pointer (some ⟨D.bD, 0, none⟩), .agg #[.slice s.a s.bs.length s.c, .int .i64 tear, .int .i64 tb]] Tryd.func40 rfl Tryd.ntmps40 rfl ?_
  show WC _ _ _ 20 [] [(0, .pointer (some ⟨D.bD, 0, none⟩)), (1, .agg #[.slice s.a s.bs.length s.c, .int .i64 tear, .int .i64 tb])] _
  refine WC.seqD fun K344 hK344 => ?_
  -- region 0
  refine WC.region ?_
  -- R0.0 3 := disk.go:173 box
  first | refine WL.box (m := 3) (vs := [.slice _ _ _, .int _ _, .int _ _]) st rfl rfl rfl rfl rfl rfl ?_ | refine WL.box (m := 3) (vs := [_, _, _]) st rfl rfl rfl rfl rfl rfl ?_ | refine WL.box st rfl rfl rfl rfl rfl rfl ?_
  intro b3 w st
  -- R0.1 4 := disk.go:173 assign
  refine WL.v (by first | exact r_assign (v := .nilIface) rfl | exact r_assign (v := .iface _ _) rfl | exact r_assign rfl) rfl rfl rfl ?_
  refine WL.fin (hK344 _) (fun _ _ h => h) ?_
  refine WC.seqD fun K345 hK345 => ?_
  -- region 1
  refine WC.region ?_
  -- R1.0 5 := disk.go:174 move
  refine WL.v (by first | exact r_move (v := .pointer _) rfl | exact r_move rfl) rfl rfl rfl ?_
  -- R1.1 6 := disk.go:174 nilCheck
  refine WL.v (by exact r_nilCheck rfl) rfl rfl rfl ?_
  -- R1.2 7 := disk.go:174 fieldAddr
  refine WL.v (by exact r_field ty_fld97_0 rfl) rfl rfl rfl ?_
  -- R1.3 8 := disk.go:174 call
  refine WL.lock Tryd.muLib ty_call47 (st_in st) rfl (by decide) rfl rfl rfl rfl ?_
  intro w st
  refine WL.fin (hK345 _) (fun _ _ h => h) ?_
  refine WC.seqD fun K346 hK346 => ?_
  -- region 2
  refine WC.region ?_
  -- R2.0 9 := disk.go:175 move
  refine WL.v (by first | exact r_move (v := .pointer _) rfl | exact r_move rfl) rfl rfl rfl ?_
  -- R2.1 10 := disk.go:175 nilCheck
  refine WL.v (by exact r_nilCheck rfl) rfl rfl rfl ?_
  -- R2.2 11 := disk.go:175 fieldAddr
  refine WL.v (by exact r_field ty_fld97_0 rfl) rfl rfl rfl ?_
  -- R2.3 None := disk.go:175 defer
  refine WL.defer rfl rfl rfl ?_
  refine WL.fin (hK346 _) (fun _ _ h => h) ?_
  refine WC.seqD fun K347 hK347 => ?_
  refine WC.seqD fun K348 hK348 => ?_
  -- region 3
  refine WC.region ?_
  -- R3.0 12 := disk.go:176 move
  refine WL.v (by first | exact r_move (v := .pointer _) rfl | exact r_move rfl) rfl rfl rfl ?_
  -- R3.1 13 := disk.go:176 nilCheck
  refine WL.v (by exact r_nilCheck rfl) rfl rfl rfl ?_
  -- R3.2 14 := disk.go:176 fieldAddr
  refine WL.v (by exact r_field ty_fld97_3 rfl) rfl rfl rfl ?_
  -- R3.3 15 := disk.go:176 load
  have st := st_nrm (L' := dC 1 D) rfl st
  refine WL.v (v := .bool false) (by exact r_load1 ty_one4 rfl ((st.c0 (by decide)).trans (show (some (Value.bool D.down) : Option Value) = _ by rw [h.down]; simp [hdn]))) rfl rfl rfl ?_
  refine WL.fin (hK348 _) (fun _ _ h => h) ?_
  refine WC.condF rfl rfl ?_
  refine WC.skipF (hK347 _) (fun _ _ h => h) ?_
  refine WC.seqD fun K349 hK349 => ?_
  -- region 5
  refine WC.region ?_
  -- R5.0 17 := disk.go:179 move
  refine WL.v (by first | exact r_move (v := .pointer _) rfl | exact r_move rfl) rfl rfl rfl ?_
  -- R5.1 18 := disk.go:179 load
  have hm := List.mem_cons_self (a := ((b3, Row 31 3 (nth [.slice s.a s.bs.length s.c, .int .i64 tear, .int .i64 tb])) : HI)) (l := L)
  refine WL.v (v := .agg #[.slice s.a s.bs.length s.c, .int .i64 tear, .int .i64 tb]) (by exact r_loadL (vs := [_, _, _]) ty_agg31 rfl ⟨st.cell (mem_in hm) (by decide), st.cell (mem_in hm) (by decide), st.cell (mem_in hm) (by decide), trivial⟩) rfl rfl rfl ?_
  -- R5.2 19 := disk.go:179 call
  refine WL.call (r_call ty_call59 rfl) rfl rfl rfl (crash_ok h s hs hl tear tb (fun l' w' _ st => hrd l' w' st) st) ?_
  rintro _ w ⟨D3, eD3, h4, st⟩
  rw [← eD3]
  refine WL.fin (hK349 _) (fun _ _ h => h) ?_
  refine WC.seqD fun K350 hK350 => ?_
  -- region 6
  refine WC.region ?_
  -- R6.0 4 := disk.go:180 assign
  refine WL.v (by first | exact r_assign (v := .nilIface) rfl | exact r_assign (v := .iface _ _) rfl | exact r_assign rfl) rfl rfl rfl ?_
  refine WL.fin (hK350 _) (fun _ _ h => h) ?_
  refine WC.retD1 Tryd.muLib ty_call48 Tryd.results40 (fun _ _ h => h) rfl (st) (by decide) rfl ?_
  intro w st
  have st : S0 w0 (DI D3 0 _) w := st_nrm (L' := dC 0 D3) rfl st
  exact ⟨_, rfl, D3, [], eD3, h4, EV.ok, (st_out st).drop⟩

set_option maxHeartbeats 8000000 in
theorem arm_ok (h : Rep D P) (after : Int) (haf : after ≤ 9223372036854775807) (s : SV) (hs : s.ok) (hl : s.bs.length ≤ 65536) (tear tb : Int) (hrd : ∀ l' w', S0 w0 l' w' → s.rd w') (st : S0 w0 (DI D 0 L) w) :
    Calls Tryd.prog 41 #[.pointer (some ⟨D.bD, 0, none⟩), .int .i64 after, .agg #[.slice s.a s.bs.length s.c, .int .i64 tear, .int .i64 tb]] w (Ret fun v w' => ∃ D' l1, D'.bD = D.bD ∧ Rep D' (armP P after s.bs tear tb).1 ∧ EV (armP P after s.bs tear tb).2 v l1 ∧ S0 w0 (l1 ++ DI D' 0 L) w') := by
  by_cases hdn : P.down = true
  · skip
    refine enterD [.pointer (some ⟨D.bD, 0, none⟩), .int .i64 after, .agg #[.slice s.a s.bs.length s.c, .int .i64 tear, .int .i64 tb]] Tryd.func41 rfl Tryd.ntmps41 rfl ?_
    show WC _ _ _ 40 [] [(0, .pointer (some ⟨D.bD, 0, none⟩)), (1, .int .i64 after), (2, .agg #[.slice s.a s.bs.length s.c, .int .i64 tear, .int .i64 tb])] _
    refine WC.seqD fun K351 hK351 => ?_
    -- region 0
    refine WC.region ?_
    -- R0.0 5 := disk.go:185 box
    first | refine WL.box (m := 3) (vs := [.slice _ _ _, .int _ _, .int _ _]) st rfl rfl rfl rfl rfl rfl ?_ | refine WL.box (m := 3) (vs := [_, _, _]) st rfl rfl rfl rfl rfl rfl ?_ | refine WL.box st rfl rfl rfl rfl rfl rfl ?_
    intro b5 w st
    -- R0.1 6 := disk.go:185 assign
    refine WL.v (by first | exact r_assign (v := .nilIface) rfl | exact r_assign (v := .iface _ _) rfl | exact r_assign rfl) rfl rfl rfl ?_
    refine WL.fin (hK351 _) (fun _ _ h => h) ?_
    refine WC.seqD fun K352 hK352 => ?_
    -- region 1
    refine WC.region ?_
    -- R1.0 7 := disk.go:186 move
    refine WL.v (by first | exact r_move (v := .pointer _) rfl | exact r_move rfl) rfl rfl rfl ?_
    -- R1.1 8 := disk.go:186 nilCheck
    refine WL.v (by exact r_nilCheck rfl) rfl rfl rfl ?_
    -- R1.2 9 := disk.go:186 fieldAddr
    refine WL.v (by exact r_field ty_fld97_0 rfl) rfl rfl rfl ?_
    -- R1.3 10 := disk.go:186 call
    refine WL.lock Tryd.muLib ty_call47 (st_in st) rfl (by decide) rfl rfl rfl rfl ?_
    intro w st
    refine WL.fin (hK352 _) (fun _ _ h => h) ?_
    refine WC.seqD fun K353 hK353 => ?_
    -- region 2
    refine WC.region ?_
    -- R2.0 11 := disk.go:187 move
    refine WL.v (by first | exact r_move (v := .pointer _) rfl | exact r_move rfl) rfl rfl rfl ?_
    -- R2.1 12 := disk.go:187 nilCheck
    refine WL.v (by exact r_nilCheck rfl) rfl rfl rfl ?_
    -- R2.2 13 := disk.go:187 fieldAddr
    refine WL.v (by exact r_field ty_fld97_0 rfl) rfl rfl rfl ?_
    -- R2.3 None := disk.go:187 defer
    refine WL.defer rfl rfl rfl ?_
    refine WL.fin (hK353 _) (fun _ _ h => h) ?_
    refine WC.seqD fun K354 hK354 => ?_
    refine WC.seqD fun K355 hK355 => ?_
    -- region 3
    refine WC.region ?_
    -- R3.0 14 := disk.go:188 move
    refine WL.v (by first | exact r_move (v := .pointer _) rfl | exact r_move rfl) rfl rfl rfl ?_
    -- R3.1 15 := disk.go:188 nilCheck
    refine WL.v (by exact r_nilCheck rfl) rfl rfl rfl ?_
    -- R3.2 16 := disk.go:188 fieldAddr
    refine WL.v (by exact r_field ty_fld97_3 rfl) rfl rfl rfl ?_
    -- R3.3 17 := disk.go:188 load
    have st := st_nrm (L' := dC 1 D) rfl st
    refine WL.v (v := .bool true) (by exact r_load1 ty_one4 rfl ((st.c0 (by decide)).trans (show (some (Value.bool D.down) : Option Value) = _ by rw [h.down, hdn]))) rfl rfl rfl ?_
    refine WL.fin (hK355 _) (fun _ _ h => h) ?_
    refine WC.condT rfl rfl ?_
    refine WC.seqD fun K356 hK356 => ?_
    -- region 4
    refine WC.region ?_
    -- R4.0 18 := disk.go:189 call
    refine WL.call (r_call ty_call50 rfl) rfl rfl rfl (refuse_ok _ _ _ st) ?_
    rintro _ w ⟨be, rfl, st⟩
    -- R4.1 6 := disk.go:189 assign
    refine WL.v (by first | exact r_assign (v := .nilIface) rfl | exact r_assign (v := .iface _ _) rfl | exact r_assign rfl) rfl rfl rfl ?_
    refine WL.fin (hK356 _) (fun _ _ h => h) ?_
    refine WC.retD1 Tryd.muLib ty_call48 Tryd.results41 (fun _ _ h => h) rfl (st.front1) (by decide) rfl ?_
    intro w st
    have st := st_nrm (L' := dC 0 D) rfl st
    have e : armP P after s.bs tear tb = (P, 3) := by unfold armP; rw [if_pos hdn]
    rw [e]
    exact ⟨_, rfl, D, _, rfl, h, EV.e3, st_x2 st.front1⟩
  by_cases ha : after < 1
  · skip
    refine enterD [.pointer (some ⟨D.bD, 0, none⟩), .int .i64 after, .agg #[.slice s.a s.bs.length s.c, .int .i64 tear, .int .i64 tb]] Tryd.func41 rfl Tryd.ntmps41 rfl ?_
    show WC _ _ _ 40 [] [(0, .pointer (some ⟨D.bD, 0, none⟩)), (1, .int .i64 after), (2, .agg #[.slice s.a s.bs.length s.c, .int .i64 tear, .int .i64 tb])] _
    refine WC.seqD fun K357 hK357 => ?_
    -- region 0
    refine WC.region ?_
    -- R0.0 5 := disk.go:185 box
    first | refine WL.box (m := 3) (vs := [.slice _ _ _, .int _ _, .int _ _]) st rfl rfl rfl rfl rfl rfl ?_ | refine WL.box (m := 3) (vs := [_, _, _]) st rfl rfl rfl rfl rfl rfl ?_ | refine WL.box st rfl rfl rfl rfl rfl rfl ?_
    intro b5 w st
    -- R0.1 6 := disk.go:185 assign
    refine WL.v (by first | exact r_assign (v := .nilIface) rfl | exact r_assign (v := .iface _ _) rfl | exact r_assign rfl) rfl rfl rfl ?_
    refine WL.fin (hK357 _) (fun _ _ h => h) ?_
    refine WC.seqD fun K358 hK358 => ?_
    -- region 1
    refine WC.region ?_
    -- R1.0 7 := disk.go:186 move
    refine WL.v (by first | exact r_move (v := .pointer _) rfl | exact r_move rfl) rfl rfl rfl ?_
    -- R1.1 8 := disk.go:186 nilCheck
    refine WL.v (by exact r_nilCheck rfl) rfl rfl rfl ?_
    -- R1.2 9 := disk.go:186 fieldAddr
    refine WL.v (by exact r_field ty_fld97_0 rfl) rfl rfl rfl ?_
    -- R1.3 10 := disk.go:186 call
    refine WL.lock Tryd.muLib ty_call47 (st_in st) rfl (by decide) rfl rfl rfl rfl ?_
    intro w st
    refine WL.fin (hK358 _) (fun _ _ h => h) ?_
    refine WC.seqD fun K359 hK359 => ?_
    -- region 2
    refine WC.region ?_
    -- R2.0 11 := disk.go:187 move
    refine WL.v (by first | exact r_move (v := .pointer _) rfl | exact r_move rfl) rfl rfl rfl ?_
    -- R2.1 12 := disk.go:187 nilCheck
    refine WL.v (by exact r_nilCheck rfl) rfl rfl rfl ?_
    -- R2.2 13 := disk.go:187 fieldAddr
    refine WL.v (by exact r_field ty_fld97_0 rfl) rfl rfl rfl ?_
    -- R2.3 None := disk.go:187 defer
    refine WL.defer rfl rfl rfl ?_
    refine WL.fin (hK359 _) (fun _ _ h => h) ?_
    refine WC.seqD fun K360 hK360 => ?_
    refine WC.seqD fun K361 hK361 => ?_
    -- region 3
    refine WC.region ?_
    -- R3.0 14 := disk.go:188 move
    refine WL.v (by first | exact r_move (v := .pointer _) rfl | exact r_move rfl) rfl rfl rfl ?_
    -- R3.1 15 := disk.go:188 nilCheck
    refine WL.v (by exact r_nilCheck rfl) rfl rfl rfl ?_
    -- R3.2 16 := disk.go:188 fieldAddr
    refine WL.v (by exact r_field ty_fld97_3 rfl) rfl rfl rfl ?_
    -- R3.3 17 := disk.go:188 load
    have st := st_nrm (L' := dC 1 D) rfl st
    refine WL.v (v := .bool false) (by exact r_load1 ty_one4 rfl ((st.c0 (by decide)).trans (show (some (Value.bool D.down) : Option Value) = _ by rw [h.down]; simp [hdn]))) rfl rfl rfl ?_
    refine WL.fin (hK361 _) (fun _ _ h => h) ?_
    refine WC.condF rfl rfl ?_
    refine WC.skipF (hK360 _) (fun _ _ h => h) ?_
    refine WC.seqD fun K362 hK362 => ?_
    refine WC.seqD fun K363 hK363 => ?_
    -- region 5
    refine WC.region ?_
    -- R5.0 19 := disk.go:191 move
    refine WL.v (by first | exact r_move (v := .int _ _) rfl | exact r_move rfl) rfl rfl rfl ?_
    -- R5.1 20 := disk.go:191 binOp
    refine WL.v (by first | exact r_lss rfl rfl (decide_eq_true (by omega)) | exact r_lss rfl rfl (decide_eq_false (by omega)) | exact r_lss rfl rfl rfl) rfl rfl rfl ?_
    refine WL.fin (hK363 _) (fun _ _ h => h) ?_
    refine WC.condT rfl rfl ?_
    refine WC.seqD fun K364 hK364 => ?_
    -- region 6
    refine WC.region ?_
    -- R6.0 21 := disk.go:192 call
    refine WL.call (r_call ty_call50 rfl) rfl rfl rfl (refuse_ok _ _ _ st) ?_
    rintro _ w ⟨be, rfl, st⟩
    -- R6.1 6 := disk.go:192 assign
    refine WL.v (by first | exact r_assign (v := .nilIface) rfl | exact r_assign (v := .iface _ _) rfl | exact r_assign rfl) rfl rfl rfl ?_
    refine WL.fin (hK364 _) (fun _ _ h => h) ?_
    refine WC.retD1 Tryd.muLib ty_call48 Tryd.results41 (fun _ _ h => h) rfl (st.front1) (by decide) rfl ?_
    intro w st
    have st := st_nrm (L' := dC 0 D) rfl st
    have e : armP P after s.bs tear tb = (P, 1) := by unfold armP; rw [if_neg hdn, if_pos ha]
    rw [e]
    exact ⟨_, rfl, D, _, rfl, h, EV.e1, st_x2 st.front1⟩
  have e : armP P after s.bs tear tb = ({ P with armed := true, fuse := after, keep := s.bs, tear := tear, tb := tb }, 0) := by unfold armP; rw [if_neg hdn, if_neg ha]
  rw [e]
  refine enterD [.pointer (some ⟨D.bD, 0, none⟩), .int .i64 after, .agg #[.slice s.a s.bs.length s.c, .int .i64 tear, .int .i64 tb]] Tryd.func41 rfl Tryd.ntmps41 rfl ?_
  show WC _ _ _ 40 [] [(0, .pointer (some ⟨D.bD, 0, none⟩)), (1, .int .i64 after), (2, .agg #[.slice s.a s.bs.length s.c, .int .i64 tear, .int .i64 tb])] _
  refine WC.seqD fun K365 hK365 => ?_
  -- region 0
  refine WC.region ?_
  -- R0.0 5 := disk.go:185 box
  first | refine WL.box (m := 3) (vs := [.slice _ _ _, .int _ _, .int _ _]) st rfl rfl rfl rfl rfl rfl ?_ | refine WL.box (m := 3) (vs := [_, _, _]) st rfl rfl rfl rfl rfl rfl ?_ | refine WL.box st rfl rfl rfl rfl rfl rfl ?_
  intro b5 w st
  -- R0.1 6 := disk.go:185 assign
  refine WL.v (by first | exact r_assign (v := .nilIface) rfl | exact r_assign (v := .iface _ _) rfl | exact r_assign rfl) rfl rfl rfl ?_
  refine WL.fin (hK365 _) (fun _ _ h => h) ?_
  refine WC.seqD fun K366 hK366 => ?_
  -- region 1
  refine WC.region ?_
  -- R1.0 7 := disk.go:186 move
  refine WL.v (by first | exact r_move (v := .pointer _) rfl | exact r_move rfl) rfl rfl rfl ?_
  -- R1.1 8 := disk.go:186 nilCheck
  refine WL.v (by exact r_nilCheck rfl) rfl rfl rfl ?_
  -- R1.2 9 := disk.go:186 fieldAddr
  refine WL.v (by exact r_field ty_fld97_0 rfl) rfl rfl rfl ?_
  -- R1.3 10 := disk.go:186 call
  refine WL.lock Tryd.muLib ty_call47 (st_in st) rfl (by decide) rfl rfl rfl rfl ?_
  intro w st
  refine WL.fin (hK366 _) (fun _ _ h => h) ?_
  refine WC.seqD fun K367 hK367 => ?_
  -- region 2
  refine WC.region ?_
  -- R2.0 11 := disk.go:187 move
  refine WL.v (by first | exact r_move (v := .pointer _) rfl | exact r_move rfl) rfl rfl rfl ?_
  -- R2.1 12 := disk.go:187 nilCheck
  refine WL.v (by exact r_nilCheck rfl) rfl rfl rfl ?_
  -- R2.2 13 := disk.go:187 fieldAddr
  refine WL.v (by exact r_field ty_fld97_0 rfl) rfl rfl rfl ?_
  -- R2.3 None := disk.go:187 defer
  refine WL.defer rfl rfl rfl ?_
  refine WL.fin (hK367 _) (fun _ _ h => h) ?_
  refine WC.seqD fun K368 hK368 => ?_
  refine WC.seqD fun K369 hK369 => ?_
  -- region 3
  refine WC.region ?_
  -- R3.0 14 := disk.go:188 move
  refine WL.v (by first | exact r_move (v := .pointer _) rfl | exact r_move rfl) rfl rfl rfl ?_
  -- R3.1 15 := disk.go:188 nilCheck
  refine WL.v (by exact r_nilCheck rfl) rfl rfl rfl ?_
  -- R3.2 16 := disk.go:188 fieldAddr
  refine WL.v (by exact r_field ty_fld97_3 rfl) rfl rfl rfl ?_
  -- R3.3 17 := disk.go:188 load
  have st := st_nrm (L' := dC 1 D) rfl st
  refine WL.v (v := .bool false) (by exact r_load1 ty_one4 rfl ((st.c0 (by decide)).trans (show (some (Value.bool D.down) : Option Value) = _ by rw [h.down]; simp [hdn]))) rfl rfl rfl ?_
  refine WL.fin (hK369 _) (fun _ _ h => h) ?_
  refine WC.condF rfl rfl ?_
  refine WC.skipF (hK368 _) (fun _ _ h => h) ?_
  refine WC.seqD fun K370 hK370 => ?_
  refine WC.seqD fun K371 hK371 => ?_
  -- region 5
  refine WC.region ?_
  -- R5.0 19 := disk.go:191 move
  refine WL.v (by first | exact r_move (v := .int _ _) rfl | exact r_move rfl) rfl rfl rfl ?_
  -- R5.1 20 := disk.go:191 binOp
  refine WL.v (by first | exact r_lss rfl rfl (decide_eq_true (by omega)) | exact r_lss rfl rfl (decide_eq_false (by omega)) | exact r_lss rfl rfl rfl) rfl rfl rfl ?_
  refine WL.fin (hK371 _) (fun _ _ h => h) ?_
  refine WC.condF rfl rfl ?_
  refine WC.skipF (hK370 _) (fun _ _ h => h) ?_
  refine WC.seqD fun K372 hK372 => ?_
  -- region 7
  refine WC.region ?_
  -- R7.0 22 := disk.go:194 move
  refine WL.v (by first | exact r_move (v := .pointer _) rfl | exact r_move rfl) rfl rfl rfl ?_
  -- R7.1 23 := disk.go:194 nilCheck
  refine WL.v (by exact r_nilCheck rfl) rfl rfl rfl ?_
  -- R7.2 24 := disk.go:194 fieldAddr
  refine WL.v (by exact r_field ty_fld97_4 rfl) rfl rfl rfl ?_
  -- R7.3 None := disk.go:194 store
  first | refine WL.store (v := .bool _) st ty_one4 rfl rfl rfl (by first | decide | omega) rfl rfl ?_ | refine WL.store (v := _) st ty_one4 rfl rfl rfl (by first | decide | omega) rfl rfl ?_ | refine WL.store (v := .bool _) st.front1 ty_one4 rfl rfl rfl (by first | decide | omega) rfl rfl ?_ | refine WL.store (v := _) st.front1 ty_one4 rfl rfl rfl (by first | decide | omega) rfl rfl ?_ | refine WL.store (v := .bool _) st.front2 ty_one4 rfl rfl rfl (by first | decide | omega) rfl rfl ?_ | refine WL.store (v := _) st.front2 ty_one4 rfl rfl rfl (by first | decide | omega) rfl rfl ?_ | refine WL.store (v := .bool _) st.front3 ty_one4 rfl rfl rfl (by first | decide | omega) rfl rfl ?_ | refine WL.store (v := _) st.front3 ty_one4 rfl rfl rfl (by first | decide | omega) rfl rfl ?_ | refine WL.store (v := .bool _) st.front4 ty_one4 rfl rfl rfl (by first | decide | omega) rfl rfl ?_ | refine WL.store (v := _) st.front4 ty_one4 rfl rfl rfl (by first | decide | omega) rfl rfl ?_ | refine WL.store (v := .bool _) st.front5 ty_one4 rfl rfl rfl (by first | decide | omega) rfl rfl ?_ | refine WL.store (v := _) st.front5 ty_one4 rfl rfl rfl (by first | decide | omega) rfl rfl ?_ | refine WL.store (v := .bool _) st.front6 ty_one4 rfl rfl rfl (by first | decide | omega) rfl rfl ?_ | refine WL.store (v := _) st.front6 ty_one4 rfl rfl rfl (by first | decide | omega) rfl rfl ?_ | refine WL.store (v := .bool _) st.front7 ty_one4 rfl rfl rfl (by first | decide | omega) rfl rfl ?_ | refine WL.store (v := _) st.front7 ty_one4 rfl rfl rfl (by first | decide | omega) rfl rfl ?_ | refine WL.store (v := .bool _) st.front8 ty_one4 rfl rfl rfl (by first | decide | omega) rfl rfl ?_ | refine WL.store (v := _) st.front8 ty_one4 rfl rfl rfl (by first | decide | omega) rfl rfl ?_
  intro w st
  refine WL.fin (hK372 _) (fun _ _ h => h) ?_
  refine WC.seqD fun K373 hK373 => ?_
  -- region 8
  refine WC.region ?_
  -- R8.0 25 := disk.go:195 move
  refine WL.v (by first | exact r_move (v := .pointer _) rfl | exact r_move rfl) rfl rfl rfl ?_
  -- R8.1 26 := disk.go:195 move
  refine WL.v (by first | exact r_move (v := .int _ _) rfl | exact r_move rfl) rfl rfl rfl ?_
  -- R8.2 27 := disk.go:195 nilCheck
  refine WL.v (by exact r_nilCheck rfl) rfl rfl rfl ?_
  -- R8.3 28 := disk.go:195 fieldAddr
  refine WL.v (by exact r_field ty_fld97_5 rfl) rfl rfl rfl ?_
  -- R8.4 None := disk.go:195 store
  first | refine WL.store (v := .int _ _) st ty_one2 rfl rfl rfl (by first | decide | omega) rfl rfl ?_ | refine WL.store (v := _) st ty_one2 rfl rfl rfl (by first | decide | omega) rfl rfl ?_ | refine WL.store (v := .int _ _) st.front1 ty_one2 rfl rfl rfl (by first | decide | omega) rfl rfl ?_ | refine WL.store (v := _) st.front1 ty_one2 rfl rfl rfl (by first | decide | omega) rfl rfl ?_ | refine WL.store (v := .int _ _) st.front2 ty_one2 rfl rfl rfl (by first | decide | omega) rfl rfl ?_ | refine WL.store (v := _) st.front2 ty_one2 rfl rfl rfl (by first | decide | omega) rfl rfl ?_ | refine WL.store (v := .int _ _) st.front3 ty_one2 rfl rfl rfl (by first | decide | omega) rfl rfl ?_ | refine WL.store (v := _) st.front3 ty_one2 rfl rfl rfl (by first | decide | omega) rfl rfl ?_ | refine WL.store (v := .int _ _) st.front4 ty_one2 rfl rfl rfl (by first | decide | omega) rfl rfl ?_ | refine WL.store (v := _) st.front4 ty_one2 rfl rfl rfl (by first | decide | omega) rfl rfl ?_ | refine WL.store (v := .int _ _) st.front5 ty_one2 rfl rfl rfl (by first | decide | omega) rfl rfl ?_ | refine WL.store (v := _) st.front5 ty_one2 rfl rfl rfl (by first | decide | omega) rfl rfl ?_ | refine WL.store (v := .int _ _) st.front6 ty_one2 rfl rfl rfl (by first | decide | omega) rfl rfl ?_ | refine WL.store (v := _) st.front6 ty_one2 rfl rfl rfl (by first | decide | omega) rfl rfl ?_ | refine WL.store (v := .int _ _) st.front7 ty_one2 rfl rfl rfl (by first | decide | omega) rfl rfl ?_ | refine WL.store (v := _) st.front7 ty_one2 rfl rfl rfl (by first | decide | omega) rfl rfl ?_ | refine WL.store (v := .int _ _) st.front8 ty_one2 rfl rfl rfl (by first | decide | omega) rfl rfl ?_ | refine WL.store (v := _) st.front8 ty_one2 rfl rfl rfl (by first | decide | omega) rfl rfl ?_
  intro w st
  refine WL.fin (hK373 _) (fun _ _ h => h) ?_
  have st : S0 w0 (DI { D with armed := true, fuse := after } 1 _) w := st_nrm (L' := dC 1 { D with armed := true, fuse := after }) rfl st
  refine WC.seqD fun K374 hK374 => ?_
  -- region 9 (draws)
  refine WC.heldS2 [8, 9, 10, 11] [1, 2, 4, 5, 6, 7] [0] [3, 8, 9, 10, 11] st (st) ty_mixed (by kernel_rfl) fun w st Kq Kq2 hKq hKq2 => ?_
  -- R9.1 30 := disk.go:196 fieldAddr
  refine HL.v (fun w st => by exact r_field ty_fld31_0 rfl) rfl rfl rfl ?_
  -- R9.2 31 := disk.go:196 load
  refine HL.v (fun w st => by exact r_load1 ty_one29 rfl (st.cell (mem_in (D := { D with armed := true, fuse := after }) List.mem_cons_self) (by decide))) rfl rfl rfl ?_
  -- R9.4 33 := disk.go:196 fieldAddr
  refine HL.v (fun w st => by exact r_field ty_fld31_1 rfl) rfl rfl rfl ?_
  -- R9.5 34 := disk.go:196 load
  refine HL.v (fun w st => by exact r_load1 ty_one2 rfl (st.cell (mem_in (D := { D with armed := true, fuse := after }) List.mem_cons_self) (by decide))) rfl rfl rfl ?_
  -- R9.6 35 := disk.go:196 fieldAddr
  refine HL.v (fun w st => by exact r_field ty_fld31_2 rfl) rfl rfl rfl ?_
  -- R9.7 36 := disk.go:196 load
  refine HL.v (fun w st => by exact r_load1 ty_one2 rfl (st.cell (mem_in (D := { D with armed := true, fuse := after }) List.mem_cons_self) (by decide))) rfl rfl rfl ?_
  refine HL.pure hKq ?_
  -- R9.0 29 := disk.go:196 move
  refine HL.v (fun w _ => by first | exact r_move (v := .pointer _) rfl | exact r_move rfl) rfl rfl rfl ?_
  refine HL.fin hKq2 ?_
  refine TL.at ?_
  -- R9.3 32 := disk.go:196 call
  refine WL.appW (BR.nil 5) hs (hrd _ _ st) (by rw [List.nil_append]; exact st) ty_mk29 ty_sl29 ty_zero5 rfl rfl rfl (by simp; omega) (by simp; omega) rfl rfl rfl ?_
  intro kv XI' w hbr st
  obtain ⟨ka, kn, kc, rfl⟩ := br_sl hbr
  refine TL.nxt (by first | exact st | exact st.drop | exact st.drop1 | exact st.drop2 | exact st.drop3 | exact st.drop4 | exact st.drop.drop | exact st.drop.drop1 | exact st.drop.drop2 | exact st.drop.drop3 | exact st.drop.drop4 | exact st.drop.drop.drop | exact st.drop.drop.drop.drop | exact st_dropL st | exact st_dropL st.drop | exact st_none st) ?_
  refine TL.at ?_
  -- R9.8 37 := disk.go:196 build
  refine WL.v (by exact r_build (ps := [(0, .slice _ _ _), (1, .int _ _), (2, .int _ _)]) (vs := [_, _, _]) ty_pl31 ty_zero31 rfl (fill_step (pv := [_]) (cs' := [_, _, _]) rfl rfl rfl rfl (fill_step (pv := [_]) (cs' := [_, _, _]) rfl rfl rfl rfl (fill_step (pv := [_]) (cs' := [_, _, _]) rfl rfl rfl rfl (fill_nil))))) rfl rfl rfl ?_
  refine TL.nxt' rfl ?_
  refine TL.at ?_
  -- R9.9 38 := disk.go:196 nilCheck
  refine WL.v (by exact r_nilCheck rfl) rfl rfl rfl ?_
  refine TL.nxt' rfl ?_
  refine TL.at ?_
  -- R9.10 39 := disk.go:196 fieldAddr
  refine WL.v (by exact r_field ty_fld97_6 rfl) rfl rfl rfl ?_
  refine TL.nxt' rfl ?_
  refine TL.at ?_
  -- R9.11 None := disk.go:196 store
  have st := st_mid st
  refine WL.storeL (vs := [_, _, _]) st ty_agg31 rfl rfl rfl rfl (by decide) rfl rfl ?_
  intro w st
  refine TL.nxt' rfl ?_
  refine TL.wl ?_
  refine WL.fin (hK374 _) (fun _ _ h => h) ?_
  refine WC.seqD fun K375 hK375 => ?_
  -- region 10
  refine WC.region ?_
  -- R10.0 6 := disk.go:201 assign
  refine WL.v (by first | exact r_assign (v := .nilIface) rfl | exact r_assign (v := .iface _ _) rfl | exact r_assign rfl) rfl rfl rfl ?_
  refine WL.fin (hK375 _) (fun _ _ h => h) ?_
  refine WC.retD1 Tryd.muLib ty_call48 Tryd.results41 (fun _ _ h => h) rfl (st) (by decide) rfl ?_
  intro w st
  have st := arm_fix (st_nrm (L' := dC 0 { D with armed := true, fuse := after, kv := .slice ka kn kc, tear := tear, tb := tb }) rfl st)
  have st : S0 w0 (DI { D with armed := true, fuse := after, kv := .slice ka kn kc, tear := tear, tb := tb, XK := XI' } 0 _) w := st
  exact ⟨_, rfl, { D with armed := true, fuse := after, kv := .slice ka kn kc, tear := tear, tb := tb, XK := XI' }, [], rfl, { h with armed := rfl, fuse := rfl, kv := hbr, kl := hl, tear := rfl, tb := rfl, fz := fun _ => by show 0 ≤ after + (P.wr : Int) ∧ after ≤ _; omega }, EV.ok, (st_out st).drop⟩
end Go.Proofs.Qxb6500837aDoor

