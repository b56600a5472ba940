import Derived.Test.Qxb6500841aDoorX17
set_option linter.unusedVariables false
set_option linter.unusedSimpArgs false
set_option maxRecDepth 20000
namespace Go.Proofs.Qxb6500841aDoor
open Go.RowKit Go.E1 Go.Wire
variable {w0 : World} {L : List HI} {w : World} {ET : Nat → TypeId} {EU : Nat → Value}

abbrev headB : List Int := [104, 101, 97, 100]
theorem head_bo (b : Nat) : BO 5 (.slice (some ⟨b, 0, none⟩) 4 4) headB [(b, FRow 5 4 (nth [.int .u8 104, .int .u8 101, .int .u8 97, .int .u8 100]))] :=
  ⟨nth [.int .u8 104, .int .u8 101, .int .u8 97, .int .u8 100], .inr ⟨by decide, by decide, b, rfl, rfl⟩, fun i hi => by
    match i, hi with
    | 0, _ => rfl
    | 1, _ => rfl
    | 2, _ => rfl
    | 3, _ => rfl, fun x hx => by simp at hx; omega⟩

set_option maxHeartbeats 8000000 in
theorem lookS_ok (hE : ErrOk w0 ET EU) (v0 : Value) {v : Value} {bs : List Int} {XI : List HI} (kd : Int) (fo : FD) (d : SV) (off val : Int) (ho : BO 5 v bs XI) (hb : bs.length ≤ 100000000) (st : S0 w0 (XI ++ L) w) :
    Calls Tryd.prog 9 #[v0, v, .agg (opC kd fo d.v off val).toArray] w (Ret fun r w' => r = .bool true ∧ S0 w0 (XI ++ L) w') := by
  obtain ⟨s, rfl, hsb, hsok, hsrd⟩ := ho.sv
  have hsr : ∀ l w', S0 w0 (l ++ (XI ++ L)) w' → s.rd w' := fun l w' q => hsrd q (fun x hx => by simp [hx])
  refine enter [v0, s.v, .agg (opC kd fo d.v off val).toArray] Tryd.func9 rfl Tryd.ntmps9 rfl ?_
  show WC _ _ _ 45 [] [(0, v0), (1, s.v), (2, .agg (opC kd fo d.v off val).toArray)] _
  refine WC.seq fun K964 hK964 => ?_
  -- region 0
  refine WC.region ?_
  -- R0.0 5 := wirelaw.go:225 box
  refine WL.box (m := 68) (vs := opC kd fo d.v off val) st rfl rfl rfl rfl rfl rfl ?_
  intro b5 w st
  -- R0.1 6 := wirelaw.go:225 assign
  refine WL.v (by first | exact r_assign (v := .bool _) rfl | exact r_assign rfl) rfl rfl rfl ?_
  refine WL.fin hK964 (fun _ _ h => h) ?_
  refine WC.seq fun K965 hK965 => ?_
  -- region 1
  refine WC.region ?_
  -- R1.0 11 := wirelaw.go:226 move
  refine WL.v (by first | exact r_move (v := .slice _ _ _) rfl | exact r_move rfl) rfl rfl rfl ?_
  -- R1.1 12 := wirelaw.go:226 call
  refine WL.call (r_call ty_call10 rfl) rfl rfl rfl (parse_ok hE s hsok (by rw [hsb]; omega) (fun its w' q => hsr (its ++ [_]) w' (by rw [List.append_assoc]; exact q)) st) ?_
  rintro pv w ⟨⟨k, e, x, t, y, z, s1, s2, s3, s4, s5, er, rfl, hpo⟩, st⟩
  -- R1.2 10 := wirelaw.go:226 move
  refine WL.v (by first | exact r_move (v := .tuple _) rfl | exact r_move rfl) rfl rfl rfl ?_
  -- R1.3 13 := wirelaw.go:226 extract
  refine WL.v (by first | exact r_extract (v := .agg _) rfl rfl | exact r_extract rfl rfl) rfl rfl rfl ?_
  -- R1.4 14 := wirelaw.go:226 extract
  refine WL.v (by first | exact r_extract (v := .nilIface) rfl rfl | exact r_extract (v := .iface _ _) rfl rfl | exact r_extract rfl rfl) rfl rfl rfl ?_
  -- R1.5 7 := wirelaw.go:226 alloc
  refine WL.alloc (m := 64) st ty_zero43 rfl rfl rfl ?_
  intro b7 w st
  -- R1.6 None := wirelaw.go:226 store
  first | refine WL.storeW (vs := [_, _, _, _, _, _, _, _, _, _, _, _, _, _, _, _, _, _, _, _, _, _, _, _, _, _, _, _, _, _, _, _, _, _, _, _, _, _, _, _, _, _, _, _, _, _, _, _, _, _, _, _, _, _, _, _, _, _, _, _, _, _, _, _]) st ty_agg43 rfl rfl rfl rfl rfl rfl ?_ | refine WL.storeL (vs := [_, _, _, _, _, _, _, _, _, _, _, _, _, _, _, _, _, _, _, _, _, _, _, _, _, _, _, _, _, _, _, _, _, _, _, _, _, _, _, _, _, _, _, _, _, _, _, _, _, _, _, _, _, _, _, _, _, _, _, _, _, _, _, _]) st ty_agg43 rfl rfl rfl rfl (by first | decide | omega) rfl rfl ?_ | refine WL.storeW (vs := [_, _, _, _, _, _, _, _, _, _, _, _, _, _, _, _, _, _, _, _, _, _, _, _, _, _, _, _, _, _, _, _, _, _, _, _, _, _, _, _, _, _, _, _, _, _, _, _, _, _, _, _, _, _, _, _, _, _, _, _, _, _, _, _]) st.front1 ty_agg43 rfl rfl rfl rfl rfl rfl ?_ | refine WL.storeL (vs := [_, _, _, _, _, _, _, _, _, _, _, _, _, _, _, _, _, _, _, _, _, _, _, _, _, _, _, _, _, _, _, _, _, _, _, _, _, _, _, _, _, _, _, _, _, _, _, _, _, _, _, _, _, _, _, _, _, _, _, _, _, _, _, _]) st.front1 ty_agg43 rfl rfl rfl rfl (by first | decide | omega) rfl rfl ?_ | refine WL.storeW (vs := [_, _, _, _, _, _, _, _, _, _, _, _, _, _, _, _, _, _, _, _, _, _, _, _, _, _, _, _, _, _, _, _, _, _, _, _, _, _, _, _, _, _, _, _, _, _, _, _, _, _, _, _, _, _, _, _, _, _, _, _, _, _, _, _]) st.front2 ty_agg43 rfl rfl rfl rfl rfl rfl ?_ | refine WL.storeL (vs := [_, _, _, _, _, _, _, _, _, _, _, _, _, _, _, _, _, _, _, _, _, _, _, _, _, _, _, _, _, _, _, _, _, _, _, _, _, _, _, _, _, _, _, _, _, _, _, _, _, _, _, _, _, _, _, _, _, _, _, _, _, _, _, _]) st.front2 ty_agg43 rfl rfl rfl rfl (by first | decide | omega) rfl rfl ?_ | refine WL.storeW (vs := [_, _, _, _, _, _, _, _, _, _, _, _, _, _, _, _, _, _, _, _, _, _, _, _, _, _, _, _, _, _, _, _, _, _, _, _, _, _, _, _, _, _, _, _, _, _, _, _, _, _, _, _, _, _, _, _, _, _, _, _, _, _, _, _]) st.front3 ty_agg43 rfl rfl rfl rfl rfl rfl ?_ | refine WL.storeL (vs := [_, _, _, _, _, _, _, _, _, _, _, _, _, _, _, _, _, _, _, _, _, _, _, _, _, _, _, _, _, _, _, _, _, _, _, _, _, _, _, _, _, _, _, _, _, _, _, _, _, _, _, _, _, _, _, _, _, _, _, _, _, _, _, _]) st.front3 ty_agg43 rfl rfl rfl rfl (by first | decide | omega) rfl rfl ?_ | refine WL.storeW (vs := [_, _, _, _, _, _, _, _, _, _, _, _, _, _, _, _, _, _, _, _, _, _, _, _, _, _, _, _, _, _, _, _, _, _, _, _, _, _, _, _, _, _, _, _, _, _, _, _, _, _, _, _, _, _, _, _, _, _, _, _, _, _, _, _]) st.front4 ty_agg43 rfl rfl rfl rfl rfl rfl ?_ | refine WL.storeL (vs := [_, _, _, _, _, _, _, _, _, _, _, _, _, _, _, _, _, _, _, _, _, _, _, _, _, _, _, _, _, _, _, _, _, _, _, _, _, _, _, _, _, _, _, _, _, _, _, _, _, _, _, _, _, _, _, _, _, _, _, _, _, _, _, _]) st.front4 ty_agg43 rfl rfl rfl rfl (by first | decide | omega) rfl rfl ?_ | refine WL.storeW (vs := [_, _, _, _, _, _, _, _, _, _, _, _, _, _, _, _, _, _, _, _, _, _, _, _, _, _, _, _, _, _, _, _, _, _, _, _, _, _, _, _, _, _, _, _, _, _, _, _, _, _, _, _, _, _, _, _, _, _, _, _, _, _, _, _]) st.front5 ty_agg43 rfl rfl rfl rfl rfl rfl ?_ | refine WL.storeL (vs := [_, _, _, _, _, _, _, _, _, _, _, _, _, _, _, _, _, _, _, _, _, _, _, _, _, _, _, _, _, _, _, _, _, _, _, _, _, _, _, _, _, _, _, _, _, _, _, _, _, _, _, _, _, _, _, _, _, _, _, _, _, _, _, _]) st.front5 ty_agg43 rfl rfl rfl rfl (by first | decide | omega) rfl rfl ?_ | refine WL.storeW (vs := [_, _, _, _, _, _, _, _, _, _, _, _, _, _, _, _, _, _, _, _, _, _, _, _, _, _, _, _, _, _, _, _, _, _, _, _, _, _, _, _, _, _, _, _, _, _, _, _, _, _, _, _, _, _, _, _, _, _, _, _, _, _, _, _]) st.front6 ty_agg43 rfl rfl rfl rfl rfl rfl ?_ | refine WL.storeL (vs := [_, _, _, _, _, _, _, _, _, _, _, _, _, _, _, _, _, _, _, _, _, _, _, _, _, _, _, _, _, _, _, _, _, _, _, _, _, _, _, _, _, _, _, _, _, _, _, _, _, _, _, _, _, _, _, _, _, _, _, _, _, _, _, _]) st.front6 ty_agg43 rfl rfl rfl rfl (by first | decide | omega) rfl rfl ?_ | refine WL.storeW (vs := [_, _, _, _, _, _, _, _, _, _, _, _, _, _, _, _, _, _, _, _, _, _, _, _, _, _, _, _, _, _, _, _, _, _, _, _, _, _, _, _, _, _, _, _, _, _, _, _, _, _, _, _, _, _, _, _, _, _, _, _, _, _, _, _]) st.front7 ty_agg43 rfl rfl rfl rfl rfl rfl ?_ | refine WL.storeL (vs := [_, _, _, _, _, _, _, _, _, _, _, _, _, _, _, _, _, _, _, _, _, _, _, _, _, _, _, _, _, _, _, _, _, _, _, _, _, _, _, _, _, _, _, _, _, _, _, _, _, _, _, _, _, _, _, _, _, _, _, _, _, _, _, _]) st.front7 ty_agg43 rfl rfl rfl rfl (by first | decide | omega) rfl rfl ?_ | refine WL.storeW (vs := [_, _, _, _, _, _, _, _, _, _, _, _, _, _, _, _, _, _, _, _, _, _, _, _, _, _, _, _, _, _, _, _, _, _, _, _, _, _, _, _, _, _, _, _, _, _, _, _, _, _, _, _, _, _, _, _, _, _, _, _, _, _, _, _]) st.front8 ty_agg43 rfl rfl rfl rfl rfl rfl ?_ | refine WL.storeL (vs := [_, _, _, _, _, _, _, _, _, _, _, _, _, _, _, _, _, _, _, _, _, _, _, _, _, _, _, _, _, _, _, _, _, _, _, _, _, _, _, _, _, _, _, _, _, _, _, _, _, _, _, _, _, _, _, _, _, _, _, _, _, _, _, _]) st.front8 ty_agg43 rfl rfl rfl rfl (by first | decide | omega) rfl rfl ?_
  intro w st
  -- R1.7 8 := wirelaw.go:226 assign
  refine WL.v (by first | exact r_assign (v := .nilIface) rfl | exact r_assign (v := .iface _ _) rfl | exact r_assign rfl) rfl rfl rfl ?_
  refine WL.fin hK965 (fun _ _ h => h) ?_
  rcases hpo with ⟨T, u, rfl⟩ | ⟨rfl, hps, hpd⟩
  · skip
    refine WC.seq fun K966 hK966 => ?_
    refine WC.seq fun K967 hK967 => ?_
    -- region 2
    refine WC.region ?_
    -- R2.0 15 := wirelaw.go:227 move
    refine WL.v (by first | exact r_move (v := .nilIface) rfl | exact r_move (v := .iface _ _) rfl | exact r_move rfl) rfl rfl rfl ?_
    -- R2.1 16 := wirelaw.go:227 binOp
    refine WL.v (by first | exact r_nil_neq ty_ifc47 rfl | exact r_some_neq ty_ifc47 rfl) rfl rfl rfl ?_
    refine WL.fin hK967 (fun _ _ h => h) ?_
    refine WC.condT rfl rfl ?_
    refine WC.seq fun K968 hK968 => ?_
    -- region 3
    refine WC.region ?_
    -- R3.0 6 := wirelaw.go:228 assign
    refine WL.v (by first | exact r_assign (v := .bool _) rfl | exact r_assign rfl) rfl rfl rfl ?_
    refine WL.fin hK968 (fun _ _ h => h) ?_
    refine WC.ret1 Tryd.results9 (fun _ _ h => h) rfl ?_
    exact ⟨_, rfl, rfl, st.drop.drop⟩
  obtain ⟨hfok, hchk, hfb⟩ := parsed_good hsok.byt (by rw [hsb]; omega) ⟨k, e, x, t, y, z, s1, s2, s3, s4, s5⟩ hps.p1.ok hps.p2.ok hps.p3.ok hps.p4.ok hps.p5.ok hpd
  have st := st_nrm (L' := (FD.mk k e x t y z s1 s2 s3 s4 s5).cs) rfl st
  obtain ⟨f, hf⟩ : ∃ f, f = FD.mk k e x t y z s1 s2 s3 s4 s5 := ⟨_, rfl⟩
  have hfrd : ∀ l w', S0 w0 (l ++ (XI ++ L)) w' → f.rd w' := fun l w' q => by
    rw [hf]
    have := hsr l w' q
    exact ⟨hps.p1.rd w' this, hps.p2.rd w' this, hps.p3.rd w' this, hps.p4.rd w' this, hps.p5.rd w' this⟩
  rw [← hf] at st hfok hchk hfb
  refine WC.seq fun K969 hK969 => ?_
  refine WC.seq fun K970 hK970 => ?_
  -- region 2
  refine WC.region ?_
  -- R2.0 15 := wirelaw.go:227 move
  refine WL.v (by first | exact r_move (v := .nilIface) rfl | exact r_move (v := .iface _ _) rfl | exact r_move rfl) rfl rfl rfl ?_
  -- R2.1 16 := wirelaw.go:227 binOp
  refine WL.v (by first | exact r_nil_neq ty_ifc47 rfl | exact r_some_neq ty_ifc47 rfl) rfl rfl rfl ?_
  refine WL.fin hK970 (fun _ _ h => h) ?_
  refine WC.condF rfl rfl ?_
  refine WC.skipF hK969 (fun _ _ h => h) ?_
  refine WC.seq fun K971 hK971 => ?_
  -- region 4
  refine WC.region ?_
  -- R4.0 18 := wirelaw.go:230 call
  refine WL.call (r_call ty_call11 rfl) rfl rfl rfl (ser_ok hE b7 0 f hfok (fun its w' q => ⟨cf_row (t := 43) q (by simp), hfrd (its ++ [_, _]) w' (by rw [List.append_assoc]; exact q)⟩) st) ?_
  rintro _ w ⟨vn, er, XS, rfl, st, hser⟩
  rcases hser with ⟨hno, _⟩ | ⟨_, rfl, hbn⟩
  · exact absurd hchk hno
  obtain ⟨sn, rfl, hsn, hsnok, hsnrd⟩ := hbn.sv
  -- R4.1 17 := wirelaw.go:230 move
  refine WL.v (by first | exact r_move (v := .tuple _) rfl | exact r_move rfl) rfl rfl rfl ?_
  -- R4.2 19 := wirelaw.go:230 extract
  refine WL.v (by first | exact r_extract (v := .slice _ _ _) rfl rfl | exact r_extract rfl rfl) rfl rfl rfl ?_
  -- R4.3 20 := wirelaw.go:230 extract
  refine WL.v (by first | exact r_extract (v := .nilIface) rfl rfl | exact r_extract (v := .iface _ _) rfl rfl | exact r_extract rfl rfl) rfl rfl rfl ?_
  -- R4.4 9 := wirelaw.go:230 assign
  refine WL.v (by first | exact r_assign (v := .slice _ _ _) rfl | exact r_assign rfl) rfl rfl rfl ?_
  -- R4.5 8 := wirelaw.go:230 assign
  refine WL.v (by first | exact r_assign (v := .nilIface) rfl | exact r_assign (v := .iface _ _) rfl | exact r_assign rfl) rfl rfl rfl ?_
  refine WL.fin hK971 (fun _ _ h => h) ?_
  refine WC.seq fun K972 hK972 => ?_
  refine WC.seq fun K973 hK973 => ?_
  -- region 5
  refine WC.region ?_
  -- R5.0 21 := wirelaw.go:231 move
  refine WL.v (by first | exact r_move (v := .nilIface) rfl | exact r_move (v := .iface _ _) rfl | exact r_move rfl) rfl rfl rfl ?_
  -- R5.1 22 := wirelaw.go:231 binOp
  refine WL.v (by first | exact r_nil_neq ty_ifc47 rfl | exact r_some_neq ty_ifc47 rfl) rfl rfl rfl ?_
  -- R5.2 23 := wirelaw.go:231 move
  refine WL.v (by first | exact r_move (v := .bool _) rfl | exact r_move rfl) rfl rfl rfl ?_
  -- R5.3 24 := wirelaw.go:231 move
  refine WL.v (by first | exact r_move (v := .slice _ _ _) rfl | exact r_move rfl) rfl rfl rfl ?_
  -- R5.4 25 := wirelaw.go:231 move
  refine WL.v (by first | exact r_move (v := .slice _ _ _) rfl | exact r_move rfl) rfl rfl rfl ?_
  -- R5.5 26 := wirelaw.go:231 call
  refine WL.call (r_call ty_call12 rfl) rfl rfl rfl (equal_ok sn s hsnok hsok (fun w' q => hsnrd q (fun x hx => by simp [hx])) (fun w' q => hsr (XS ++ [_, _]) w' (by rw [List.append_assoc]; exact q)) st) ?_
  rintro _ w ⟨⟨r, rfl, hr⟩, st⟩
  obtain rfl := hr (by rw [hsn, hfb])
  -- R5.6 27 := wirelaw.go:231 unOp
  refine WL.v (by first | exact r_notT rfl | exact r_notF rfl | exact r_not rfl) rfl rfl rfl ?_
  -- R5.7 28 := wirelaw.go:231 pick
  refine WL.v (by first | exact r_pickT (v := .bool _) rfl rfl | exact r_pickF (v := .bool _) rfl rfl) rfl rfl rfl ?_
  refine WL.fin hK973 (fun _ _ h => h) ?_
  refine WC.condF rfl rfl ?_
  refine WC.skipF hK972 (fun _ _ h => h) ?_
  refine WC.seq fun K974 hK974 => ?_
  -- region 7
  refine WC.region ?_
  -- R7.0 30 := wirelaw.go:234 buildSlice
  first | refine WL.mkslice (m := 4) (vs := [.int _ _, .int _ _, .int _ _, .int _ _]) st ty_sl25 ty_zero5 rfl rfl rfl rfl rfl rfl ?_ | refine WL.mkslice (m := 4) (vs := [_, _, _, _]) st ty_sl25 ty_zero5 rfl rfl rfl rfl rfl rfl ?_ | refine WL.mkslice st ty_sl25 ty_zero5 rfl rfl rfl rfl rfl rfl ?_
  intro b30 w st
  -- R7.1 31 := wirelaw.go:234 convert
  refine WL.strish st ty_usl25 ty_uint5 rfl rfl rfl rfl ?_
  intro w st
  -- R7.2 32 := wirelaw.go:234 call
  refine WL.call (r_call ty_call13 rfl) rfl rfl rfl (apFrame_ok hE b7 0 f hfok hchk (head_bo b30) (by decide) (fun its w' q => ⟨cf_row (t := 43) q (by simp), hfrd (its ++ (XS ++ [_, _])) w' (by rw [List.append_assoc, List.append_assoc]; exact q)⟩) st) ?_
  rintro _ w ⟨vm, XM, rfl, hbm, st⟩
  obtain ⟨sm, rfl, hsm, hsmok, hsmrd⟩ := hbm.sv
  -- R7.3 29 := wirelaw.go:234 move
  refine WL.v (by first | exact r_move (v := .tuple _) rfl | exact r_move rfl) rfl rfl rfl ?_
  -- R7.4 33 := wirelaw.go:234 extract
  refine WL.v (by first | exact r_extract (v := .slice _ _ _) rfl rfl | exact r_extract rfl rfl) rfl rfl rfl ?_
  -- R7.5 34 := wirelaw.go:234 extract
  refine WL.v (by first | exact r_extract (v := .nilIface) rfl rfl | exact r_extract (v := .iface _ _) rfl rfl | exact r_extract rfl rfl) rfl rfl rfl ?_
  -- R7.6 9 := wirelaw.go:234 assign
  refine WL.v (by first | exact r_assign (v := .slice _ _ _) rfl | exact r_assign rfl) rfl rfl rfl ?_
  -- R7.7 8 := wirelaw.go:234 assign
  refine WL.v (by first | exact r_assign (v := .nilIface) rfl | exact r_assign (v := .iface _ _) rfl | exact r_assign rfl) rfl rfl rfl ?_
  refine WL.fin hK974 (fun _ _ h => h) ?_
  refine WC.seq fun K975 hK975 => ?_
  -- region 8
  refine WC.region ?_
  -- R8.0 35 := wirelaw.go:235 move
  refine WL.v (by first | exact r_move (v := .nilIface) rfl | exact r_move (v := .iface _ _) rfl | exact r_move rfl) rfl rfl rfl ?_
  -- R8.1 36 := wirelaw.go:235 binOp
  refine WL.v (by first | exact r_nil_eql ty_ifc47 rfl | exact r_some_eql ty_ifc47 rfl) rfl rfl rfl ?_
  -- R8.2 37 := wirelaw.go:235 move
  refine WL.v (by first | exact r_move (v := .bool _) rfl | exact r_move rfl) rfl rfl rfl ?_
  -- R8.3 38 := wirelaw.go:235 move
  refine WL.v (by first | exact r_move (v := .slice _ _ _) rfl | exact r_move rfl) rfl rfl rfl ?_
  -- R8.4 39 := wirelaw.go:235 buildSlice
  first | refine WL.mkslice (m := 4) (vs := [.int _ _, .int _ _, .int _ _, .int _ _]) st ty_sl25 ty_zero5 rfl rfl rfl rfl rfl rfl ?_ | refine WL.mkslice (m := 4) (vs := [_, _, _, _]) st ty_sl25 ty_zero5 rfl rfl rfl rfl rfl rfl ?_ | refine WL.mkslice st ty_sl25 ty_zero5 rfl rfl rfl rfl rfl rfl ?_
  intro b39 w st
  -- R8.5 40 := wirelaw.go:235 convert
  refine WL.strish st ty_usl25 ty_uint5 rfl rfl rfl rfl ?_
  intro w st
  -- R8.6 41 := wirelaw.go:235 move
  refine WL.v (by first | exact r_move (v := .slice _ _ _) rfl | exact r_move rfl) rfl rfl rfl ?_
  -- R8.7 42 := wirelaw.go:235 call
  refine WL.appB (s := s) (head_bo b39) hsok (hsr ([_] ++ (XM ++ (XS ++ [_, _]))) w (by rw [List.append_assoc, List.append_assoc, List.append_assoc]; exact st)) st ty_mk25 ty_sl25 ty_zero5 rfl rfl rfl (by rw [hsb]; simp only [headB, List.length_cons, List.length_nil]; omega) (by rw [hsb]; simp only [headB, List.length_cons, List.length_nil]; omega) rfl rfl rfl ?_
  intro vq XQ w hbq st
  obtain ⟨sq, rfl, hsq, hsqok, hsqrd⟩ := hbq.sv
  -- R8.8 43 := wirelaw.go:235 call
  refine WL.call (r_call ty_call12 rfl) rfl rfl rfl (equal_ok sm sq hsmok hsqok (fun w' q => hsmrd q (fun x hx => by simp [hx])) (fun w' q => hsqrd q (fun x hx => by simp [hx])) st) ?_
  rintro _ w ⟨⟨r2, rfl, hr2⟩, st⟩
  obtain rfl := hr2 (by rw [hsm, hsq, hfb])
  -- R8.9 44 := wirelaw.go:235 pick
  refine WL.v (by first | exact r_pickT (v := .bool _) rfl rfl | exact r_pickF (v := .bool _) rfl rfl) rfl rfl rfl ?_
  -- R8.10 6 := wirelaw.go:235 assign
  refine WL.v (by first | exact r_assign (v := .bool _) rfl | exact r_assign rfl) rfl rfl rfl ?_
  refine WL.fin hK975 (fun _ _ h => h) ?_
  refine WC.ret1 Tryd.results9 (fun _ _ h => h) rfl ?_
  have st := (st_dropL (st_dropL (st_dropL (P := XQ) st) : S0 w0 (XS ++ _) w)).drop.drop
  exact ⟨_, rfl, rfl, st⟩
end Go.Proofs.Qxb6500841aDoor

