import Derived.Test.Qxb6500837aDoorD35
set_option linter.unusedVariables false
set_option linter.unusedSimpArgs false
set_option maxRecDepth 20000
namespace Go.Proofs.Qxb6500837aDoor
open Go.RowKit Go.E1 Go.Disk
variable {w0 : World} {L L' l I J K K' : List HI} {w : World} {D : DK} {m : Int} {P : PD} {q : Obj → Prop} {NS : Int → Option Value} {f : Nat → Value}
variable {bq bm : Nat} {wv kv : Value} {t tb : Int} {pc : Nat → Nat → Int} {pend : List (Nat × (Nat → Int))}

/-- The reference disk's own memory, besides its row. -/
structure MZ where
  bm : Nat
  NS : Int → Option Value
  wv : Value
  XW : List HI
  f : Nat → Value
  K : List HI
  sv : SV
  t : Int
  tb : Int
structure MI (w0 : World) (P : PD) (z : MZ) : Prop where
  bk : Bk w0 z.K P.sec P.pc P.pend z.NS z.f
  own : OwnP 63 2 z.wv P.pend.length z.XW z.f
  svo : z.sv.ok
  svl : z.sv.bs.length ≤ 65536
  svr : z.sv.rd w0
  arm : P.armed = true → z.sv.bs = P.keep ∧ z.t = P.tear ∧ z.tb = P.tb
abbrev mds (bq : Nat) (P : PD) (z : MZ) (l : List HI) : List HI := mdI bq z.bm P z.wv (.slice z.sv.a z.sv.bs.length z.sv.c) z.t z.tb :: mpI z.bm z.NS :: (z.XW ++ (z.K ++ l))
def datB (P : PD) (o : OP) : List Int := match rdP P o with
  | none => []
  | some (n, f) => bytesOf n f
def MPost (w0 : World) (bq : Nat) (l : List HI) (P : PD) (o : OP) (v : Value) (w' : World) : Prop := ∃ z' dv, MI w0 (stepP P o).1 z' ∧ v = .agg #[.int .i64 (stepP P o).2, dv] ∧ Sees w0 z'.K dv (datB P o) ∧ S0 w0 (mds bq (stepP P o).1 z' l) w'
theorem MPost.none {P' : PD} {c : Int} {o : OP} {z' : MZ} {v : Value} (e : stepP P o = (P', c)) (hk : o.kind ≠ 2 ∨ c ≠ 0) (hk8 : o.kind ≠ 8 ∨ c ≠ 0) (h : MI w0 P' z') (hv : v = .agg #[.int .i64 c, .slice none 0 0]) (st : S0 w0 (mds bq P' z' l) w) : MPost w0 bq l P o v w := by
  have e2 : rdP P o = .none := by
    unfold rdP
    rw [e]
    rw [if_neg (fun h => by have h1 := h.1; have h2 : c = 0 := h.2; omega), if_neg (fun h => by have h1 := h.1; have h2 : c = 0 := h.2; omega)]
  refine ⟨z', .slice .none 0 0, by rw [e]; exact h, by rw [e]; exact hv, ?_, by rw [e]; exact st⟩
  unfold datB
  rw [e2]
  exact Sees.nil.mono (List.nil_subset _)
theorem MI.plain {Q : PD} {z : MZ} (h : MI w0 P z) (hs : SameB Q P) (ha : Q.armed = true → P.armed = true ∧ Q.keep = P.keep ∧ Q.tear = P.tear ∧ Q.tb = P.tb) : MI w0 Q z :=
  ⟨h.bk.same hs, by rw [hs.pend]; exact h.own, h.svo, h.svl, h.svr, fun hq => by obtain ⟨a, b, c, d⟩ := ha hq; rw [b, c, d]; exact h.arm a⟩
theorem MI.fresh {z : MZ} {sec lim bm' : Nat} (h : MI w0 P z) : MI w0 (newP sec lim) { z with bm := bm', NS := fun _ => Option.none, wv := .slice .none 0 0, XW := [] } :=
  ⟨Bk.zero, OwnP.nil _ _ _, h.svo, h.svl, h.svr, (fun h => by cases h)⟩
theorem st_cr {a b x y : HI} {KN XW K : List HI} (st : S0 w0 (a :: b :: x :: y :: (KN ++ (XW ++ (K ++ l)))) w) : S0 w0 (x :: y :: ((KN ++ K) ++ l)) w :=
  st.drop.drop.sublist (.cons_cons _ (.cons_cons _ (by rw [List.append_assoc]; exact (List.sublist_append_right _ _).append_left _)))
theorem st_co {a b x y : HI} {KN : List HI} (st : S0 w0 (x :: y :: (KN ++ (a :: b :: l))) w) : S0 w0 (a :: b :: x :: y :: (KN ++ l)) w :=
  st.perm (List.perm_append_comm_assoc ([x, y] ++ KN) [a, b] l)
theorem st_at1 {a x : HI} (st : S0 w0 (a :: x :: l) w) : S0 w0 [x] w := st.drop.sublist (.cons_cons _ (List.nil_sublist _))
theorem st_at2 {a b x : HI} (st : S0 w0 (a :: b :: x :: l) w) : S0 w0 [x] w := st.drop.drop.sublist (.cons_cons _ (List.nil_sublist _))
/-- The state of Step: result and argument, and behind them the model. -/
theorem st_ms {a b : HI} {z : MZ} (st : S0 w0 (a :: b :: mds bq P z l) w) : S0 w0 (mds bq P z l) w := st.drop.drop

set_option maxHeartbeats 4000000 in
theorem stepM_other {o : OP} {z : MZ} (hp : PWf P) (hfz : P.armed = true → -1000000001000 ≤ P.fuse ∧ P.fuse ≤ 9223372036854775807) (h : MI w0 P z) (ho : o.ok w0) (hk : o.kind ≠ 0 ∧ o.kind ≠ 1 ∧ o.kind ≠ 2 ∧ o.kind ≠ 3 ∧ o.kind ≠ 4 ∧ o.kind ≠ 5 ∧ o.kind ≠ 6 ∧ o.kind ≠ 7 ∧ o.kind ≠ 8) (st : S0 w0 (mds bq P z l) w) :
    Calls Tryd.prog 15 #[.pointer (some ⟨bq, 0, none⟩), o.v] w (Ret (MPost w0 bq l P o)) := by
  unfold OP.v
  obtain ⟨k0, k1, k2, k3, k4, k5, k6, k7, k8⟩ := hk
  refine enter [.pointer (some ⟨bq, 0, none⟩), .agg #[.int .i64 o.kind, .int .i64 o.sct, .int .i64 o.cnt, .int .i64 o.cache, .slice o.dat.a o.dat.bs.length o.dat.c, .int .i64 o.after, .slice o.kp.a o.kp.bs.length o.kp.c, .int .i64 o.tear, .int .i64 o.tb]] Tryd.func15 rfl Tryd.ntmps15 rfl ?_
  show WC _ _ _ 292 [] [(0, .pointer (some ⟨bq, 0, none⟩)), (1, .agg #[.int .i64 o.kind, .int .i64 o.sct, .int .i64 o.cnt, .int .i64 o.cache, .slice o.dat.a o.dat.bs.length o.dat.c, .int .i64 o.after, .slice o.kp.a o.kp.bs.length o.kp.c, .int .i64 o.tear, .int .i64 o.tb])] _
  refine WC.seq fun K1170 hK1170 => ?_
  -- region 0
  refine WC.region ?_
  -- R0.0 3 := diskm.go:83 box
  first | refine WL.box (m := 9) (vs := [.int _ _, .int _ _, .int _ _, .int _ _, .slice _ _ _, .int _ _, .slice _ _ _, .int _ _, .int _ _]) st rfl rfl rfl rfl rfl rfl ?_ | refine WL.box (m := 9) (vs := [_, _, _, _, _, _, _, _, _]) st rfl rfl rfl rfl rfl rfl ?_ | refine WL.box st rfl rfl rfl rfl rfl rfl ?_
  intro b3 w st
  -- R0.1 4 := diskm.go:83 alloc
  refine WL.alloc (m := 2) st ty_zero37 rfl rfl rfl ?_
  intro b4 w st
  refine WL.fin hK1170 (fun _ _ h => h) ?_
  refine WC.seq fun K1171 hK1171 => ?_
  refine WC.seq fun K1172 hK1172 => ?_
  -- region 1
  refine WC.region ?_
  -- R1.0 16 := diskm.go:84 fieldAddr
  refine WL.v (by exact r_field ty_fld33_0 rfl) rfl rfl rfl ?_
  -- R1.1 17 := diskm.go:84 load
  refine WL.v (by exact r_load1 ty_one28 rfl (by first | assumption | exact st.c0 (by first | decide | omega) | exact st.c1 (by first | decide | omega) | exact st.c2 (by first | decide | omega) | exact st.c3 (by first | decide | omega) | exact st.c4 (by first | decide | omega) | exact st.c5 (by first | decide | omega) | exact st.c6 (by first | decide | omega) | exact st.c7 (by first | decide | omega) | exact st.c8 (by first | decide | omega))) rfl rfl rfl ?_
  refine WL.fin hK1172 (fun _ _ h => h) ?_
  refine WC.block ?_
  refine WC.seq fun K1173 hK1173 => ?_
  -- region 3
  refine WC.region ?_
  -- R3.0 20 := diskm.go:85 binOp
  refine WL.v (by first | exact r_eql rfl rfl (decide_eq_true (by omega)) | exact r_eql rfl rfl (decide_eq_false (by omega)) | exact r_eql rfl rfl rfl) rfl rfl rfl ?_
  -- R3.1 19 := diskm.go:85 assign
  refine WL.v (by first | exact r_assign (v := .bool _) rfl | exact r_assign rfl) rfl rfl rfl ?_
  refine WL.fin hK1173 (fun _ _ h => h) ?_
  refine WC.condF rfl rfl ?_
  refine WC.seq fun K1174 hK1174 => ?_
  -- region 13
  refine WC.region ?_
  -- R13.0 52 := diskm.go:98 binOp
  refine WL.v (by first | exact r_eql rfl rfl (decide_eq_true (by omega)) | exact r_eql rfl rfl (decide_eq_false (by omega)) | exact r_eql rfl rfl rfl) rfl rfl rfl ?_
  -- R13.1 51 := diskm.go:98 assign
  refine WL.v (by first | exact r_assign (v := .bool _) rfl | exact r_assign rfl) rfl rfl rfl ?_
  refine WL.fin hK1174 (fun _ _ h => h) ?_
  refine WC.condF rfl rfl ?_
  refine WC.seq fun K1175 hK1175 => ?_
  -- region 24
  refine WC.region ?_
  -- R24.0 82 := diskm.go:110 binOp
  refine WL.v (by first | exact r_eql rfl rfl (decide_eq_true (by omega)) | exact r_eql rfl rfl (decide_eq_false (by omega)) | exact r_eql rfl rfl rfl) rfl rfl rfl ?_
  -- R24.1 81 := diskm.go:110 assign
  refine WL.v (by first | exact r_assign (v := .bool _) rfl | exact r_assign rfl) rfl rfl rfl ?_
  refine WL.fin hK1175 (fun _ _ h => h) ?_
  refine WC.condF rfl rfl ?_
  refine WC.seq fun K1176 hK1176 => ?_
  refine WC.seq fun K1177 hK1177 => ?_
  -- region 29
  refine WC.region ?_
  -- R29.0 94 := diskm.go:116 binOp
  refine WL.v (by first | exact r_eql rfl rfl (decide_eq_true (by omega)) | exact r_eql rfl rfl (decide_eq_false (by omega)) | exact r_eql rfl rfl rfl) rfl rfl rfl ?_
  -- R29.1 93 := diskm.go:116 assign
  refine WL.v (by first | exact r_assign (v := .bool _) rfl | exact r_assign rfl) rfl rfl rfl ?_
  refine WL.fin hK1177 (fun _ _ h => h) ?_
  refine WC.condF rfl rfl ?_
  refine WC.seq fun K1178 hK1178 => ?_
  -- region 30
  refine WC.region ?_
  -- R30.0 95 := diskm.go:116 binOp
  refine WL.v (by first | exact r_eql rfl rfl (decide_eq_true (by omega)) | exact r_eql rfl rfl (decide_eq_false (by omega)) | exact r_eql rfl rfl rfl) rfl rfl rfl ?_
  -- R30.1 93 := diskm.go:116 assign
  refine WL.v (by first | exact r_assign (v := .bool _) rfl | exact r_assign rfl) rfl rfl rfl ?_
  refine WL.fin hK1178 (fun _ _ h => h) ?_
  refine WC.condF rfl rfl ?_
  refine WC.seq fun K1179 hK1179 => ?_
  -- region 31
  refine WC.region ?_
  -- R31.0 96 := diskm.go:116 binOp
  refine WL.v (by first | exact r_eql rfl rfl (decide_eq_true (by omega)) | exact r_eql rfl rfl (decide_eq_false (by omega)) | exact r_eql rfl rfl rfl) rfl rfl rfl ?_
  -- R31.1 93 := diskm.go:116 assign
  refine WL.v (by first | exact r_assign (v := .bool _) rfl | exact r_assign rfl) rfl rfl rfl ?_
  refine WL.fin hK1179 (fun _ _ h => h) ?_
  refine WC.condF rfl rfl ?_
  refine WC.seq fun K1180 hK1180 => ?_
  -- region 32
  refine WC.region ?_
  -- R32.0 97 := diskm.go:116 binOp
  refine WL.v (by first | exact r_eql rfl rfl (decide_eq_true (by omega)) | exact r_eql rfl rfl (decide_eq_false (by omega)) | exact r_eql rfl rfl rfl) rfl rfl rfl ?_
  -- R32.1 93 := diskm.go:116 assign
  refine WL.v (by first | exact r_assign (v := .bool _) rfl | exact r_assign rfl) rfl rfl rfl ?_
  refine WL.fin hK1180 (fun _ _ h => h) ?_
  refine WC.condF rfl rfl ?_
  refine WC.seq fun K1181 hK1181 => ?_
  -- region 33
  refine WC.region ?_
  -- R33.0 98 := diskm.go:116 binOp
  refine WL.v (by first | exact r_eql rfl rfl (decide_eq_true (by omega)) | exact r_eql rfl rfl (decide_eq_false (by omega)) | exact r_eql rfl rfl rfl) rfl rfl rfl ?_
  -- R33.1 93 := diskm.go:116 assign
  refine WL.v (by first | exact r_assign (v := .bool _) rfl | exact r_assign rfl) rfl rfl rfl ?_
  refine WL.fin hK1181 (fun _ _ h => h) ?_
  refine WC.condF rfl rfl ?_
  -- region 34
  refine WC.region ?_
  -- R34.0 99 := diskm.go:116 binOp
  refine WL.v (by first | exact r_eql rfl rfl (decide_eq_true (by omega)) | exact r_eql rfl rfl (decide_eq_false (by omega)) | exact r_eql rfl rfl rfl) rfl rfl rfl ?_
  -- R34.1 93 := diskm.go:116 assign
  refine WL.v (by first | exact r_assign (v := .bool _) rfl | exact r_assign rfl) rfl rfl rfl ?_
  refine WL.fin hK1176 (fun _ _ h => h) ?_
  refine WC.condF rfl rfl ?_
  refine WC.seq fun K1182 hK1182 => ?_
  -- region 2
  refine WC.region ?_
  -- R2.0 18 := diskm.go:121 build
  refine WL.v (by exact r_build (ps := [(0, .int _ _)]) (vs := [_, _]) ty_pl37 ty_zero37 rfl (fill_step (pv := [_]) (cs' := [_, _]) rfl rfl rfl rfl (fill_nil))) rfl rfl rfl ?_
  -- R2.1 None := diskm.go:121 store
  first | refine WL.storeW (vs := [_, _]) st ty_agg37 rfl rfl rfl rfl rfl rfl ?_ | refine WL.storeL (vs := [_, _]) st ty_agg37 rfl rfl rfl rfl (by first | decide | omega) rfl rfl ?_ | refine WL.storeW (vs := [_, _]) st.front1 ty_agg37 rfl rfl rfl rfl rfl rfl ?_ | refine WL.storeL (vs := [_, _]) st.front1 ty_agg37 rfl rfl rfl rfl (by first | decide | omega) rfl rfl ?_ | refine WL.storeW (vs := [_, _]) st.front2 ty_agg37 rfl rfl rfl rfl rfl rfl ?_ | refine WL.storeL (vs := [_, _]) st.front2 ty_agg37 rfl rfl rfl rfl (by first | decide | omega) rfl rfl ?_ | refine WL.storeW (vs := [_, _]) st.front3 ty_agg37 rfl rfl rfl rfl rfl rfl ?_ | refine WL.storeL (vs := [_, _]) st.front3 ty_agg37 rfl rfl rfl rfl (by first | decide | omega) rfl rfl ?_ | refine WL.storeW (vs := [_, _]) st.front4 ty_agg37 rfl rfl rfl rfl rfl rfl ?_ | refine WL.storeL (vs := [_, _]) st.front4 ty_agg37 rfl rfl rfl rfl (by first | decide | omega) rfl rfl ?_ | refine WL.storeW (vs := [_, _]) st.front5 ty_agg37 rfl rfl rfl rfl rfl rfl ?_ | refine WL.storeL (vs := [_, _]) st.front5 ty_agg37 rfl rfl rfl rfl (by first | decide | omega) rfl rfl ?_ | refine WL.storeW (vs := [_, _]) st.front6 ty_agg37 rfl rfl rfl rfl rfl rfl ?_ | refine WL.storeL (vs := [_, _]) st.front6 ty_agg37 rfl rfl rfl rfl (by first | decide | omega) rfl rfl ?_ | refine WL.storeW (vs := [_, _]) st.front7 ty_agg37 rfl rfl rfl rfl rfl rfl ?_ | refine WL.storeL (vs := [_, _]) st.front7 ty_agg37 rfl rfl rfl rfl (by first | decide | omega) rfl rfl ?_ | refine WL.storeW (vs := [_, _]) st.front8 ty_agg37 rfl rfl rfl rfl rfl rfl ?_ | refine WL.storeL (vs := [_, _]) st.front8 ty_agg37 rfl rfl rfl rfl (by first | decide | omega) rfl rfl ?_
  intro w st
  refine WL.fin hK1182 (fun _ _ h => h) ?_
  refine WC.retC (vs := [_, _]) Tryd.results15 (fun _ _ h => h) rfl ty_agg37 rfl ⟨(by first | assumption | exact st.c0 (by first | decide | omega) | exact st.c1 (by first | decide | omega) | exact st.c2 (by first | decide | omega) | exact st.c3 (by first | decide | omega) | exact st.c4 (by first | decide | omega) | exact st.c5 (by first | decide | omega) | exact st.c6 (by first | decide | omega) | exact st.c7 (by first | decide | omega) | exact st.c8 (by first | decide | omega)), (by first | assumption | exact st.c0 (by first | decide | omega) | exact st.c1 (by first | decide | omega) | exact st.c2 (by first | decide | omega) | exact st.c3 (by first | decide | omega) | exact st.c4 (by first | decide | omega) | exact st.c5 (by first | decide | omega) | exact st.c6 (by first | decide | omega) | exact st.c7 (by first | decide | omega) | exact st.c8 (by first | decide | omega)), trivial⟩ ?_
  have e : stepP P o = (P, 1) := by unfold stepP; simp [k0, k1, k2, k3, k4, k5, k6, k7, k8]
  exact ⟨_, rfl, MPost.none e (.inr (by decide)) (.inr (by decide)) h rfl (st_ms st)⟩
set_option maxHeartbeats 4000000 in
theorem stepM_reopen {o : OP} {z : MZ} (hp : PWf P) (hfz : P.armed = true → -1000000001000 ≤ P.fuse ∧ P.fuse ≤ 9223372036854775807) (h : MI w0 P z) (ho : o.ok w0) (hk : o.kind = 7) (st : S0 w0 (mds bq P z l) w) :
    Calls Tryd.prog 15 #[.pointer (some ⟨bq, 0, none⟩), o.v] w (Ret (MPost w0 bq l P o)) := by
  unfold OP.v
  have e : stepP P o = reopenP P := by unfold stepP; simp [hk]
  rcases hd : P.down with _ | _
  · have e : stepP P o = (P, 4) := by rw [e]; unfold reopenP; rw [hd]; rfl
    refine enter [.pointer (some ⟨bq, 0, none⟩), .agg #[.int .i64 o.kind, .int .i64 o.sct, .int .i64 o.cnt, .int .i64 o.cache, .slice o.dat.a o.dat.bs.length o.dat.c, .int .i64 o.after, .slice o.kp.a o.kp.bs.length o.kp.c, .int .i64 o.tear, .int .i64 o.tb]] Tryd.func15 rfl Tryd.ntmps15 rfl ?_
    show WC _ _ _ 292 [] [(0, .pointer (some ⟨bq, 0, none⟩)), (1, .agg #[.int .i64 o.kind, .int .i64 o.sct, .int .i64 o.cnt, .int .i64 o.cache, .slice o.dat.a o.dat.bs.length o.dat.c, .int .i64 o.after, .slice o.kp.a o.kp.bs.length o.kp.c, .int .i64 o.tear, .int .i64 o.tb])] _
    refine WC.seq fun K1183 hK1183 => ?_
    -- region 0
    refine WC.region ?_
    -- R0.0 3 := diskm.go:83 box
    first | refine WL.box (m := 9) (vs := [.int _ _, .int _ _, .int _ _, .int _ _, .slice _ _ _, .int _ _, .slice _ _ _, .int _ _, .int _ _]) st rfl rfl rfl rfl rfl rfl ?_ | refine WL.box (m := 9) (vs := [_, _, _, _, _, _, _, _, _]) st rfl rfl rfl rfl rfl rfl ?_ | refine WL.box st rfl rfl rfl rfl rfl rfl ?_
    intro b3 w st
    -- R0.1 4 := diskm.go:83 alloc
    refine WL.alloc (m := 2) st ty_zero37 rfl rfl rfl ?_
    intro b4 w st
    refine WL.fin hK1183 (fun _ _ h => h) ?_
    refine WC.seq fun K1184 hK1184 => ?_
    refine WC.seq fun K1185 hK1185 => ?_
    -- region 1
    refine WC.region ?_
    -- R1.0 16 := diskm.go:84 fieldAddr
    refine WL.v (by exact r_field ty_fld33_0 rfl) rfl rfl rfl ?_
    -- R1.1 17 := diskm.go:84 load
    refine WL.v (by exact r_load1 ty_one28 rfl (by first | assumption | exact st.c0 (by first | decide | omega) | exact st.c1 (by first | decide | omega) | exact st.c2 (by first | decide | omega) | exact st.c3 (by first | decide | omega) | exact st.c4 (by first | decide | omega) | exact st.c5 (by first | decide | omega) | exact st.c6 (by first | decide | omega) | exact st.c7 (by first | decide | omega) | exact st.c8 (by first | decide | omega))) rfl rfl rfl ?_
    refine WL.fin hK1185 (fun _ _ h => h) ?_
    refine WC.block ?_
    refine WC.seq fun K1186 hK1186 => ?_
    -- region 3
    refine WC.region ?_
    -- R3.0 20 := diskm.go:85 binOp
    refine WL.v (by first | exact r_eql rfl rfl (decide_eq_true (by omega)) | exact r_eql rfl rfl (decide_eq_false (by omega)) | exact r_eql rfl rfl rfl) rfl rfl rfl ?_
    -- R3.1 19 := diskm.go:85 assign
    refine WL.v (by first | exact r_assign (v := .bool _) rfl | exact r_assign rfl) rfl rfl rfl ?_
    refine WL.fin hK1186 (fun _ _ h => h) ?_
    refine WC.condF rfl rfl ?_
    refine WC.seq fun K1187 hK1187 => ?_
    -- region 13
    refine WC.region ?_
    -- R13.0 52 := diskm.go:98 binOp
    refine WL.v (by first | exact r_eql rfl rfl (decide_eq_true (by omega)) | exact r_eql rfl rfl (decide_eq_false (by omega)) | exact r_eql rfl rfl rfl) rfl rfl rfl ?_
    -- R13.1 51 := diskm.go:98 assign
    refine WL.v (by first | exact r_assign (v := .bool _) rfl | exact r_assign rfl) rfl rfl rfl ?_
    refine WL.fin hK1187 (fun _ _ h => h) ?_
    refine WC.condF rfl rfl ?_
    refine WC.seq fun K1188 hK1188 => ?_
    -- region 24
    refine WC.region ?_
    -- R24.0 82 := diskm.go:110 binOp
    refine WL.v (by first | exact r_eql rfl rfl (decide_eq_true (by omega)) | exact r_eql rfl rfl (decide_eq_false (by omega)) | exact r_eql rfl rfl rfl) rfl rfl rfl ?_
    -- R24.1 81 := diskm.go:110 assign
    refine WL.v (by first | exact r_assign (v := .bool _) rfl | exact r_assign rfl) rfl rfl rfl ?_
    refine WL.fin hK1188 (fun _ _ h => h) ?_
    refine WC.condT rfl rfl ?_
    refine WC.seq fun K1189 hK1189 => ?_
    refine WC.seq fun K1190 hK1190 => ?_
    -- region 25
    refine WC.region ?_
    -- R25.0 83 := diskm.go:111 move
    refine WL.v (by first | exact r_move (v := .pointer _) rfl | exact r_move rfl) rfl rfl rfl ?_
    -- R25.1 84 := diskm.go:111 nilCheck
    refine WL.v (by exact r_nilCheck rfl) rfl rfl rfl ?_
    -- R25.2 85 := diskm.go:111 fieldAddr
    refine WL.v (by exact r_field ty_fld48_4 rfl) rfl rfl rfl ?_
    -- R25.3 86 := diskm.go:111 load
    refine WL.v (by exact r_load1 (v := .bool false) ty_one4 rfl (by rw [← hd]; exact st.c2 (by decide))) rfl rfl rfl ?_
    -- R25.4 87 := diskm.go:111 unOp
    refine WL.v (by first | exact r_notT rfl | exact r_notF rfl | exact r_not rfl) rfl rfl rfl ?_
    refine WL.fin hK1190 (fun _ _ h => h) ?_
    refine WC.condT rfl rfl ?_
    refine WC.seq fun K1191 hK1191 => ?_
    -- region 26
    refine WC.region ?_
    -- R26.0 88 := diskm.go:112 build
    refine WL.v (by exact r_build (ps := [(0, .int _ _)]) (vs := [_, _]) ty_pl37 ty_zero37 rfl (fill_step (pv := [_]) (cs' := [_, _]) rfl rfl rfl rfl (fill_nil))) rfl rfl rfl ?_
    -- R26.1 None := diskm.go:112 store
    first | refine WL.storeW (vs := [_, _]) st ty_agg37 rfl rfl rfl rfl rfl rfl ?_ | refine WL.storeL (vs := [_, _]) st ty_agg37 rfl rfl rfl rfl (by first | decide | omega) rfl rfl ?_ | refine WL.storeW (vs := [_, _]) st.front1 ty_agg37 rfl rfl rfl rfl rfl rfl ?_ | refine WL.storeL (vs := [_, _]) st.front1 ty_agg37 rfl rfl rfl rfl (by first | decide | omega) rfl rfl ?_ | refine WL.storeW (vs := [_, _]) st.front2 ty_agg37 rfl rfl rfl rfl rfl rfl ?_ | refine WL.storeL (vs := [_, _]) st.front2 ty_agg37 rfl rfl rfl rfl (by first | decide | omega) rfl rfl ?_ | refine WL.storeW (vs := [_, _]) st.front3 ty_agg37 rfl rfl rfl rfl rfl rfl ?_ | refine WL.storeL (vs := [_, _]) st.front3 ty_agg37 rfl rfl rfl rfl (by first | decide | omega) rfl rfl ?_ | refine WL.storeW (vs := [_, _]) st.front4 ty_agg37 rfl rfl rfl rfl rfl rfl ?_ | refine WL.storeL (vs := [_, _]) st.front4 ty_agg37 rfl rfl rfl rfl (by first | decide | omega) rfl rfl ?_ | refine WL.storeW (vs := [_, _]) st.front5 ty_agg37 rfl rfl rfl rfl rfl rfl ?_ | refine WL.storeL (vs := [_, _]) st.front5 ty_agg37 rfl rfl rfl rfl (by first | decide | omega) rfl rfl ?_ | refine WL.storeW (vs := [_, _]) st.front6 ty_agg37 rfl rfl rfl rfl rfl rfl ?_ | refine WL.storeL (vs := [_, _]) st.front6 ty_agg37 rfl rfl rfl rfl (by first | decide | omega) rfl rfl ?_ | refine WL.storeW (vs := [_, _]) st.front7 ty_agg37 rfl rfl rfl rfl rfl rfl ?_ | refine WL.storeL (vs := [_, _]) st.front7 ty_agg37 rfl rfl rfl rfl (by first | decide | omega) rfl rfl ?_ | refine WL.storeW (vs := [_, _]) st.front8 ty_agg37 rfl rfl rfl rfl rfl rfl ?_ | refine WL.storeL (vs := [_, _]) st.front8 ty_agg37 rfl rfl rfl rfl (by first | decide | omega) rfl rfl ?_
    intro w st
    refine WL.fin hK1191 (fun _ _ h => h) ?_
    refine WC.retC (vs := [_, _]) Tryd.results15 (fun _ _ h => h) rfl ty_agg37 rfl ⟨(by first | assumption | exact st.c0 (by first | decide | omega) | exact st.c1 (by first | decide | omega) | exact st.c2 (by first | decide | omega) | exact st.c3 (by first | decide | omega) | exact st.c4 (by first | decide | omega) | exact st.c5 (by first | decide | omega) | exact st.c6 (by first | decide | omega) | exact st.c7 (by first | decide | omega) | exact st.c8 (by first | decide | omega)), (by first | assumption | exact st.c0 (by first | decide | omega) | exact st.c1 (by first | decide | omega) | exact st.c2 (by first | decide | omega) | exact st.c3 (by first | decide | omega) | exact st.c4 (by first | decide | omega) | exact st.c5 (by first | decide | omega) | exact st.c6 (by first | decide | omega) | exact st.c7 (by first | decide | omega) | exact st.c8 (by first | decide | omega)), trivial⟩ ?_
    exact ⟨_, rfl, MPost.none e (.inr (by decide)) (.inr (by decide)) h rfl (st_ms st)⟩
  · have e : stepP P o = ({ P with down := false }, 0) := by rw [e]; unfold reopenP; rw [hd]; rfl
    refine enter [.pointer (some ⟨bq, 0, none⟩), .agg #[.int .i64 o.kind, .int .i64 o.sct, .int .i64 o.cnt, .int .i64 o.cache, .slice o.dat.a o.dat.bs.length o.dat.c, .int .i64 o.after, .slice o.kp.a o.kp.bs.length o.kp.c, .int .i64 o.tear, .int .i64 o.tb]] Tryd.func15 rfl Tryd.ntmps15 rfl ?_
    show WC _ _ _ 292 [] [(0, .pointer (some ⟨bq, 0, none⟩)), (1, .agg #[.int .i64 o.kind, .int .i64 o.sct, .int .i64 o.cnt, .int .i64 o.cache, .slice o.dat.a o.dat.bs.length o.dat.c, .int .i64 o.after, .slice o.kp.a o.kp.bs.length o.kp.c, .int .i64 o.tear, .int .i64 o.tb])] _
    refine WC.seq fun K1192 hK1192 => ?_
    -- region 0
    refine WC.region ?_
    -- R0.0 3 := diskm.go:83 box
    first | refine WL.box (m := 9) (vs := [.int _ _, .int _ _, .int _ _, .int _ _, .slice _ _ _, .int _ _, .slice _ _ _, .int _ _, .int _ _]) st rfl rfl rfl rfl rfl rfl ?_ | refine WL.box (m := 9) (vs := [_, _, _, _, _, _, _, _, _]) st rfl rfl rfl rfl rfl rfl ?_ | refine WL.box st rfl rfl rfl rfl rfl rfl ?_
    intro b3 w st
    -- R0.1 4 := diskm.go:83 alloc
    refine WL.alloc (m := 2) st ty_zero37 rfl rfl rfl ?_
    intro b4 w st
    refine WL.fin hK1192 (fun _ _ h => h) ?_
    refine WC.seq fun K1193 hK1193 => ?_
    refine WC.seq fun K1194 hK1194 => ?_
    -- region 1
    refine WC.region ?_
    -- R1.0 16 := diskm.go:84 fieldAddr
    refine WL.v (by exact r_field ty_fld33_0 rfl) rfl rfl rfl ?_
    -- R1.1 17 := diskm.go:84 load
    refine WL.v (by exact r_load1 ty_one28 rfl (by first | assumption | exact st.c0 (by first | decide | omega) | exact st.c1 (by first | decide | omega) | exact st.c2 (by first | decide | omega) | exact st.c3 (by first | decide | omega) | exact st.c4 (by first | decide | omega) | exact st.c5 (by first | decide | omega) | exact st.c6 (by first | decide | omega) | exact st.c7 (by first | decide | omega) | exact st.c8 (by first | decide | omega))) rfl rfl rfl ?_
    refine WL.fin hK1194 (fun _ _ h => h) ?_
    refine WC.block ?_
    refine WC.seq fun K1195 hK1195 => ?_
    -- region 3
    refine WC.region ?_
    -- R3.0 20 := diskm.go:85 binOp
    refine WL.v (by first | exact r_eql rfl rfl (decide_eq_true (by omega)) | exact r_eql rfl rfl (decide_eq_false (by omega)) | exact r_eql rfl rfl rfl) rfl rfl rfl ?_
    -- R3.1 19 := diskm.go:85 assign
    refine WL.v (by first | exact r_assign (v := .bool _) rfl | exact r_assign rfl) rfl rfl rfl ?_
    refine WL.fin hK1195 (fun _ _ h => h) ?_
    refine WC.condF rfl rfl ?_
    refine WC.seq fun K1196 hK1196 => ?_
    -- region 13
    refine WC.region ?_
    -- R13.0 52 := diskm.go:98 binOp
    refine WL.v (by first | exact r_eql rfl rfl (decide_eq_true (by omega)) | exact r_eql rfl rfl (decide_eq_false (by omega)) | exact r_eql rfl rfl rfl) rfl rfl rfl ?_
    -- R13.1 51 := diskm.go:98 assign
    refine WL.v (by first | exact r_assign (v := .bool _) rfl | exact r_assign rfl) rfl rfl rfl ?_
    refine WL.fin hK1196 (fun _ _ h => h) ?_
    refine WC.condF rfl rfl ?_
    refine WC.seq fun K1197 hK1197 => ?_
    -- region 24
    refine WC.region ?_
    -- R24.0 82 := diskm.go:110 binOp
    refine WL.v (by first | exact r_eql rfl rfl (decide_eq_true (by omega)) | exact r_eql rfl rfl (decide_eq_false (by omega)) | exact r_eql rfl rfl rfl) rfl rfl rfl ?_
    -- R24.1 81 := diskm.go:110 assign
    refine WL.v (by first | exact r_assign (v := .bool _) rfl | exact r_assign rfl) rfl rfl rfl ?_
    refine WL.fin hK1197 (fun _ _ h => h) ?_
    refine WC.condT rfl rfl ?_
    refine WC.seq fun K1198 hK1198 => ?_
    refine WC.seq fun K1199 hK1199 => ?_
    -- region 25
    refine WC.region ?_
    -- R25.0 83 := diskm.go:111 move
    refine WL.v (by first | exact r_move (v := .pointer _) rfl | exact r_move rfl) rfl rfl rfl ?_
    -- R25.1 84 := diskm.go:111 nilCheck
    refine WL.v (by exact r_nilCheck rfl) rfl rfl rfl ?_
    -- R25.2 85 := diskm.go:111 fieldAddr
    refine WL.v (by exact r_field ty_fld48_4 rfl) rfl rfl rfl ?_
    -- R25.3 86 := diskm.go:111 load
    refine WL.v (by exact r_load1 (v := .bool true) ty_one4 rfl (by rw [← hd]; exact st.c2 (by decide))) rfl rfl rfl ?_
    -- R25.4 87 := diskm.go:111 unOp
    refine WL.v (by first | exact r_notT rfl | exact r_notF rfl | exact r_not rfl) rfl rfl rfl ?_
    refine WL.fin hK1199 (fun _ _ h => h) ?_
    refine WC.condF rfl rfl ?_
    refine WC.skipF hK1198 (fun _ _ h => h) ?_
    refine WC.seq fun K1200 hK1200 => ?_
    -- region 27
    refine WC.region ?_
    -- R27.0 89 := diskm.go:114 move
    refine WL.v (by first | exact r_move (v := .pointer _) rfl | exact r_move rfl) rfl rfl rfl ?_
    -- R27.1 90 := diskm.go:114 nilCheck
    refine WL.v (by exact r_nilCheck rfl) rfl rfl rfl ?_
    -- R27.2 91 := diskm.go:114 fieldAddr
    refine WL.v (by exact r_field ty_fld48_4 rfl) rfl rfl rfl ?_
    -- R27.3 None := diskm.go:114 store
    first | refine WL.store (v := .bool _) st ty_one4 rfl rfl rfl (by first | decide | omega) rfl rfl ?_ | refine WL.store (v := _) st ty_one4 rfl rfl rfl (by first | decide | omega) rfl rfl ?_ | refine WL.store (v := .bool _) st.front1 ty_one4 rfl rfl rfl (by first | decide | omega) rfl rfl ?_ | refine WL.store (v := _) st.front1 ty_one4 rfl rfl rfl (by first | decide | omega) rfl rfl ?_ | refine WL.store (v := .bool _) st.front2 ty_one4 rfl rfl rfl (by first | decide | omega) rfl rfl ?_ | refine WL.store (v := _) st.front2 ty_one4 rfl rfl rfl (by first | decide | omega) rfl rfl ?_ | refine WL.store (v := .bool _) st.front3 ty_one4 rfl rfl rfl (by first | decide | omega) rfl rfl ?_ | refine WL.store (v := _) st.front3 ty_one4 rfl rfl rfl (by first | decide | omega) rfl rfl ?_ | refine WL.store (v := .bool _) st.front4 ty_one4 rfl rfl rfl (by first | decide | omega) rfl rfl ?_ | refine WL.store (v := _) st.front4 ty_one4 rfl rfl rfl (by first | decide | omega) rfl rfl ?_ | refine WL.store (v := .bool _) st.front5 ty_one4 rfl rfl rfl (by first | decide | omega) rfl rfl ?_ | refine WL.store (v := _) st.front5 ty_one4 rfl rfl rfl (by first | decide | omega) rfl rfl ?_ | refine WL.store (v := .bool _) st.front6 ty_one4 rfl rfl rfl (by first | decide | omega) rfl rfl ?_ | refine WL.store (v := _) st.front6 ty_one4 rfl rfl rfl (by first | decide | omega) rfl rfl ?_ | refine WL.store (v := .bool _) st.front7 ty_one4 rfl rfl rfl (by first | decide | omega) rfl rfl ?_ | refine WL.store (v := _) st.front7 ty_one4 rfl rfl rfl (by first | decide | omega) rfl rfl ?_ | refine WL.store (v := .bool _) st.front8 ty_one4 rfl rfl rfl (by first | decide | omega) rfl rfl ?_ | refine WL.store (v := _) st.front8 ty_one4 rfl rfl rfl (by first | decide | omega) rfl rfl ?_
    intro w st
    refine WL.fin hK1200 (fun _ _ h => h) ?_
    refine WC.seq fun K1201 hK1201 => ?_
    -- region 28
    refine WC.region ?_
    -- R28.0 92 := diskm.go:115 build
    refine WL.v (by exact r_build (ps := []) (vs := [_, _]) ty_pl37 ty_zero37 rfl (fill_nil)) rfl rfl rfl ?_
    -- R28.1 None := diskm.go:115 store
    first | refine WL.storeW (vs := [_, _]) st ty_agg37 rfl rfl rfl rfl rfl rfl ?_ | refine WL.storeL (vs := [_, _]) st ty_agg37 rfl rfl rfl rfl (by first | decide | omega) rfl rfl ?_ | refine WL.storeW (vs := [_, _]) st.front1 ty_agg37 rfl rfl rfl rfl rfl rfl ?_ | refine WL.storeL (vs := [_, _]) st.front1 ty_agg37 rfl rfl rfl rfl (by first | decide | omega) rfl rfl ?_ | refine WL.storeW (vs := [_, _]) st.front2 ty_agg37 rfl rfl rfl rfl rfl rfl ?_ | refine WL.storeL (vs := [_, _]) st.front2 ty_agg37 rfl rfl rfl rfl (by first | decide | omega) rfl rfl ?_ | refine WL.storeW (vs := [_, _]) st.front3 ty_agg37 rfl rfl rfl rfl rfl rfl ?_ | refine WL.storeL (vs := [_, _]) st.front3 ty_agg37 rfl rfl rfl rfl (by first | decide | omega) rfl rfl ?_ | refine WL.storeW (vs := [_, _]) st.front4 ty_agg37 rfl rfl rfl rfl rfl rfl ?_ | refine WL.storeL (vs := [_, _]) st.front4 ty_agg37 rfl rfl rfl rfl (by first | decide | omega) rfl rfl ?_ | refine WL.storeW (vs := [_, _]) st.front5 ty_agg37 rfl rfl rfl rfl rfl rfl ?_ | refine WL.storeL (vs := [_, _]) st.front5 ty_agg37 rfl rfl rfl rfl (by first | decide | omega) rfl rfl ?_ | refine WL.storeW (vs := [_, _]) st.front6 ty_agg37 rfl rfl rfl rfl rfl rfl ?_ | refine WL.storeL (vs := [_, _]) st.front6 ty_agg37 rfl rfl rfl rfl (by first | decide | omega) rfl rfl ?_ | refine WL.storeW (vs := [_, _]) st.front7 ty_agg37 rfl rfl rfl rfl rfl rfl ?_ | refine WL.storeL (vs := [_, _]) st.front7 ty_agg37 rfl rfl rfl rfl (by first | decide | omega) rfl rfl ?_ | refine WL.storeW (vs := [_, _]) st.front8 ty_agg37 rfl rfl rfl rfl rfl rfl ?_ | refine WL.storeL (vs := [_, _]) st.front8 ty_agg37 rfl rfl rfl rfl (by first | decide | omega) rfl rfl ?_
    intro w st
    refine WL.fin hK1201 (fun _ _ h => h) ?_
    refine WC.retC (vs := [_, _]) Tryd.results15 (fun _ _ h => h) rfl ty_agg37 rfl ⟨(by first | assumption | exact st.c0 (by first | decide | omega) | exact st.c1 (by first | decide | omega) | exact st.c2 (by first | decide | omega) | exact st.c3 (by first | decide | omega) | exact st.c4 (by first | decide | omega) | exact st.c5 (by first | decide | omega) | exact st.c6 (by first | decide | omega) | exact st.c7 (by first | decide | omega) | exact st.c8 (by first | decide | omega)), (by first | assumption | exact st.c0 (by first | decide | omega) | exact st.c1 (by first | decide | omega) | exact st.c2 (by first | decide | omega) | exact st.c3 (by first | decide | omega) | exact st.c4 (by first | decide | omega) | exact st.c5 (by first | decide | omega) | exact st.c6 (by first | decide | omega) | exact st.c7 (by first | decide | omega) | exact st.c8 (by first | decide | omega)), trivial⟩ ?_
    exact ⟨_, rfl, MPost.none e (.inl (by omega)) (.inl (by omega)) (h.plain ⟨rfl, rfl, rfl, rfl⟩ (fun h => ⟨h, rfl, rfl, rfl⟩)) rfl (st_nrm (L' := [.int .i64 (P.sec : Nat), .int .i64 (P.lim : Nat), .map (some z.bm), z.wv, .bool false, .bool P.armed, .int .i64 P.fuse, .slice z.sv.a z.sv.bs.length z.sv.c, .int .i64 z.t, .int .i64 z.tb]) rfl st.drop.drop1)⟩
set_option maxHeartbeats 4000000 in
theorem stepM_down1 {o : OP} {z : MZ} (hp : PWf P) (hfz : P.armed = true → -1000000001000 ≤ P.fuse ∧ P.fuse ≤ 9223372036854775807) (h : MI w0 P z) (ho : o.ok w0) (hk : o.kind = 1) (hd : P.down = true) (st : S0 w0 (mds bq P z l) w) :
    Calls Tryd.prog 15 #[.pointer (some ⟨bq, 0, none⟩), o.v] w (Ret (MPost w0 bq l P o)) := by
  unfold OP.v
  have e : stepP P o = (P, 3) := by unfold stepP; simp [hk]; unfold writeP; rw [hd]; rfl
  refine enter [.pointer (some ⟨bq, 0, none⟩), .agg #[.int .i64 o.kind, .int .i64 o.sct, .int .i64 o.cnt, .int .i64 o.cache, .slice o.dat.a o.dat.bs.length o.dat.c, .int .i64 o.after, .slice o.kp.a o.kp.bs.length o.kp.c, .int .i64 o.tear, .int .i64 o.tb]] Tryd.func15 rfl Tryd.ntmps15 rfl ?_
  show WC _ _ _ 292 [] [(0, .pointer (some ⟨bq, 0, none⟩)), (1, .agg #[.int .i64 o.kind, .int .i64 o.sct, .int .i64 o.cnt, .int .i64 o.cache, .slice o.dat.a o.dat.bs.length o.dat.c, .int .i64 o.after, .slice o.kp.a o.kp.bs.length o.kp.c, .int .i64 o.tear, .int .i64 o.tb])] _
  refine WC.seq fun K1202 hK1202 => ?_
  -- region 0
  refine WC.region ?_
  -- R0.0 3 := diskm.go:83 box
  first | refine WL.box (m := 9) (vs := [.int _ _, .int _ _, .int _ _, .int _ _, .slice _ _ _, .int _ _, .slice _ _ _, .int _ _, .int _ _]) st rfl rfl rfl rfl rfl rfl ?_ | refine WL.box (m := 9) (vs := [_, _, _, _, _, _, _, _, _]) st rfl rfl rfl rfl rfl rfl ?_ | refine WL.box st rfl rfl rfl rfl rfl rfl ?_
  intro b3 w st
  -- R0.1 4 := diskm.go:83 alloc
  refine WL.alloc (m := 2) st ty_zero37 rfl rfl rfl ?_
  intro b4 w st
  refine WL.fin hK1202 (fun _ _ h => h) ?_
  refine WC.seq fun K1203 hK1203 => ?_
  refine WC.seq fun K1204 hK1204 => ?_
  -- region 1
  refine WC.region ?_
  -- R1.0 16 := diskm.go:84 fieldAddr
  refine WL.v (by exact r_field ty_fld33_0 rfl) rfl rfl rfl ?_
  -- R1.1 17 := diskm.go:84 load
  refine WL.v (by exact r_load1 ty_one28 rfl (by first | assumption | exact st.c0 (by first | decide | omega) | exact st.c1 (by first | decide | omega) | exact st.c2 (by first | decide | omega) | exact st.c3 (by first | decide | omega) | exact st.c4 (by first | decide | omega) | exact st.c5 (by first | decide | omega) | exact st.c6 (by first | decide | omega) | exact st.c7 (by first | decide | omega) | exact st.c8 (by first | decide | omega))) rfl rfl rfl ?_
  refine WL.fin hK1204 (fun _ _ h => h) ?_
  refine WC.block ?_
  refine WC.seq fun K1205 hK1205 => ?_
  -- region 3
  refine WC.region ?_
  -- R3.0 20 := diskm.go:85 binOp
  refine WL.v (by first | exact r_eql rfl rfl (decide_eq_true (by omega)) | exact r_eql rfl rfl (decide_eq_false (by omega)) | exact r_eql rfl rfl rfl) rfl rfl rfl ?_
  -- R3.1 19 := diskm.go:85 assign
  refine WL.v (by first | exact r_assign (v := .bool _) rfl | exact r_assign rfl) rfl rfl rfl ?_
  refine WL.fin hK1205 (fun _ _ h => h) ?_
  refine WC.condF rfl rfl ?_
  refine WC.seq fun K1206 hK1206 => ?_
  -- region 13
  refine WC.region ?_
  -- R13.0 52 := diskm.go:98 binOp
  refine WL.v (by first | exact r_eql rfl rfl (decide_eq_true (by omega)) | exact r_eql rfl rfl (decide_eq_false (by omega)) | exact r_eql rfl rfl rfl) rfl rfl rfl ?_
  -- R13.1 51 := diskm.go:98 assign
  refine WL.v (by first | exact r_assign (v := .bool _) rfl | exact r_assign rfl) rfl rfl rfl ?_
  refine WL.fin hK1206 (fun _ _ h => h) ?_
  refine WC.condF rfl rfl ?_
  refine WC.seq fun K1207 hK1207 => ?_
  -- region 24
  refine WC.region ?_
  -- R24.0 82 := diskm.go:110 binOp
  refine WL.v (by first | exact r_eql rfl rfl (decide_eq_true (by omega)) | exact r_eql rfl rfl (decide_eq_false (by omega)) | exact r_eql rfl rfl rfl) rfl rfl rfl ?_
  -- R24.1 81 := diskm.go:110 assign
  refine WL.v (by first | exact r_assign (v := .bool _) rfl | exact r_assign rfl) rfl rfl rfl ?_
  refine WL.fin hK1207 (fun _ _ h => h) ?_
  refine WC.condF rfl rfl ?_
  refine WC.seq fun K1208 hK1208 => ?_
  refine WC.seq fun K1209 hK1209 => ?_
  -- region 29
  refine WC.region ?_
  -- R29.0 94 := diskm.go:116 binOp
  refine WL.v (by first | exact r_eql rfl rfl (decide_eq_true (by omega)) | exact r_eql rfl rfl (decide_eq_false (by omega)) | exact r_eql rfl rfl rfl) rfl rfl rfl ?_
  -- R29.1 93 := diskm.go:116 assign
  refine WL.v (by first | exact r_assign (v := .bool _) rfl | exact r_assign rfl) rfl rfl rfl ?_
  refine WL.fin hK1209 (fun _ _ h => h) ?_
  refine WC.condT rfl rfl ?_
  refine WC.skipF hK1208 (fun _ _ h => h) ?_
  refine WC.condT rfl rfl ?_
  refine WC.seq fun K1210 hK1210 => ?_
  -- region 35
  refine WC.region ?_
  -- R35.0 100 := diskm.go:117 move
  refine WL.v (by first | exact r_move (v := .pointer _) rfl | exact r_move rfl) rfl rfl rfl ?_
  -- R35.1 101 := diskm.go:117 nilCheck
  refine WL.v (by exact r_nilCheck rfl) rfl rfl rfl ?_
  -- R35.2 102 := diskm.go:117 fieldAddr
  refine WL.v (by exact r_field ty_fld48_4 rfl) rfl rfl rfl ?_
  -- R35.3 103 := diskm.go:117 load
  refine WL.v (by exact r_load1 (v := .bool true) ty_one4 rfl (by rw [← hd]; exact st.c2 (by decide))) rfl rfl rfl ?_
  refine WL.fin hK1210 (fun _ _ h => h) ?_
  refine WC.condT rfl rfl ?_
  refine WC.seq fun K1211 hK1211 => ?_
  -- region 36
  refine WC.region ?_
  -- R36.0 104 := diskm.go:118 build
  refine WL.v (by exact r_build (ps := [(0, .int _ _)]) (vs := [_, _]) ty_pl37 ty_zero37 rfl (fill_step (pv := [_]) (cs' := [_, _]) rfl rfl rfl rfl (fill_nil))) rfl rfl rfl ?_
  -- R36.1 None := diskm.go:118 store
  first | refine WL.storeW (vs := [_, _]) st ty_agg37 rfl rfl rfl rfl rfl rfl ?_ | refine WL.storeL (vs := [_, _]) st ty_agg37 rfl rfl rfl rfl (by first | decide | omega) rfl rfl ?_ | refine WL.storeW (vs := [_, _]) st.front1 ty_agg37 rfl rfl rfl rfl rfl rfl ?_ | refine WL.storeL (vs := [_, _]) st.front1 ty_agg37 rfl rfl rfl rfl (by first | decide | omega) rfl rfl ?_ | refine WL.storeW (vs := [_, _]) st.front2 ty_agg37 rfl rfl rfl rfl rfl rfl ?_ | refine WL.storeL (vs := [_, _]) st.front2 ty_agg37 rfl rfl rfl rfl (by first | decide | omega) rfl rfl ?_ | refine WL.storeW (vs := [_, _]) st.front3 ty_agg37 rfl rfl rfl rfl rfl rfl ?_ | refine WL.storeL (vs := [_, _]) st.front3 ty_agg37 rfl rfl rfl rfl (by first | decide | omega) rfl rfl ?_ | refine WL.storeW (vs := [_, _]) st.front4 ty_agg37 rfl rfl rfl rfl rfl rfl ?_ | refine WL.storeL (vs := [_, _]) st.front4 ty_agg37 rfl rfl rfl rfl (by first | decide | omega) rfl rfl ?_ | refine WL.storeW (vs := [_, _]) st.front5 ty_agg37 rfl rfl rfl rfl rfl rfl ?_ | refine WL.storeL (vs := [_, _]) st.front5 ty_agg37 rfl rfl rfl rfl (by first | decide | omega) rfl rfl ?_ | refine WL.storeW (vs := [_, _]) st.front6 ty_agg37 rfl rfl rfl rfl rfl rfl ?_ | refine WL.storeL (vs := [_, _]) st.front6 ty_agg37 rfl rfl rfl rfl (by first | decide | omega) rfl rfl ?_ | refine WL.storeW (vs := [_, _]) st.front7 ty_agg37 rfl rfl rfl rfl rfl rfl ?_ | refine WL.storeL (vs := [_, _]) st.front7 ty_agg37 rfl rfl rfl rfl (by first | decide | omega) rfl rfl ?_ | refine WL.storeW (vs := [_, _]) st.front8 ty_agg37 rfl rfl rfl rfl rfl rfl ?_ | refine WL.storeL (vs := [_, _]) st.front8 ty_agg37 rfl rfl rfl rfl (by first | decide | omega) rfl rfl ?_
  intro w st
  refine WL.fin hK1211 (fun _ _ h => h) ?_
  refine WC.retC (vs := [_, _]) Tryd.results15 (fun _ _ h => h) rfl ty_agg37 rfl ⟨(by first | assumption | exact st.c0 (by first | decide | omega) | exact st.c1 (by first | decide | omega) | exact st.c2 (by first | decide | omega) | exact st.c3 (by first | decide | omega) | exact st.c4 (by first | decide | omega) | exact st.c5 (by first | decide | omega) | exact st.c6 (by first | decide | omega) | exact st.c7 (by first | decide | omega) | exact st.c8 (by first | decide | omega)), (by first | assumption | exact st.c0 (by first | decide | omega) | exact st.c1 (by first | decide | omega) | exact st.c2 (by first | decide | omega) | exact st.c3 (by first | decide | omega) | exact st.c4 (by first | decide | omega) | exact st.c5 (by first | decide | omega) | exact st.c6 (by first | decide | omega) | exact st.c7 (by first | decide | omega) | exact st.c8 (by first | decide | omega)), trivial⟩ ?_
  exact ⟨_, rfl, MPost.none e (.inr (by decide)) (.inr (by decide)) h rfl (st_ms st)⟩
set_option maxHeartbeats 4000000 in
theorem stepM_down2 {o : OP} {z : MZ} (hp : PWf P) (hfz : P.armed = true → -1000000001000 ≤ P.fuse ∧ P.fuse ≤ 9223372036854775807) (h : MI w0 P z) (ho : o.ok w0) (hk : o.kind = 2) (hd : P.down = true) (st : S0 w0 (mds bq P z l) w) :
    Calls Tryd.prog 15 #[.pointer (some ⟨bq, 0, none⟩), o.v] w (Ret (MPost w0 bq l P o)) := by
  unfold OP.v
  have e : stepP P o = (P, 3) := by unfold stepP; simp [hk]; unfold readC; rw [hd]; rfl
  refine enter [.pointer (some ⟨bq, 0, none⟩), .agg #[.int .i64 o.kind, .int .i64 o.sct, .int .i64 o.cnt, .int .i64 o.cache, .slice o.dat.a o.dat.bs.length o.dat.c, .int .i64 o.after, .slice o.kp.a o.kp.bs.length o.kp.c, .int .i64 o.tear, .int .i64 o.tb]] Tryd.func15 rfl Tryd.ntmps15 rfl ?_
  show WC _ _ _ 292 [] [(0, .pointer (some ⟨bq, 0, none⟩)), (1, .agg #[.int .i64 o.kind, .int .i64 o.sct, .int .i64 o.cnt, .int .i64 o.cache, .slice o.dat.a o.dat.bs.length o.dat.c, .int .i64 o.after, .slice o.kp.a o.kp.bs.length o.kp.c, .int .i64 o.tear, .int .i64 o.tb])] _
  refine WC.seq fun K1212 hK1212 => ?_
  -- region 0
  refine WC.region ?_
  -- R0.0 3 := diskm.go:83 box
  first | refine WL.box (m := 9) (vs := [.int _ _, .int _ _, .int _ _, .int _ _, .slice _ _ _, .int _ _, .slice _ _ _, .int _ _, .int _ _]) st rfl rfl rfl rfl rfl rfl ?_ | refine WL.box (m := 9) (vs := [_, _, _, _, _, _, _, _, _]) st rfl rfl rfl rfl rfl rfl ?_ | refine WL.box st rfl rfl rfl rfl rfl rfl ?_
  intro b3 w st
  -- R0.1 4 := diskm.go:83 alloc
  refine WL.alloc (m := 2) st ty_zero37 rfl rfl rfl ?_
  intro b4 w st
  refine WL.fin hK1212 (fun _ _ h => h) ?_
  refine WC.seq fun K1213 hK1213 => ?_
  refine WC.seq fun K1214 hK1214 => ?_
  -- region 1
  refine WC.region ?_
  -- R1.0 16 := diskm.go:84 fieldAddr
  refine WL.v (by exact r_field ty_fld33_0 rfl) rfl rfl rfl ?_
  -- R1.1 17 := diskm.go:84 load
  refine WL.v (by exact r_load1 ty_one28 rfl (by first | assumption | exact st.c0 (by first | decide | omega) | exact st.c1 (by first | decide | omega) | exact st.c2 (by first | decide | omega) | exact st.c3 (by first | decide | omega) | exact st.c4 (by first | decide | omega) | exact st.c5 (by first | decide | omega) | exact st.c6 (by first | decide | omega) | exact st.c7 (by first | decide | omega) | exact st.c8 (by first | decide | omega))) rfl rfl rfl ?_
  refine WL.fin hK1214 (fun _ _ h => h) ?_
  refine WC.block ?_
  refine WC.seq fun K1215 hK1215 => ?_
  -- region 3
  refine WC.region ?_
  -- R3.0 20 := diskm.go:85 binOp
  refine WL.v (by first | exact r_eql rfl rfl (decide_eq_true (by omega)) | exact r_eql rfl rfl (decide_eq_false (by omega)) | exact r_eql rfl rfl rfl) rfl rfl rfl ?_
  -- R3.1 19 := diskm.go:85 assign
  refine WL.v (by first | exact r_assign (v := .bool _) rfl | exact r_assign rfl) rfl rfl rfl ?_
  refine WL.fin hK1215 (fun _ _ h => h) ?_
  refine WC.condF rfl rfl ?_
  refine WC.seq fun K1216 hK1216 => ?_
  -- region 13
  refine WC.region ?_
  -- R13.0 52 := diskm.go:98 binOp
  refine WL.v (by first | exact r_eql rfl rfl (decide_eq_true (by omega)) | exact r_eql rfl rfl (decide_eq_false (by omega)) | exact r_eql rfl rfl rfl) rfl rfl rfl ?_
  -- R13.1 51 := diskm.go:98 assign
  refine WL.v (by first | exact r_assign (v := .bool _) rfl | exact r_assign rfl) rfl rfl rfl ?_
  refine WL.fin hK1216 (fun _ _ h => h) ?_
  refine WC.condF rfl rfl ?_
  refine WC.seq fun K1217 hK1217 => ?_
  -- region 24
  refine WC.region ?_
  -- R24.0 82 := diskm.go:110 binOp
  refine WL.v (by first | exact r_eql rfl rfl (decide_eq_true (by omega)) | exact r_eql rfl rfl (decide_eq_false (by omega)) | exact r_eql rfl rfl rfl) rfl rfl rfl ?_
  -- R24.1 81 := diskm.go:110 assign
  refine WL.v (by first | exact r_assign (v := .bool _) rfl | exact r_assign rfl) rfl rfl rfl ?_
  refine WL.fin hK1217 (fun _ _ h => h) ?_
  refine WC.condF rfl rfl ?_
  refine WC.seq fun K1218 hK1218 => ?_
  refine WC.seq fun K1219 hK1219 => ?_
  -- region 29
  refine WC.region ?_
  -- R29.0 94 := diskm.go:116 binOp
  refine WL.v (by first | exact r_eql rfl rfl (decide_eq_true (by omega)) | exact r_eql rfl rfl (decide_eq_false (by omega)) | exact r_eql rfl rfl rfl) rfl rfl rfl ?_
  -- R29.1 93 := diskm.go:116 assign
  refine WL.v (by first | exact r_assign (v := .bool _) rfl | exact r_assign rfl) rfl rfl rfl ?_
  refine WL.fin hK1219 (fun _ _ h => h) ?_
  refine WC.condF rfl rfl ?_
  refine WC.seq fun K1220 hK1220 => ?_
  -- region 30
  refine WC.region ?_
  -- R30.0 95 := diskm.go:116 binOp
  refine WL.v (by first | exact r_eql rfl rfl (decide_eq_true (by omega)) | exact r_eql rfl rfl (decide_eq_false (by omega)) | exact r_eql rfl rfl rfl) rfl rfl rfl ?_
  -- R30.1 93 := diskm.go:116 assign
  refine WL.v (by first | exact r_assign (v := .bool _) rfl | exact r_assign rfl) rfl rfl rfl ?_
  refine WL.fin hK1220 (fun _ _ h => h) ?_
  refine WC.condT rfl rfl ?_
  refine WC.skipF hK1218 (fun _ _ h => h) ?_
  refine WC.condT rfl rfl ?_
  refine WC.seq fun K1221 hK1221 => ?_
  -- region 35
  refine WC.region ?_
  -- R35.0 100 := diskm.go:117 move
  refine WL.v (by first | exact r_move (v := .pointer _) rfl | exact r_move rfl) rfl rfl rfl ?_
  -- R35.1 101 := diskm.go:117 nilCheck
  refine WL.v (by exact r_nilCheck rfl) rfl rfl rfl ?_
  -- R35.2 102 := diskm.go:117 fieldAddr
  refine WL.v (by exact r_field ty_fld48_4 rfl) rfl rfl rfl ?_
  -- R35.3 103 := diskm.go:117 load
  refine WL.v (by exact r_load1 (v := .bool true) ty_one4 rfl (by rw [← hd]; exact st.c2 (by decide))) rfl rfl rfl ?_
  refine WL.fin hK1221 (fun _ _ h => h) ?_
  refine WC.condT rfl rfl ?_
  refine WC.seq fun K1222 hK1222 => ?_
  -- region 36
  refine WC.region ?_
  -- R36.0 104 := diskm.go:118 build
  refine WL.v (by exact r_build (ps := [(0, .int _ _)]) (vs := [_, _]) ty_pl37 ty_zero37 rfl (fill_step (pv := [_]) (cs' := [_, _]) rfl rfl rfl rfl (fill_nil))) rfl rfl rfl ?_
  -- R36.1 None := diskm.go:118 store
  first | refine WL.storeW (vs := [_, _]) st ty_agg37 rfl rfl rfl rfl rfl rfl ?_ | refine WL.storeL (vs := [_, _]) st ty_agg37 rfl rfl rfl rfl (by first | decide | omega) rfl rfl ?_ | refine WL.storeW (vs := [_, _]) st.front1 ty_agg37 rfl rfl rfl rfl rfl rfl ?_ | refine WL.storeL (vs := [_, _]) st.front1 ty_agg37 rfl rfl rfl rfl (by first | decide | omega) rfl rfl ?_ | refine WL.storeW (vs := [_, _]) st.front2 ty_agg37 rfl rfl rfl rfl rfl rfl ?_ | refine WL.storeL (vs := [_, _]) st.front2 ty_agg37 rfl rfl rfl rfl (by first | decide | omega) rfl rfl ?_ | refine WL.storeW (vs := [_, _]) st.front3 ty_agg37 rfl rfl rfl rfl rfl rfl ?_ | refine WL.storeL (vs := [_, _]) st.front3 ty_agg37 rfl rfl rfl rfl (by first | decide | omega) rfl rfl ?_ | refine WL.storeW (vs := [_, _]) st.front4 ty_agg37 rfl rfl rfl rfl rfl rfl ?_ | refine WL.storeL (vs := [_, _]) st.front4 ty_agg37 rfl rfl rfl rfl (by first | decide | omega) rfl rfl ?_ | refine WL.storeW (vs := [_, _]) st.front5 ty_agg37 rfl rfl rfl rfl rfl rfl ?_ | refine WL.storeL (vs := [_, _]) st.front5 ty_agg37 rfl rfl rfl rfl (by first | decide | omega) rfl rfl ?_ | refine WL.storeW (vs := [_, _]) st.front6 ty_agg37 rfl rfl rfl rfl rfl rfl ?_ | refine WL.storeL (vs := [_, _]) st.front6 ty_agg37 rfl rfl rfl rfl (by first | decide | omega) rfl rfl ?_ | refine WL.storeW (vs := [_, _]) st.front7 ty_agg37 rfl rfl rfl rfl rfl rfl ?_ | refine WL.storeL (vs := [_, _]) st.front7 ty_agg37 rfl rfl rfl rfl (by first | decide | omega) rfl rfl ?_ | refine WL.storeW (vs := [_, _]) st.front8 ty_agg37 rfl rfl rfl rfl rfl rfl ?_ | refine WL.storeL (vs := [_, _]) st.front8 ty_agg37 rfl rfl rfl rfl (by first | decide | omega) rfl rfl ?_
  intro w st
  refine WL.fin hK1222 (fun _ _ h => h) ?_
  refine WC.retC (vs := [_, _]) Tryd.results15 (fun _ _ h => h) rfl ty_agg37 rfl ⟨(by first | assumption | exact st.c0 (by first | decide | omega) | exact st.c1 (by first | decide | omega) | exact st.c2 (by first | decide | omega) | exact st.c3 (by first | decide | omega) | exact st.c4 (by first | decide | omega) | exact st.c5 (by first | decide | omega) | exact st.c6 (by first | decide | omega) | exact st.c7 (by first | decide | omega) | exact st.c8 (by first | decide | omega)), (by first | assumption | exact st.c0 (by first | decide | omega) | exact st.c1 (by first | decide | omega) | exact st.c2 (by first | decide | omega) | exact st.c3 (by first | decide | omega) | exact st.c4 (by first | decide | omega) | exact st.c5 (by first | decide | omega) | exact st.c6 (by first | decide | omega) | exact st.c7 (by first | decide | omega) | exact st.c8 (by first | decide | omega)), trivial⟩ ?_
  exact ⟨_, rfl, MPost.none e (.inr (by decide)) (.inr (by decide)) h rfl (st_ms st)⟩
set_option maxHeartbeats 4000000 in
theorem stepM_down3 {o : OP} {z : MZ} (hp : PWf P) (hfz : P.armed = true → -1000000001000 ≤ P.fuse ∧ P.fuse ≤ 9223372036854775807) (h : MI w0 P z) (ho : o.ok w0) (hk : o.kind = 3) (hd : P.down = true) (st : S0 w0 (mds bq P z l) w) :
    Calls Tryd.prog 15 #[.pointer (some ⟨bq, 0, none⟩), o.v] w (Ret (MPost w0 bq l P o)) := by
  unfold OP.v
  have e : stepP P o = (P, 3) := by unfold stepP; simp [hk]; unfold syncP; rw [hd]; rfl
  refine enter [.pointer (some ⟨bq, 0, none⟩), .agg #[.int .i64 o.kind, .int .i64 o.sct, .int .i64 o.cnt, .int .i64 o.cache, .slice o.dat.a o.dat.bs.length o.dat.c, .int .i64 o.after, .slice o.kp.a o.kp.bs.length o.kp.c, .int .i64 o.tear, .int .i64 o.tb]] Tryd.func15 rfl Tryd.ntmps15 rfl ?_
  show WC _ _ _ 292 [] [(0, .pointer (some ⟨bq, 0, none⟩)), (1, .agg #[.int .i64 o.kind, .int .i64 o.sct, .int .i64 o.cnt, .int .i64 o.cache, .slice o.dat.a o.dat.bs.length o.dat.c, .int .i64 o.after, .slice o.kp.a o.kp.bs.length o.kp.c, .int .i64 o.tear, .int .i64 o.tb])] _
  refine WC.seq fun K1223 hK1223 => ?_
  -- region 0
  refine WC.region ?_
  -- R0.0 3 := diskm.go:83 box
  first | refine WL.box (m := 9) (vs := [.int _ _, .int _ _, .int _ _, .int _ _, .slice _ _ _, .int _ _, .slice _ _ _, .int _ _, .int _ _]) st rfl rfl rfl rfl rfl rfl ?_ | refine WL.box (m := 9) (vs := [_, _, _, _, _, _, _, _, _]) st rfl rfl rfl rfl rfl rfl ?_ | refine WL.box st rfl rfl rfl rfl rfl rfl ?_
  intro b3 w st
  -- R0.1 4 := diskm.go:83 alloc
  refine WL.alloc (m := 2) st ty_zero37 rfl rfl rfl ?_
  intro b4 w st
  refine WL.fin hK1223 (fun _ _ h => h) ?_
  refine WC.seq fun K1224 hK1224 => ?_
  refine WC.seq fun K1225 hK1225 => ?_
  -- region 1
  refine WC.region ?_
  -- R1.0 16 := diskm.go:84 fieldAddr
  refine WL.v (by exact r_field ty_fld33_0 rfl) rfl rfl rfl ?_
  -- R1.1 17 := diskm.go:84 load
  refine WL.v (by exact r_load1 ty_one28 rfl (by first | assumption | exact st.c0 (by first | decide | omega) | exact st.c1 (by first | decide | omega) | exact st.c2 (by first | decide | omega) | exact st.c3 (by first | decide | omega) | exact st.c4 (by first | decide | omega) | exact st.c5 (by first | decide | omega) | exact st.c6 (by first | decide | omega) | exact st.c7 (by first | decide | omega) | exact st.c8 (by first | decide | omega))) rfl rfl rfl ?_
  refine WL.fin hK1225 (fun _ _ h => h) ?_
  refine WC.block ?_
  refine WC.seq fun K1226 hK1226 => ?_
  -- region 3
  refine WC.region ?_
  -- R3.0 20 := diskm.go:85 binOp
  refine WL.v (by first | exact r_eql rfl rfl (decide_eq_true (by omega)) | exact r_eql rfl rfl (decide_eq_false (by omega)) | exact r_eql rfl rfl rfl) rfl rfl rfl ?_
  -- R3.1 19 := diskm.go:85 assign
  refine WL.v (by first | exact r_assign (v := .bool _) rfl | exact r_assign rfl) rfl rfl rfl ?_
  refine WL.fin hK1226 (fun _ _ h => h) ?_
  refine WC.condF rfl rfl ?_
  refine WC.seq fun K1227 hK1227 => ?_
  -- region 13
  refine WC.region ?_
  -- R13.0 52 := diskm.go:98 binOp
  refine WL.v (by first | exact r_eql rfl rfl (decide_eq_true (by omega)) | exact r_eql rfl rfl (decide_eq_false (by omega)) | exact r_eql rfl rfl rfl) rfl rfl rfl ?_
  -- R13.1 51 := diskm.go:98 assign
  refine WL.v (by first | exact r_assign (v := .bool _) rfl | exact r_assign rfl) rfl rfl rfl ?_
  refine WL.fin hK1227 (fun _ _ h => h) ?_
  refine WC.condF rfl rfl ?_
  refine WC.seq fun K1228 hK1228 => ?_
  -- region 24
  refine WC.region ?_
  -- R24.0 82 := diskm.go:110 binOp
  refine WL.v (by first | exact r_eql rfl rfl (decide_eq_true (by omega)) | exact r_eql rfl rfl (decide_eq_false (by omega)) | exact r_eql rfl rfl rfl) rfl rfl rfl ?_
  -- R24.1 81 := diskm.go:110 assign
  refine WL.v (by first | exact r_assign (v := .bool _) rfl | exact r_assign rfl) rfl rfl rfl ?_
  refine WL.fin hK1228 (fun _ _ h => h) ?_
  refine WC.condF rfl rfl ?_
  refine WC.seq fun K1229 hK1229 => ?_
  refine WC.seq fun K1230 hK1230 => ?_
  -- region 29
  refine WC.region ?_
  -- R29.0 94 := diskm.go:116 binOp
  refine WL.v (by first | exact r_eql rfl rfl (decide_eq_true (by omega)) | exact r_eql rfl rfl (decide_eq_false (by omega)) | exact r_eql rfl rfl rfl) rfl rfl rfl ?_
  -- R29.1 93 := diskm.go:116 assign
  refine WL.v (by first | exact r_assign (v := .bool _) rfl | exact r_assign rfl) rfl rfl rfl ?_
  refine WL.fin hK1230 (fun _ _ h => h) ?_
  refine WC.condF rfl rfl ?_
  refine WC.seq fun K1231 hK1231 => ?_
  -- region 30
  refine WC.region ?_
  -- R30.0 95 := diskm.go:116 binOp
  refine WL.v (by first | exact r_eql rfl rfl (decide_eq_true (by omega)) | exact r_eql rfl rfl (decide_eq_false (by omega)) | exact r_eql rfl rfl rfl) rfl rfl rfl ?_
  -- R30.1 93 := diskm.go:116 assign
  refine WL.v (by first | exact r_assign (v := .bool _) rfl | exact r_assign rfl) rfl rfl rfl ?_
  refine WL.fin hK1231 (fun _ _ h => h) ?_
  refine WC.condF rfl rfl ?_
  refine WC.seq fun K1232 hK1232 => ?_
  -- region 31
  refine WC.region ?_
  -- R31.0 96 := diskm.go:116 binOp
  refine WL.v (by first | exact r_eql rfl rfl (decide_eq_true (by omega)) | exact r_eql rfl rfl (decide_eq_false (by omega)) | exact r_eql rfl rfl rfl) rfl rfl rfl ?_
  -- R31.1 93 := diskm.go:116 assign
  refine WL.v (by first | exact r_assign (v := .bool _) rfl | exact r_assign rfl) rfl rfl rfl ?_
  refine WL.fin hK1232 (fun _ _ h => h) ?_
  refine WC.condT rfl rfl ?_
  refine WC.skipF hK1229 (fun _ _ h => h) ?_
  refine WC.condT rfl rfl ?_
  refine WC.seq fun K1233 hK1233 => ?_
  -- region 35
  refine WC.region ?_
  -- R35.0 100 := diskm.go:117 move
  refine WL.v (by first | exact r_move (v := .pointer _) rfl | exact r_move rfl) rfl rfl rfl ?_
  -- R35.1 101 := diskm.go:117 nilCheck
  refine WL.v (by exact r_nilCheck rfl) rfl rfl rfl ?_
  -- R35.2 102 := diskm.go:117 fieldAddr
  refine WL.v (by exact r_field ty_fld48_4 rfl) rfl rfl rfl ?_
  -- R35.3 103 := diskm.go:117 load
  refine WL.v (by exact r_load1 (v := .bool true) ty_one4 rfl (by rw [← hd]; exact st.c2 (by decide))) rfl rfl rfl ?_
  refine WL.fin hK1233 (fun _ _ h => h) ?_
  refine WC.condT rfl rfl ?_
  refine WC.seq fun K1234 hK1234 => ?_
  -- region 36
  refine WC.region ?_
  -- R36.0 104 := diskm.go:118 build
  refine WL.v (by exact r_build (ps := [(0, .int _ _)]) (vs := [_, _]) ty_pl37 ty_zero37 rfl (fill_step (pv := [_]) (cs' := [_, _]) rfl rfl rfl rfl (fill_nil))) rfl rfl rfl ?_
  -- R36.1 None := diskm.go:118 store
  first | refine WL.storeW (vs := [_, _]) st ty_agg37 rfl rfl rfl rfl rfl rfl ?_ | refine WL.storeL (vs := [_, _]) st ty_agg37 rfl rfl rfl rfl (by first | decide | omega) rfl rfl ?_ | refine WL.storeW (vs := [_, _]) st.front1 ty_agg37 rfl rfl rfl rfl rfl rfl ?_ | refine WL.storeL (vs := [_, _]) st.front1 ty_agg37 rfl rfl rfl rfl (by first | decide | omega) rfl rfl ?_ | refine WL.storeW (vs := [_, _]) st.front2 ty_agg37 rfl rfl rfl rfl rfl rfl ?_ | refine WL.storeL (vs := [_, _]) st.front2 ty_agg37 rfl rfl rfl rfl (by first | decide | omega) rfl rfl ?_ | refine WL.storeW (vs := [_, _]) st.front3 ty_agg37 rfl rfl rfl rfl rfl rfl ?_ | refine WL.storeL (vs := [_, _]) st.front3 ty_agg37 rfl rfl rfl rfl (by first | decide | omega) rfl rfl ?_ | refine WL.storeW (vs := [_, _]) st.front4 ty_agg37 rfl rfl rfl rfl rfl rfl ?_ | refine WL.storeL (vs := [_, _]) st.front4 ty_agg37 rfl rfl rfl rfl (by first | decide | omega) rfl rfl ?_ | refine WL.storeW (vs := [_, _]) st.front5 ty_agg37 rfl rfl rfl rfl rfl rfl ?_ | refine WL.storeL (vs := [_, _]) st.front5 ty_agg37 rfl rfl rfl rfl (by first | decide | omega) rfl rfl ?_ | refine WL.storeW (vs := [_, _]) st.front6 ty_agg37 rfl rfl rfl rfl rfl rfl ?_ | refine WL.storeL (vs := [_, _]) st.front6 ty_agg37 rfl rfl rfl rfl (by first | decide | omega) rfl rfl ?_ | refine WL.storeW (vs := [_, _]) st.front7 ty_agg37 rfl rfl rfl rfl rfl rfl ?_ | refine WL.storeL (vs := [_, _]) st.front7 ty_agg37 rfl rfl rfl rfl (by first | decide | omega) rfl rfl ?_ | refine WL.storeW (vs := [_, _]) st.front8 ty_agg37 rfl rfl rfl rfl rfl rfl ?_ | refine WL.storeL (vs := [_, _]) st.front8 ty_agg37 rfl rfl rfl rfl (by first | decide | omega) rfl rfl ?_
  intro w st
  refine WL.fin hK1234 (fun _ _ h => h) ?_
  refine WC.retC (vs := [_, _]) Tryd.results15 (fun _ _ h => h) rfl ty_agg37 rfl ⟨(by first | assumption | exact st.c0 (by first | decide | omega) | exact st.c1 (by first | decide | omega) | exact st.c2 (by first | decide | omega) | exact st.c3 (by first | decide | omega) | exact st.c4 (by first | decide | omega) | exact st.c5 (by first | decide | omega) | exact st.c6 (by first | decide | omega) | exact st.c7 (by first | decide | omega) | exact st.c8 (by first | decide | omega)), (by first | assumption | exact st.c0 (by first | decide | omega) | exact st.c1 (by first | decide | omega) | exact st.c2 (by first | decide | omega) | exact st.c3 (by first | decide | omega) | exact st.c4 (by first | decide | omega) | exact st.c5 (by first | decide | omega) | exact st.c6 (by first | decide | omega) | exact st.c7 (by first | decide | omega) | exact st.c8 (by first | decide | omega)), trivial⟩ ?_
  exact ⟨_, rfl, MPost.none e (.inr (by decide)) (.inr (by decide)) h rfl (st_ms st)⟩
set_option maxHeartbeats 4000000 in
theorem stepM_down4 {o : OP} {z : MZ} (hp : PWf P) (hfz : P.armed = true → -1000000001000 ≤ P.fuse ∧ P.fuse ≤ 9223372036854775807) (h : MI w0 P z) (ho : o.ok w0) (hk : o.kind = 4) (hd : P.down = true) (st : S0 w0 (mds bq P z l) w) :
    Calls Tryd.prog 15 #[.pointer (some ⟨bq, 0, none⟩), o.v] w (Ret (MPost w0 bq l P o)) := by
  unfold OP.v
  have e : stepP P o = (P, 3) := by unfold stepP; simp [hk]; unfold crashCP; rw [hd]; rfl
  refine enter [.pointer (some ⟨bq, 0, none⟩), .agg #[.int .i64 o.kind, .int .i64 o.sct, .int .i64 o.cnt, .int .i64 o.cache, .slice o.dat.a o.dat.bs.length o.dat.c, .int .i64 o.after, .slice o.kp.a o.kp.bs.length o.kp.c, .int .i64 o.tear, .int .i64 o.tb]] Tryd.func15 rfl Tryd.ntmps15 rfl ?_
  show WC _ _ _ 292 [] [(0, .pointer (some ⟨bq, 0, none⟩)), (1, .agg #[.int .i64 o.kind, .int .i64 o.sct, .int .i64 o.cnt, .int .i64 o.cache, .slice o.dat.a o.dat.bs.length o.dat.c, .int .i64 o.after, .slice o.kp.a o.kp.bs.length o.kp.c, .int .i64 o.tear, .int .i64 o.tb])] _
  refine WC.seq fun K1235 hK1235 => ?_
  -- region 0
  refine WC.region ?_
  -- R0.0 3 := diskm.go:83 box
  first | refine WL.box (m := 9) (vs := [.int _ _, .int _ _, .int _ _, .int _ _, .slice _ _ _, .int _ _, .slice _ _ _, .int _ _, .int _ _]) st rfl rfl rfl rfl rfl rfl ?_ | refine WL.box (m := 9) (vs := [_, _, _, _, _, _, _, _, _]) st rfl rfl rfl rfl rfl rfl ?_ | refine WL.box st rfl rfl rfl rfl rfl rfl ?_
  intro b3 w st
  -- R0.1 4 := diskm.go:83 alloc
  refine WL.alloc (m := 2) st ty_zero37 rfl rfl rfl ?_
  intro b4 w st
  refine WL.fin hK1235 (fun _ _ h => h) ?_
  refine WC.seq fun K1236 hK1236 => ?_
  refine WC.seq fun K1237 hK1237 => ?_
  -- region 1
  refine WC.region ?_
  -- R1.0 16 := diskm.go:84 fieldAddr
  refine WL.v (by exact r_field ty_fld33_0 rfl) rfl rfl rfl ?_
  -- R1.1 17 := diskm.go:84 load
  refine WL.v (by exact r_load1 ty_one28 rfl (by first | assumption | exact st.c0 (by first | decide | omega) | exact st.c1 (by first | decide | omega) | exact st.c2 (by first | decide | omega) | exact st.c3 (by first | decide | omega) | exact st.c4 (by first | decide | omega) | exact st.c5 (by first | decide | omega) | exact st.c6 (by first | decide | omega) | exact st.c7 (by first | decide | omega) | exact st.c8 (by first | decide | omega))) rfl rfl rfl ?_
  refine WL.fin hK1237 (fun _ _ h => h) ?_
  refine WC.block ?_
  refine WC.seq fun K1238 hK1238 => ?_
  -- region 3
  refine WC.region ?_
  -- R3.0 20 := diskm.go:85 binOp
  refine WL.v (by first | exact r_eql rfl rfl (decide_eq_true (by omega)) | exact r_eql rfl rfl (decide_eq_false (by omega)) | exact r_eql rfl rfl rfl) rfl rfl rfl ?_
  -- R3.1 19 := diskm.go:85 assign
  refine WL.v (by first | exact r_assign (v := .bool _) rfl | exact r_assign rfl) rfl rfl rfl ?_
  refine WL.fin hK1238 (fun _ _ h => h) ?_
  refine WC.condF rfl rfl ?_
  refine WC.seq fun K1239 hK1239 => ?_
  -- region 13
  refine WC.region ?_
  -- R13.0 52 := diskm.go:98 binOp
  refine WL.v (by first | exact r_eql rfl rfl (decide_eq_true (by omega)) | exact r_eql rfl rfl (decide_eq_false (by omega)) | exact r_eql rfl rfl rfl) rfl rfl rfl ?_
  -- R13.1 51 := diskm.go:98 assign
  refine WL.v (by first | exact r_assign (v := .bool _) rfl | exact r_assign rfl) rfl rfl rfl ?_
  refine WL.fin hK1239 (fun _ _ h => h) ?_
  refine WC.condF rfl rfl ?_
  refine WC.seq fun K1240 hK1240 => ?_
  -- region 24
  refine WC.region ?_
  -- R24.0 82 := diskm.go:110 binOp
  refine WL.v (by first | exact r_eql rfl rfl (decide_eq_true (by omega)) | exact r_eql rfl rfl (decide_eq_false (by omega)) | exact r_eql rfl rfl rfl) rfl rfl rfl ?_
  -- R24.1 81 := diskm.go:110 assign
  refine WL.v (by first | exact r_assign (v := .bool _) rfl | exact r_assign rfl) rfl rfl rfl ?_
  refine WL.fin hK1240 (fun _ _ h => h) ?_
  refine WC.condF rfl rfl ?_
  refine WC.seq fun K1241 hK1241 => ?_
  refine WC.seq fun K1242 hK1242 => ?_
  -- region 29
  refine WC.region ?_
  -- R29.0 94 := diskm.go:116 binOp
  refine WL.v (by first | exact r_eql rfl rfl (decide_eq_true (by omega)) | exact r_eql rfl rfl (decide_eq_false (by omega)) | exact r_eql rfl rfl rfl) rfl rfl rfl ?_
  -- R29.1 93 := diskm.go:116 assign
  refine WL.v (by first | exact r_assign (v := .bool _) rfl | exact r_assign rfl) rfl rfl rfl ?_
  refine WL.fin hK1242 (fun _ _ h => h) ?_
  refine WC.condF rfl rfl ?_
  refine WC.seq fun K1243 hK1243 => ?_
  -- region 30
  refine WC.region ?_
  -- R30.0 95 := diskm.go:116 binOp
  refine WL.v (by first | exact r_eql rfl rfl (decide_eq_true (by omega)) | exact r_eql rfl rfl (decide_eq_false (by omega)) | exact r_eql rfl rfl rfl) rfl rfl rfl ?_
  -- R30.1 93 := diskm.go:116 assign
  refine WL.v (by first | exact r_assign (v := .bool _) rfl | exact r_assign rfl) rfl rfl rfl ?_
  refine WL.fin hK1243 (fun _ _ h => h) ?_
  refine WC.condF rfl rfl ?_
  refine WC.seq fun K1244 hK1244 => ?_
  -- region 31
  refine WC.region ?_
  -- R31.0 96 := diskm.go:116 binOp
  refine WL.v (by first | exact r_eql rfl rfl (decide_eq_true (by omega)) | exact r_eql rfl rfl (decide_eq_false (by omega)) | exact r_eql rfl rfl rfl) rfl rfl rfl ?_
  -- R31.1 93 := diskm.go:116 assign
  refine WL.v (by first | exact r_assign (v := .bool _) rfl | exact r_assign rfl) rfl rfl rfl ?_
  refine WL.fin hK1244 (fun _ _ h => h) ?_
  refine WC.condF rfl rfl ?_
  refine WC.seq fun K1245 hK1245 => ?_
  -- region 32
  refine WC.region ?_
  -- R32.0 97 := diskm.go:116 binOp
  refine WL.v (by first | exact r_eql rfl rfl (decide_eq_true (by omega)) | exact r_eql rfl rfl (decide_eq_false (by omega)) | exact r_eql rfl rfl rfl) rfl rfl rfl ?_
  -- R32.1 93 := diskm.go:116 assign
  refine WL.v (by first | exact r_assign (v := .bool _) rfl | exact r_assign rfl) rfl rfl rfl ?_
  refine WL.fin hK1245 (fun _ _ h => h) ?_
  refine WC.condT rfl rfl ?_
  refine WC.skipF hK1241 (fun _ _ h => h) ?_
  refine WC.condT rfl rfl ?_
  refine WC.seq fun K1246 hK1246 => ?_
  -- region 35
  refine WC.region ?_
  -- R35.0 100 := diskm.go:117 move
  refine WL.v (by first | exact r_move (v := .pointer _) rfl | exact r_move rfl) rfl rfl rfl ?_
  -- R35.1 101 := diskm.go:117 nilCheck
  refine WL.v (by exact r_nilCheck rfl) rfl rfl rfl ?_
  -- R35.2 102 := diskm.go:117 fieldAddr
  refine WL.v (by exact r_field ty_fld48_4 rfl) rfl rfl rfl ?_
  -- R35.3 103 := diskm.go:117 load
  refine WL.v (by exact r_load1 (v := .bool true) ty_one4 rfl (by rw [← hd]; exact st.c2 (by decide))) rfl rfl rfl ?_
  refine WL.fin hK1246 (fun _ _ h => h) ?_
  refine WC.condT rfl rfl ?_
  refine WC.seq fun K1247 hK1247 => ?_
  -- region 36
  refine WC.region ?_
  -- R36.0 104 := diskm.go:118 build
  refine WL.v (by exact r_build (ps := [(0, .int _ _)]) (vs := [_, _]) ty_pl37 ty_zero37 rfl (fill_step (pv := [_]) (cs' := [_, _]) rfl rfl rfl rfl (fill_nil))) rfl rfl rfl ?_
  -- R36.1 None := diskm.go:118 store
  first | refine WL.storeW (vs := [_, _]) st ty_agg37 rfl rfl rfl rfl rfl rfl ?_ | refine WL.storeL (vs := [_, _]) st ty_agg37 rfl rfl rfl rfl (by first | decide | omega) rfl rfl ?_ | refine WL.storeW (vs := [_, _]) st.front1 ty_agg37 rfl rfl rfl rfl rfl rfl ?_ | refine WL.storeL (vs := [_, _]) st.front1 ty_agg37 rfl rfl rfl rfl (by first | decide | omega) rfl rfl ?_ | refine WL.storeW (vs := [_, _]) st.front2 ty_agg37 rfl rfl rfl rfl rfl rfl ?_ | refine WL.storeL (vs := [_, _]) st.front2 ty_agg37 rfl rfl rfl rfl (by first | decide | omega) rfl rfl ?_ | refine WL.storeW (vs := [_, _]) st.front3 ty_agg37 rfl rfl rfl rfl rfl rfl ?_ | refine WL.storeL (vs := [_, _]) st.front3 ty_agg37 rfl rfl rfl rfl (by first | decide | omega) rfl rfl ?_ | refine WL.storeW (vs := [_, _]) st.front4 ty_agg37 rfl rfl rfl rfl rfl rfl ?_ | refine WL.storeL (vs := [_, _]) st.front4 ty_agg37 rfl rfl rfl rfl (by first | decide | omega) rfl rfl ?_ | refine WL.storeW (vs := [_, _]) st.front5 ty_agg37 rfl rfl rfl rfl rfl rfl ?_ | refine WL.storeL (vs := [_, _]) st.front5 ty_agg37 rfl rfl rfl rfl (by first | decide | omega) rfl rfl ?_ | refine WL.storeW (vs := [_, _]) st.front6 ty_agg37 rfl rfl rfl rfl rfl rfl ?_ | refine WL.storeL (vs := [_, _]) st.front6 ty_agg37 rfl rfl rfl rfl (by first | decide | omega) rfl rfl ?_ | refine WL.storeW (vs := [_, _]) st.front7 ty_agg37 rfl rfl rfl rfl rfl rfl ?_ | refine WL.storeL (vs := [_, _]) st.front7 ty_agg37 rfl rfl rfl rfl (by first | decide | omega) rfl rfl ?_ | refine WL.storeW (vs := [_, _]) st.front8 ty_agg37 rfl rfl rfl rfl rfl rfl ?_ | refine WL.storeL (vs := [_, _]) st.front8 ty_agg37 rfl rfl rfl rfl (by first | decide | omega) rfl rfl ?_
  intro w st
  refine WL.fin hK1247 (fun _ _ h => h) ?_
  refine WC.retC (vs := [_, _]) Tryd.results15 (fun _ _ h => h) rfl ty_agg37 rfl ⟨(by first | assumption | exact st.c0 (by first | decide | omega) | exact st.c1 (by first | decide | omega) | exact st.c2 (by first | decide | omega) | exact st.c3 (by first | decide | omega) | exact st.c4 (by first | decide | omega) | exact st.c5 (by first | decide | omega) | exact st.c6 (by first | decide | omega) | exact st.c7 (by first | decide | omega) | exact st.c8 (by first | decide | omega)), (by first | assumption | exact st.c0 (by first | decide | omega) | exact st.c1 (by first | decide | omega) | exact st.c2 (by first | decide | omega) | exact st.c3 (by first | decide | omega) | exact st.c4 (by first | decide | omega) | exact st.c5 (by first | decide | omega) | exact st.c6 (by first | decide | omega) | exact st.c7 (by first | decide | omega) | exact st.c8 (by first | decide | omega)), trivial⟩ ?_
  exact ⟨_, rfl, MPost.none e (.inr (by decide)) (.inr (by decide)) h rfl (st_ms st)⟩
set_option maxHeartbeats 4000000 in
theorem stepM_down5 {o : OP} {z : MZ} (hp : PWf P) (hfz : P.armed = true → -1000000001000 ≤ P.fuse ∧ P.fuse ≤ 9223372036854775807) (h : MI w0 P z) (ho : o.ok w0) (hk : o.kind = 5) (hd : P.down = true) (st : S0 w0 (mds bq P z l) w) :
    Calls Tryd.prog 15 #[.pointer (some ⟨bq, 0, none⟩), o.v] w (Ret (MPost w0 bq l P o)) := by
  unfold OP.v
  have e : stepP P o = (P, 3) := by unfold stepP; simp [hk]; unfold armP; rw [hd]; rfl
  refine enter [.pointer (some ⟨bq, 0, none⟩), .agg #[.int .i64 o.kind, .int .i64 o.sct, .int .i64 o.cnt, .int .i64 o.cache, .slice o.dat.a o.dat.bs.length o.dat.c, .int .i64 o.after, .slice o.kp.a o.kp.bs.length o.kp.c, .int .i64 o.tear, .int .i64 o.tb]] Tryd.func15 rfl Tryd.ntmps15 rfl ?_
  show WC _ _ _ 292 [] [(0, .pointer (some ⟨bq, 0, none⟩)), (1, .agg #[.int .i64 o.kind, .int .i64 o.sct, .int .i64 o.cnt, .int .i64 o.cache, .slice o.dat.a o.dat.bs.length o.dat.c, .int .i64 o.after, .slice o.kp.a o.kp.bs.length o.kp.c, .int .i64 o.tear, .int .i64 o.tb])] _
  refine WC.seq fun K1248 hK1248 => ?_
  -- region 0
  refine WC.region ?_
  -- R0.0 3 := diskm.go:83 box
  first | refine WL.box (m := 9) (vs := [.int _ _, .int _ _, .int _ _, .int _ _, .slice _ _ _, .int _ _, .slice _ _ _, .int _ _, .int _ _]) st rfl rfl rfl rfl rfl rfl ?_ | refine WL.box (m := 9) (vs := [_, _, _, _, _, _, _, _, _]) st rfl rfl rfl rfl rfl rfl ?_ | refine WL.box st rfl rfl rfl rfl rfl rfl ?_
  intro b3 w st
  -- R0.1 4 := diskm.go:83 alloc
  refine WL.alloc (m := 2) st ty_zero37 rfl rfl rfl ?_
  intro b4 w st
  refine WL.fin hK1248 (fun _ _ h => h) ?_
  refine WC.seq fun K1249 hK1249 => ?_
  refine WC.seq fun K1250 hK1250 => ?_
  -- region 1
  refine WC.region ?_
  -- R1.0 16 := diskm.go:84 fieldAddr
  refine WL.v (by exact r_field ty_fld33_0 rfl) rfl rfl rfl ?_
  -- R1.1 17 := diskm.go:84 load
  refine WL.v (by exact r_load1 ty_one28 rfl (by first | assumption | exact st.c0 (by first | decide | omega) | exact st.c1 (by first | decide | omega) | exact st.c2 (by first | decide | omega) | exact st.c3 (by first | decide | omega) | exact st.c4 (by first | decide | omega) | exact st.c5 (by first | decide | omega) | exact st.c6 (by first | decide | omega) | exact st.c7 (by first | decide | omega) | exact st.c8 (by first | decide | omega))) rfl rfl rfl ?_
  refine WL.fin hK1250 (fun _ _ h => h) ?_
  refine WC.block ?_
  refine WC.seq fun K1251 hK1251 => ?_
  -- region 3
  refine WC.region ?_
  -- R3.0 20 := diskm.go:85 binOp
  refine WL.v (by first | exact r_eql rfl rfl (decide_eq_true (by omega)) | exact r_eql rfl rfl (decide_eq_false (by omega)) | exact r_eql rfl rfl rfl) rfl rfl rfl ?_
  -- R3.1 19 := diskm.go:85 assign
  refine WL.v (by first | exact r_assign (v := .bool _) rfl | exact r_assign rfl) rfl rfl rfl ?_
  refine WL.fin hK1251 (fun _ _ h => h) ?_
  refine WC.condF rfl rfl ?_
  refine WC.seq fun K1252 hK1252 => ?_
  -- region 13
  refine WC.region ?_
  -- R13.0 52 := diskm.go:98 binOp
  refine WL.v (by first | exact r_eql rfl rfl (decide_eq_true (by omega)) | exact r_eql rfl rfl (decide_eq_false (by omega)) | exact r_eql rfl rfl rfl) rfl rfl rfl ?_
  -- R13.1 51 := diskm.go:98 assign
  refine WL.v (by first | exact r_assign (v := .bool _) rfl | exact r_assign rfl) rfl rfl rfl ?_
  refine WL.fin hK1252 (fun _ _ h => h) ?_
  refine WC.condF rfl rfl ?_
  refine WC.seq fun K1253 hK1253 => ?_
  -- region 24
  refine WC.region ?_
  -- R24.0 82 := diskm.go:110 binOp
  refine WL.v (by first | exact r_eql rfl rfl (decide_eq_true (by omega)) | exact r_eql rfl rfl (decide_eq_false (by omega)) | exact r_eql rfl rfl rfl) rfl rfl rfl ?_
  -- R24.1 81 := diskm.go:110 assign
  refine WL.v (by first | exact r_assign (v := .bool _) rfl | exact r_assign rfl) rfl rfl rfl ?_
  refine WL.fin hK1253 (fun _ _ h => h) ?_
  refine WC.condF rfl rfl ?_
  refine WC.seq fun K1254 hK1254 => ?_
  refine WC.seq fun K1255 hK1255 => ?_
  -- region 29
  refine WC.region ?_
  -- R29.0 94 := diskm.go:116 binOp
  refine WL.v (by first | exact r_eql rfl rfl (decide_eq_true (by omega)) | exact r_eql rfl rfl (decide_eq_false (by omega)) | exact r_eql rfl rfl rfl) rfl rfl rfl ?_
  -- R29.1 93 := diskm.go:116 assign
  refine WL.v (by first | exact r_assign (v := .bool _) rfl | exact r_assign rfl) rfl rfl rfl ?_
  refine WL.fin hK1255 (fun _ _ h => h) ?_
  refine WC.condF rfl rfl ?_
  refine WC.seq fun K1256 hK1256 => ?_
  -- region 30
  refine WC.region ?_
  -- R30.0 95 := diskm.go:116 binOp
  refine WL.v (by first | exact r_eql rfl rfl (decide_eq_true (by omega)) | exact r_eql rfl rfl (decide_eq_false (by omega)) | exact r_eql rfl rfl rfl) rfl rfl rfl ?_
  -- R30.1 93 := diskm.go:116 assign
  refine WL.v (by first | exact r_assign (v := .bool _) rfl | exact r_assign rfl) rfl rfl rfl ?_
  refine WL.fin hK1256 (fun _ _ h => h) ?_
  refine WC.condF rfl rfl ?_
  refine WC.seq fun K1257 hK1257 => ?_
  -- region 31
  refine WC.region ?_
  -- R31.0 96 := diskm.go:116 binOp
  refine WL.v (by first | exact r_eql rfl rfl (decide_eq_true (by omega)) | exact r_eql rfl rfl (decide_eq_false (by omega)) | exact r_eql rfl rfl rfl) rfl rfl rfl ?_
  -- R31.1 93 := diskm.go:116 assign
  refine WL.v (by first | exact r_assign (v := .bool _) rfl | exact r_assign rfl) rfl rfl rfl ?_
  refine WL.fin hK1257 (fun _ _ h => h) ?_
  refine WC.condF rfl rfl ?_
  refine WC.seq fun K1258 hK1258 => ?_
  -- region 32
  refine WC.region ?_
  -- R32.0 97 := diskm.go:116 binOp
  refine WL.v (by first | exact r_eql rfl rfl (decide_eq_true (by omega)) | exact r_eql rfl rfl (decide_eq_false (by omega)) | exact r_eql rfl rfl rfl) rfl rfl rfl ?_
  -- R32.1 93 := diskm.go:116 assign
  refine WL.v (by first | exact r_assign (v := .bool _) rfl | exact r_assign rfl) rfl rfl rfl ?_
  refine WL.fin hK1258 (fun _ _ h => h) ?_
  refine WC.condF rfl rfl ?_
  refine WC.seq fun K1259 hK1259 => ?_
  -- region 33
  refine WC.region ?_
  -- R33.0 98 := diskm.go:116 binOp
  refine WL.v (by first | exact r_eql rfl rfl (decide_eq_true (by omega)) | exact r_eql rfl rfl (decide_eq_false (by omega)) | exact r_eql rfl rfl rfl) rfl rfl rfl ?_
  -- R33.1 93 := diskm.go:116 assign
  refine WL.v (by first | exact r_assign (v := .bool _) rfl | exact r_assign rfl) rfl rfl rfl ?_
  refine WL.fin hK1259 (fun _ _ h => h) ?_
  refine WC.condT rfl rfl ?_
  refine WC.skipF hK1254 (fun _ _ h => h) ?_
  refine WC.condT rfl rfl ?_
  refine WC.seq fun K1260 hK1260 => ?_
  -- region 35
  refine WC.region ?_
  -- R35.0 100 := diskm.go:117 move
  refine WL.v (by first | exact r_move (v := .pointer _) rfl | exact r_move rfl) rfl rfl rfl ?_
  -- R35.1 101 := diskm.go:117 nilCheck
  refine WL.v (by exact r_nilCheck rfl) rfl rfl rfl ?_
  -- R35.2 102 := diskm.go:117 fieldAddr
  refine WL.v (by exact r_field ty_fld48_4 rfl) rfl rfl rfl ?_
  -- R35.3 103 := diskm.go:117 load
  refine WL.v (by exact r_load1 (v := .bool true) ty_one4 rfl (by rw [← hd]; exact st.c2 (by decide))) rfl rfl rfl ?_
  refine WL.fin hK1260 (fun _ _ h => h) ?_
  refine WC.condT rfl rfl ?_
  refine WC.seq fun K1261 hK1261 => ?_
  -- region 36
  refine WC.region ?_
  -- R36.0 104 := diskm.go:118 build
  refine WL.v (by exact r_build (ps := [(0, .int _ _)]) (vs := [_, _]) ty_pl37 ty_zero37 rfl (fill_step (pv := [_]) (cs' := [_, _]) rfl rfl rfl rfl (fill_nil))) rfl rfl rfl ?_
  -- R36.1 None := diskm.go:118 store
  first | refine WL.storeW (vs := [_, _]) st ty_agg37 rfl rfl rfl rfl rfl rfl ?_ | refine WL.storeL (vs := [_, _]) st ty_agg37 rfl rfl rfl rfl (by first | decide | omega) rfl rfl ?_ | refine WL.storeW (vs := [_, _]) st.front1 ty_agg37 rfl rfl rfl rfl rfl rfl ?_ | refine WL.storeL (vs := [_, _]) st.front1 ty_agg37 rfl rfl rfl rfl (by first | decide | omega) rfl rfl ?_ | refine WL.storeW (vs := [_, _]) st.front2 ty_agg37 rfl rfl rfl rfl rfl rfl ?_ | refine WL.storeL (vs := [_, _]) st.front2 ty_agg37 rfl rfl rfl rfl (by first | decide | omega) rfl rfl ?_ | refine WL.storeW (vs := [_, _]) st.front3 ty_agg37 rfl rfl rfl rfl rfl rfl ?_ | refine WL.storeL (vs := [_, _]) st.front3 ty_agg37 rfl rfl rfl rfl (by first | decide | omega) rfl rfl ?_ | refine WL.storeW (vs := [_, _]) st.front4 ty_agg37 rfl rfl rfl rfl rfl rfl ?_ | refine WL.storeL (vs := [_, _]) st.front4 ty_agg37 rfl rfl rfl rfl (by first | decide | omega) rfl rfl ?_ | refine WL.storeW (vs := [_, _]) st.front5 ty_agg37 rfl rfl rfl rfl rfl rfl ?_ | refine WL.storeL (vs := [_, _]) st.front5 ty_agg37 rfl rfl rfl rfl (by first | decide | omega) rfl rfl ?_ | refine WL.storeW (vs := [_, _]) st.front6 ty_agg37 rfl rfl rfl rfl rfl rfl ?_ | refine WL.storeL (vs := [_, _]) st.front6 ty_agg37 rfl rfl rfl rfl (by first | decide | omega) rfl rfl ?_ | refine WL.storeW (vs := [_, _]) st.front7 ty_agg37 rfl rfl rfl rfl rfl rfl ?_ | refine WL.storeL (vs := [_, _]) st.front7 ty_agg37 rfl rfl rfl rfl (by first | decide | omega) rfl rfl ?_ | refine WL.storeW (vs := [_, _]) st.front8 ty_agg37 rfl rfl rfl rfl rfl rfl ?_ | refine WL.storeL (vs := [_, _]) st.front8 ty_agg37 rfl rfl rfl rfl (by first | decide | omega) rfl rfl ?_
  intro w st
  refine WL.fin hK1261 (fun _ _ h => h) ?_
  refine WC.retC (vs := [_, _]) Tryd.results15 (fun _ _ h => h) rfl ty_agg37 rfl ⟨(by first | assumption | exact st.c0 (by first | decide | omega) | exact st.c1 (by first | decide | omega) | exact st.c2 (by first | decide | omega) | exact st.c3 (by first | decide | omega) | exact st.c4 (by first | decide | omega) | exact st.c5 (by first | decide | omega) | exact st.c6 (by first | decide | omega) | exact st.c7 (by first | decide | omega) | exact st.c8 (by first | decide | omega)), (by first | assumption | exact st.c0 (by first | decide | omega) | exact st.c1 (by first | decide | omega) | exact st.c2 (by first | decide | omega) | exact st.c3 (by first | decide | omega) | exact st.c4 (by first | decide | omega) | exact st.c5 (by first | decide | omega) | exact st.c6 (by first | decide | omega) | exact st.c7 (by first | decide | omega) | exact st.c8 (by first | decide | omega)), trivial⟩ ?_
  exact ⟨_, rfl, MPost.none e (.inr (by decide)) (.inr (by decide)) h rfl (st_ms st)⟩
set_option maxHeartbeats 4000000 in
theorem stepM_down6 {o : OP} {z : MZ} (hp : PWf P) (hfz : P.armed = true → -1000000001000 ≤ P.fuse ∧ P.fuse ≤ 9223372036854775807) (h : MI w0 P z) (ho : o.ok w0) (hk : o.kind = 6) (hd : P.down = true) (st : S0 w0 (mds bq P z l) w) :
    Calls Tryd.prog 15 #[.pointer (some ⟨bq, 0, none⟩), o.v] w (Ret (MPost w0 bq l P o)) := by
  unfold OP.v
  have e : stepP P o = (P, 3) := by unfold stepP; simp [hk]; unfold disarmP; rw [hd]; rfl
  refine enter [.pointer (some ⟨bq, 0, none⟩), .agg #[.int .i64 o.kind, .int .i64 o.sct, .int .i64 o.cnt, .int .i64 o.cache, .slice o.dat.a o.dat.bs.length o.dat.c, .int .i64 o.after, .slice o.kp.a o.kp.bs.length o.kp.c, .int .i64 o.tear, .int .i64 o.tb]] Tryd.func15 rfl Tryd.ntmps15 rfl ?_
  show WC _ _ _ 292 [] [(0, .pointer (some ⟨bq, 0, none⟩)), (1, .agg #[.int .i64 o.kind, .int .i64 o.sct, .int .i64 o.cnt, .int .i64 o.cache, .slice o.dat.a o.dat.bs.length o.dat.c, .int .i64 o.after, .slice o.kp.a o.kp.bs.length o.kp.c, .int .i64 o.tear, .int .i64 o.tb])] _
  refine WC.seq fun K1262 hK1262 => ?_
  -- region 0
  refine WC.region ?_
  -- R0.0 3 := diskm.go:83 box
  first | refine WL.box (m := 9) (vs := [.int _ _, .int _ _, .int _ _, .int _ _, .slice _ _ _, .int _ _, .slice _ _ _, .int _ _, .int _ _]) st rfl rfl rfl rfl rfl rfl ?_ | refine WL.box (m := 9) (vs := [_, _, _, _, _, _, _, _, _]) st rfl rfl rfl rfl rfl rfl ?_ | refine WL.box st rfl rfl rfl rfl rfl rfl ?_
  intro b3 w st
  -- R0.1 4 := diskm.go:83 alloc
  refine WL.alloc (m := 2) st ty_zero37 rfl rfl rfl ?_
  intro b4 w st
  refine WL.fin hK1262 (fun _ _ h => h) ?_
  refine WC.seq fun K1263 hK1263 => ?_
  refine WC.seq fun K1264 hK1264 => ?_
  -- region 1
  refine WC.region ?_
  -- R1.0 16 := diskm.go:84 fieldAddr
  refine WL.v (by exact r_field ty_fld33_0 rfl) rfl rfl rfl ?_
  -- R1.1 17 := diskm.go:84 load
  refine WL.v (by exact r_load1 ty_one28 rfl (by first | assumption | exact st.c0 (by first | decide | omega) | exact st.c1 (by first | decide | omega) | exact st.c2 (by first | decide | omega) | exact st.c3 (by first | decide | omega) | exact st.c4 (by first | decide | omega) | exact st.c5 (by first | decide | omega) | exact st.c6 (by first | decide | omega) | exact st.c7 (by first | decide | omega) | exact st.c8 (by first | decide | omega))) rfl rfl rfl ?_
  refine WL.fin hK1264 (fun _ _ h => h) ?_
  refine WC.block ?_
  refine WC.seq fun K1265 hK1265 => ?_
  -- region 3
  refine WC.region ?_
  -- R3.0 20 := diskm.go:85 binOp
  refine WL.v (by first | exact r_eql rfl rfl (decide_eq_true (by omega)) | exact r_eql rfl rfl (decide_eq_false (by omega)) | exact r_eql rfl rfl rfl) rfl rfl rfl ?_
  -- R3.1 19 := diskm.go:85 assign
  refine WL.v (by first | exact r_assign (v := .bool _) rfl | exact r_assign rfl) rfl rfl rfl ?_
  refine WL.fin hK1265 (fun _ _ h => h) ?_
  refine WC.condF rfl rfl ?_
  refine WC.seq fun K1266 hK1266 => ?_
  -- region 13
  refine WC.region ?_
  -- R13.0 52 := diskm.go:98 binOp
  refine WL.v (by first | exact r_eql rfl rfl (decide_eq_true (by omega)) | exact r_eql rfl rfl (decide_eq_false (by omega)) | exact r_eql rfl rfl rfl) rfl rfl rfl ?_
  -- R13.1 51 := diskm.go:98 assign
  refine WL.v (by first | exact r_assign (v := .bool _) rfl | exact r_assign rfl) rfl rfl rfl ?_
  refine WL.fin hK1266 (fun _ _ h => h) ?_
  refine WC.condF rfl rfl ?_
  refine WC.seq fun K1267 hK1267 => ?_
  -- region 24
  refine WC.region ?_
  -- R24.0 82 := diskm.go:110 binOp
  refine WL.v (by first | exact r_eql rfl rfl (decide_eq_true (by omega)) | exact r_eql rfl rfl (decide_eq_false (by omega)) | exact r_eql rfl rfl rfl) rfl rfl rfl ?_
  -- R24.1 81 := diskm.go:110 assign
  refine WL.v (by first | exact r_assign (v := .bool _) rfl | exact r_assign rfl) rfl rfl rfl ?_
  refine WL.fin hK1267 (fun _ _ h => h) ?_
  refine WC.condF rfl rfl ?_
  refine WC.seq fun K1268 hK1268 => ?_
  refine WC.seq fun K1269 hK1269 => ?_
  -- region 29
  refine WC.region ?_
  -- R29.0 94 := diskm.go:116 binOp
  refine WL.v (by first | exact r_eql rfl rfl (decide_eq_true (by omega)) | exact r_eql rfl rfl (decide_eq_false (by omega)) | exact r_eql rfl rfl rfl) rfl rfl rfl ?_
  -- R29.1 93 := diskm.go:116 assign
  refine WL.v (by first | exact r_assign (v := .bool _) rfl | exact r_assign rfl) rfl rfl rfl ?_
  refine WL.fin hK1269 (fun _ _ h => h) ?_
  refine WC.condF rfl rfl ?_
  refine WC.seq fun K1270 hK1270 => ?_
  -- region 30
  refine WC.region ?_
  -- R30.0 95 := diskm.go:116 binOp
  refine WL.v (by first | exact r_eql rfl rfl (decide_eq_true (by omega)) | exact r_eql rfl rfl (decide_eq_false (by omega)) | exact r_eql rfl rfl rfl) rfl rfl rfl ?_
  -- R30.1 93 := diskm.go:116 assign
  refine WL.v (by first | exact r_assign (v := .bool _) rfl | exact r_assign rfl) rfl rfl rfl ?_
  refine WL.fin hK1270 (fun _ _ h => h) ?_
  refine WC.condF rfl rfl ?_
  refine WC.seq fun K1271 hK1271 => ?_
  -- region 31
  refine WC.region ?_
  -- R31.0 96 := diskm.go:116 binOp
  refine WL.v (by first | exact r_eql rfl rfl (decide_eq_true (by omega)) | exact r_eql rfl rfl (decide_eq_false (by omega)) | exact r_eql rfl rfl rfl) rfl rfl rfl ?_
  -- R31.1 93 := diskm.go:116 assign
  refine WL.v (by first | exact r_assign (v := .bool _) rfl | exact r_assign rfl) rfl rfl rfl ?_
  refine WL.fin hK1271 (fun _ _ h => h) ?_
  refine WC.condF rfl rfl ?_
  refine WC.seq fun K1272 hK1272 => ?_
  -- region 32
  refine WC.region ?_
  -- R32.0 97 := diskm.go:116 binOp
  refine WL.v (by first | exact r_eql rfl rfl (decide_eq_true (by omega)) | exact r_eql rfl rfl (decide_eq_false (by omega)) | exact r_eql rfl rfl rfl) rfl rfl rfl ?_
  -- R32.1 93 := diskm.go:116 assign
  refine WL.v (by first | exact r_assign (v := .bool _) rfl | exact r_assign rfl) rfl rfl rfl ?_
  refine WL.fin hK1272 (fun _ _ h => h) ?_
  refine WC.condF rfl rfl ?_
  refine WC.seq fun K1273 hK1273 => ?_
  -- region 33
  refine WC.region ?_
  -- R33.0 98 := diskm.go:116 binOp
  refine WL.v (by first | exact r_eql rfl rfl (decide_eq_true (by omega)) | exact r_eql rfl rfl (decide_eq_false (by omega)) | exact r_eql rfl rfl rfl) rfl rfl rfl ?_
  -- R33.1 93 := diskm.go:116 assign
  refine WL.v (by first | exact r_assign (v := .bool _) rfl | exact r_assign rfl) rfl rfl rfl ?_
  refine WL.fin hK1273 (fun _ _ h => h) ?_
  refine WC.condF rfl rfl ?_
  -- region 34
  refine WC.region ?_
  -- R34.0 99 := diskm.go:116 binOp
  refine WL.v (by first | exact r_eql rfl rfl (decide_eq_true (by omega)) | exact r_eql rfl rfl (decide_eq_false (by omega)) | exact r_eql rfl rfl rfl) rfl rfl rfl ?_
  -- R34.1 93 := diskm.go:116 assign
  refine WL.v (by first | exact r_assign (v := .bool _) rfl | exact r_assign rfl) rfl rfl rfl ?_
  refine WL.fin hK1268 (fun _ _ h => h) ?_
  refine WC.condT rfl rfl ?_
  refine WC.seq fun K1274 hK1274 => ?_
  -- region 35
  refine WC.region ?_
  -- R35.0 100 := diskm.go:117 move
  refine WL.v (by first | exact r_move (v := .pointer _) rfl | exact r_move rfl) rfl rfl rfl ?_
  -- R35.1 101 := diskm.go:117 nilCheck
  refine WL.v (by exact r_nilCheck rfl) rfl rfl rfl ?_
  -- R35.2 102 := diskm.go:117 fieldAddr
  refine WL.v (by exact r_field ty_fld48_4 rfl) rfl rfl rfl ?_
  -- R35.3 103 := diskm.go:117 load
  refine WL.v (by exact r_load1 (v := .bool true) ty_one4 rfl (by rw [← hd]; exact st.c2 (by decide))) rfl rfl rfl ?_
  refine WL.fin hK1274 (fun _ _ h => h) ?_
  refine WC.condT rfl rfl ?_
  refine WC.seq fun K1275 hK1275 => ?_
  -- region 36
  refine WC.region ?_
  -- R36.0 104 := diskm.go:118 build
  refine WL.v (by exact r_build (ps := [(0, .int _ _)]) (vs := [_, _]) ty_pl37 ty_zero37 rfl (fill_step (pv := [_]) (cs' := [_, _]) rfl rfl rfl rfl (fill_nil))) rfl rfl rfl ?_
  -- R36.1 None := diskm.go:118 store
  first | refine WL.storeW (vs := [_, _]) st ty_agg37 rfl rfl rfl rfl rfl rfl ?_ | refine WL.storeL (vs := [_, _]) st ty_agg37 rfl rfl rfl rfl (by first | decide | omega) rfl rfl ?_ | refine WL.storeW (vs := [_, _]) st.front1 ty_agg37 rfl rfl rfl rfl rfl rfl ?_ | refine WL.storeL (vs := [_, _]) st.front1 ty_agg37 rfl rfl rfl rfl (by first | decide | omega) rfl rfl ?_ | refine WL.storeW (vs := [_, _]) st.front2 ty_agg37 rfl rfl rfl rfl rfl rfl ?_ | refine WL.storeL (vs := [_, _]) st.front2 ty_agg37 rfl rfl rfl rfl (by first | decide | omega) rfl rfl ?_ | refine WL.storeW (vs := [_, _]) st.front3 ty_agg37 rfl rfl rfl rfl rfl rfl ?_ | refine WL.storeL (vs := [_, _]) st.front3 ty_agg37 rfl rfl rfl rfl (by first | decide | omega) rfl rfl ?_ | refine WL.storeW (vs := [_, _]) st.front4 ty_agg37 rfl rfl rfl rfl rfl rfl ?_ | refine WL.storeL (vs := [_, _]) st.front4 ty_agg37 rfl rfl rfl rfl (by first | decide | omega) rfl rfl ?_ | refine WL.storeW (vs := [_, _]) st.front5 ty_agg37 rfl rfl rfl rfl rfl rfl ?_ | refine WL.storeL (vs := [_, _]) st.front5 ty_agg37 rfl rfl rfl rfl (by first | decide | omega) rfl rfl ?_ | refine WL.storeW (vs := [_, _]) st.front6 ty_agg37 rfl rfl rfl rfl rfl rfl ?_ | refine WL.storeL (vs := [_, _]) st.front6 ty_agg37 rfl rfl rfl rfl (by first | decide | omega) rfl rfl ?_ | refine WL.storeW (vs := [_, _]) st.front7 ty_agg37 rfl rfl rfl rfl rfl rfl ?_ | refine WL.storeL (vs := [_, _]) st.front7 ty_agg37 rfl rfl rfl rfl (by first | decide | omega) rfl rfl ?_ | refine WL.storeW (vs := [_, _]) st.front8 ty_agg37 rfl rfl rfl rfl rfl rfl ?_ | refine WL.storeL (vs := [_, _]) st.front8 ty_agg37 rfl rfl rfl rfl (by first | decide | omega) rfl rfl ?_
  intro w st
  refine WL.fin hK1275 (fun _ _ h => h) ?_
  refine WC.retC (vs := [_, _]) Tryd.results15 (fun _ _ h => h) rfl ty_agg37 rfl ⟨(by first | assumption | exact st.c0 (by first | decide | omega) | exact st.c1 (by first | decide | omega) | exact st.c2 (by first | decide | omega) | exact st.c3 (by first | decide | omega) | exact st.c4 (by first | decide | omega) | exact st.c5 (by first | decide | omega) | exact st.c6 (by first | decide | omega) | exact st.c7 (by first | decide | omega) | exact st.c8 (by first | decide | omega)), (by first | assumption | exact st.c0 (by first | decide | omega) | exact st.c1 (by first | decide | omega) | exact st.c2 (by first | decide | omega) | exact st.c3 (by first | decide | omega) | exact st.c4 (by first | decide | omega) | exact st.c5 (by first | decide | omega) | exact st.c6 (by first | decide | omega) | exact st.c7 (by first | decide | omega) | exact st.c8 (by first | decide | omega)), trivial⟩ ?_
  exact ⟨_, rfl, MPost.none e (.inr (by decide)) (.inr (by decide)) h rfl (st_ms st)⟩
set_option maxHeartbeats 4000000 in
theorem stepM_disarm {o : OP} {z : MZ} (hp : PWf P) (hfz : P.armed = true → -1000000001000 ≤ P.fuse ∧ P.fuse ≤ 9223372036854775807) (h : MI w0 P z) (ho : o.ok w0) (hk : o.kind = 6) (hd : P.down = false) (st : S0 w0 (mds bq P z l) w) :
    Calls Tryd.prog 15 #[.pointer (some ⟨bq, 0, none⟩), o.v] w (Ret (MPost w0 bq l P o)) := by
  unfold OP.v
  have e : stepP P o = (disP P, 0) := by unfold stepP; simp [hk]; unfold disarmP; rw [hd]; rfl
  refine enter [.pointer (some ⟨bq, 0, none⟩), .agg #[.int .i64 o.kind, .int .i64 o.sct, .int .i64 o.cnt, .int .i64 o.cache, .slice o.dat.a o.dat.bs.length o.dat.c, .int .i64 o.after, .slice o.kp.a o.kp.bs.length o.kp.c, .int .i64 o.tear, .int .i64 o.tb]] Tryd.func15 rfl Tryd.ntmps15 rfl ?_
  show WC _ _ _ 292 [] [(0, .pointer (some ⟨bq, 0, none⟩)), (1, .agg #[.int .i64 o.kind, .int .i64 o.sct, .int .i64 o.cnt, .int .i64 o.cache, .slice o.dat.a o.dat.bs.length o.dat.c, .int .i64 o.after, .slice o.kp.a o.kp.bs.length o.kp.c, .int .i64 o.tear, .int .i64 o.tb])] _
  refine WC.seq fun K1276 hK1276 => ?_
  -- region 0
  refine WC.region ?_
  -- R0.0 3 := diskm.go:83 box
  first | refine WL.box (m := 9) (vs := [.int _ _, .int _ _, .int _ _, .int _ _, .slice _ _ _, .int _ _, .slice _ _ _, .int _ _, .int _ _]) st rfl rfl rfl rfl rfl rfl ?_ | refine WL.box (m := 9) (vs := [_, _, _, _, _, _, _, _, _]) st rfl rfl rfl rfl rfl rfl ?_ | refine WL.box st rfl rfl rfl rfl rfl rfl ?_
  intro b3 w st
  -- R0.1 4 := diskm.go:83 alloc
  refine WL.alloc (m := 2) st ty_zero37 rfl rfl rfl ?_
  intro b4 w st
  refine WL.fin hK1276 (fun _ _ h => h) ?_
  refine WC.seq fun K1277 hK1277 => ?_
  refine WC.seq fun K1278 hK1278 => ?_
  -- region 1
  refine WC.region ?_
  -- R1.0 16 := diskm.go:84 fieldAddr
  refine WL.v (by exact r_field ty_fld33_0 rfl) rfl rfl rfl ?_
  -- R1.1 17 := diskm.go:84 load
  refine WL.v (by exact r_load1 ty_one28 rfl (by first | assumption | exact st.c0 (by first | decide | omega) | exact st.c1 (by first | decide | omega) | exact st.c2 (by first | decide | omega) | exact st.c3 (by first | decide | omega) | exact st.c4 (by first | decide | omega) | exact st.c5 (by first | decide | omega) | exact st.c6 (by first | decide | omega) | exact st.c7 (by first | decide | omega) | exact st.c8 (by first | decide | omega))) rfl rfl rfl ?_
  refine WL.fin hK1278 (fun _ _ h => h) ?_
  refine WC.block ?_
  refine WC.seq fun K1279 hK1279 => ?_
  -- region 3
  refine WC.region ?_
  -- R3.0 20 := diskm.go:85 binOp
  refine WL.v (by first | exact r_eql rfl rfl (decide_eq_true (by omega)) | exact r_eql rfl rfl (decide_eq_false (by omega)) | exact r_eql rfl rfl rfl) rfl rfl rfl ?_
  -- R3.1 19 := diskm.go:85 assign
  refine WL.v (by first | exact r_assign (v := .bool _) rfl | exact r_assign rfl) rfl rfl rfl ?_
  refine WL.fin hK1279 (fun _ _ h => h) ?_
  refine WC.condF rfl rfl ?_
  refine WC.seq fun K1280 hK1280 => ?_
  -- region 13
  refine WC.region ?_
  -- R13.0 52 := diskm.go:98 binOp
  refine WL.v (by first | exact r_eql rfl rfl (decide_eq_true (by omega)) | exact r_eql rfl rfl (decide_eq_false (by omega)) | exact r_eql rfl rfl rfl) rfl rfl rfl ?_
  -- R13.1 51 := diskm.go:98 assign
  refine WL.v (by first | exact r_assign (v := .bool _) rfl | exact r_assign rfl) rfl rfl rfl ?_
  refine WL.fin hK1280 (fun _ _ h => h) ?_
  refine WC.condF rfl rfl ?_
  refine WC.seq fun K1281 hK1281 => ?_
  -- region 24
  refine WC.region ?_
  -- R24.0 82 := diskm.go:110 binOp
  refine WL.v (by first | exact r_eql rfl rfl (decide_eq_true (by omega)) | exact r_eql rfl rfl (decide_eq_false (by omega)) | exact r_eql rfl rfl rfl) rfl rfl rfl ?_
  -- R24.1 81 := diskm.go:110 assign
  refine WL.v (by first | exact r_assign (v := .bool _) rfl | exact r_assign rfl) rfl rfl rfl ?_
  refine WL.fin hK1281 (fun _ _ h => h) ?_
  refine WC.condF rfl rfl ?_
  refine WC.seq fun K1282 hK1282 => ?_
  refine WC.seq fun K1283 hK1283 => ?_
  -- region 29
  refine WC.region ?_
  -- R29.0 94 := diskm.go:116 binOp
  refine WL.v (by first | exact r_eql rfl rfl (decide_eq_true (by omega)) | exact r_eql rfl rfl (decide_eq_false (by omega)) | exact r_eql rfl rfl rfl) rfl rfl rfl ?_
  -- R29.1 93 := diskm.go:116 assign
  refine WL.v (by first | exact r_assign (v := .bool _) rfl | exact r_assign rfl) rfl rfl rfl ?_
  refine WL.fin hK1283 (fun _ _ h => h) ?_
  refine WC.condF rfl rfl ?_
  refine WC.seq fun K1284 hK1284 => ?_
  -- region 30
  refine WC.region ?_
  -- R30.0 95 := diskm.go:116 binOp
  refine WL.v (by first | exact r_eql rfl rfl (decide_eq_true (by omega)) | exact r_eql rfl rfl (decide_eq_false (by omega)) | exact r_eql rfl rfl rfl) rfl rfl rfl ?_
  -- R30.1 93 := diskm.go:116 assign
  refine WL.v (by first | exact r_assign (v := .bool _) rfl | exact r_assign rfl) rfl rfl rfl ?_
  refine WL.fin hK1284 (fun _ _ h => h) ?_
  refine WC.condF rfl rfl ?_
  refine WC.seq fun K1285 hK1285 => ?_
  -- region 31
  refine WC.region ?_
  -- R31.0 96 := diskm.go:116 binOp
  refine WL.v (by first | exact r_eql rfl rfl (decide_eq_true (by omega)) | exact r_eql rfl rfl (decide_eq_false (by omega)) | exact r_eql rfl rfl rfl) rfl rfl rfl ?_
  -- R31.1 93 := diskm.go:116 assign
  refine WL.v (by first | exact r_assign (v := .bool _) rfl | exact r_assign rfl) rfl rfl rfl ?_
  refine WL.fin hK1285 (fun _ _ h => h) ?_
  refine WC.condF rfl rfl ?_
  refine WC.seq fun K1286 hK1286 => ?_
  -- region 32
  refine WC.region ?_
  -- R32.0 97 := diskm.go:116 binOp
  refine WL.v (by first | exact r_eql rfl rfl (decide_eq_true (by omega)) | exact r_eql rfl rfl (decide_eq_false (by omega)) | exact r_eql rfl rfl rfl) rfl rfl rfl ?_
  -- R32.1 93 := diskm.go:116 assign
  refine WL.v (by first | exact r_assign (v := .bool _) rfl | exact r_assign rfl) rfl rfl rfl ?_
  refine WL.fin hK1286 (fun _ _ h => h) ?_
  refine WC.condF rfl rfl ?_
  refine WC.seq fun K1287 hK1287 => ?_
  -- region 33
  refine WC.region ?_
  -- R33.0 98 := diskm.go:116 binOp
  refine WL.v (by first | exact r_eql rfl rfl (decide_eq_true (by omega)) | exact r_eql rfl rfl (decide_eq_false (by omega)) | exact r_eql rfl rfl rfl) rfl rfl rfl ?_
  -- R33.1 93 := diskm.go:116 assign
  refine WL.v (by first | exact r_assign (v := .bool _) rfl | exact r_assign rfl) rfl rfl rfl ?_
  refine WL.fin hK1287 (fun _ _ h => h) ?_
  refine WC.condF rfl rfl ?_
  -- region 34
  refine WC.region ?_
  -- R34.0 99 := diskm.go:116 binOp
  refine WL.v (by first | exact r_eql rfl rfl (decide_eq_true (by omega)) | exact r_eql rfl rfl (decide_eq_false (by omega)) | exact r_eql rfl rfl rfl) rfl rfl rfl ?_
  -- R34.1 93 := diskm.go:116 assign
  refine WL.v (by first | exact r_assign (v := .bool _) rfl | exact r_assign rfl) rfl rfl rfl ?_
  refine WL.fin hK1282 (fun _ _ h => h) ?_
  refine WC.condT rfl rfl ?_
  refine WC.seq fun K1288 hK1288 => ?_
  -- region 35
  refine WC.region ?_
  -- R35.0 100 := diskm.go:117 move
  refine WL.v (by first | exact r_move (v := .pointer _) rfl | exact r_move rfl) rfl rfl rfl ?_
  -- R35.1 101 := diskm.go:117 nilCheck
  refine WL.v (by exact r_nilCheck rfl) rfl rfl rfl ?_
  -- R35.2 102 := diskm.go:117 fieldAddr
  refine WL.v (by exact r_field ty_fld48_4 rfl) rfl rfl rfl ?_
  -- R35.3 103 := diskm.go:117 load
  refine WL.v (by exact r_load1 (v := .bool false) ty_one4 rfl (by rw [← hd]; exact st.c2 (by decide))) rfl rfl rfl ?_
  refine WL.fin hK1288 (fun _ _ h => h) ?_
  refine WC.condF rfl rfl ?_
  refine WC.skipF hK1277 (fun _ _ h => h) ?_
  refine WC.seq fun K1289 hK1289 => ?_
  refine WC.seq fun K1290 hK1290 => ?_
  -- region 37
  refine WC.region ?_
  -- R37.0 105 := diskm.go:123 fieldAddr
  refine WL.v (by exact r_field ty_fld33_0 rfl) rfl rfl rfl ?_
  -- R37.1 106 := diskm.go:123 load
  refine WL.v (by exact r_load1 ty_one28 rfl (by first | assumption | exact st.c0 (by first | decide | omega) | exact st.c1 (by first | decide | omega) | exact st.c2 (by first | decide | omega) | exact st.c3 (by first | decide | omega) | exact st.c4 (by first | decide | omega) | exact st.c5 (by first | decide | omega) | exact st.c6 (by first | decide | omega) | exact st.c7 (by first | decide | omega) | exact st.c8 (by first | decide | omega))) rfl rfl rfl ?_
  refine WL.fin hK1290 (fun _ _ h => h) ?_
  refine WC.block ?_
  refine WC.seq fun K1291 hK1291 => ?_
  -- region 38
  refine WC.region ?_
  -- R38.0 108 := diskm.go:124 binOp
  refine WL.v (by first | exact r_eql rfl rfl (decide_eq_true (by omega)) | exact r_eql rfl rfl (decide_eq_false (by omega)) | exact r_eql rfl rfl rfl) rfl rfl rfl ?_
  -- R38.1 107 := diskm.go:124 assign
  refine WL.v (by first | exact r_assign (v := .bool _) rfl | exact r_assign rfl) rfl rfl rfl ?_
  refine WL.fin hK1291 (fun _ _ h => h) ?_
  refine WC.condF rfl rfl ?_
  refine WC.seq fun K1292 hK1292 => ?_
  -- region 57
  refine WC.region ?_
  -- R57.0 211 := diskm.go:147 binOp
  refine WL.v (by first | exact r_eql rfl rfl (decide_eq_true (by omega)) | exact r_eql rfl rfl (decide_eq_false (by omega)) | exact r_eql rfl rfl rfl) rfl rfl rfl ?_
  -- R57.1 210 := diskm.go:147 assign
  refine WL.v (by first | exact r_assign (v := .bool _) rfl | exact r_assign rfl) rfl rfl rfl ?_
  refine WL.fin hK1292 (fun _ _ h => h) ?_
  refine WC.condF rfl rfl ?_
  refine WC.seq fun K1293 hK1293 => ?_
  -- region 68
  refine WC.region ?_
  -- R68.0 241 := diskm.go:159 binOp
  refine WL.v (by first | exact r_eql rfl rfl (decide_eq_true (by omega)) | exact r_eql rfl rfl (decide_eq_false (by omega)) | exact r_eql rfl rfl rfl) rfl rfl rfl ?_
  -- R68.1 240 := diskm.go:159 assign
  refine WL.v (by first | exact r_assign (v := .bool _) rfl | exact r_assign rfl) rfl rfl rfl ?_
  refine WL.fin hK1293 (fun _ _ h => h) ?_
  refine WC.condF rfl rfl ?_
  refine WC.seq fun K1294 hK1294 => ?_
  -- region 75
  refine WC.region ?_
  -- R75.0 259 := diskm.go:164 binOp
  refine WL.v (by first | exact r_eql rfl rfl (decide_eq_true (by omega)) | exact r_eql rfl rfl (decide_eq_false (by omega)) | exact r_eql rfl rfl rfl) rfl rfl rfl ?_
  -- R75.1 258 := diskm.go:164 assign
  refine WL.v (by first | exact r_assign (v := .bool _) rfl | exact r_assign rfl) rfl rfl rfl ?_
  refine WL.fin hK1294 (fun _ _ h => h) ?_
  refine WC.condF rfl rfl ?_
  refine WC.seq fun K1295 hK1295 => ?_
  -- region 77
  refine WC.region ?_
  -- R77.0 265 := diskm.go:166 binOp
  refine WL.v (by first | exact r_eql rfl rfl (decide_eq_true (by omega)) | exact r_eql rfl rfl (decide_eq_false (by omega)) | exact r_eql rfl rfl rfl) rfl rfl rfl ?_
  -- R77.1 264 := diskm.go:166 assign
  refine WL.v (by first | exact r_assign (v := .bool _) rfl | exact r_assign rfl) rfl rfl rfl ?_
  refine WL.fin hK1295 (fun _ _ h => h) ?_
  refine WC.condF rfl rfl ?_
  refine WC.seq fun K1296 hK1296 => ?_
  -- region 81
  refine WC.region ?_
  -- R81.0 284 := diskm.go:171 binOp
  refine WL.v (by first | exact r_eql rfl rfl (decide_eq_true (by omega)) | exact r_eql rfl rfl (decide_eq_false (by omega)) | exact r_eql rfl rfl rfl) rfl rfl rfl ?_
  -- R81.1 283 := diskm.go:171 assign
  refine WL.v (by first | exact r_assign (v := .bool _) rfl | exact r_assign rfl) rfl rfl rfl ?_
  refine WL.fin hK1296 (fun _ _ h => h) ?_
  refine WC.condT rfl rfl ?_
  -- region 82
  refine WC.region ?_
  -- R82.0 285 := diskm.go:172 move
  refine WL.v (by first | exact r_move (v := .pointer _) rfl | exact r_move rfl) rfl rfl rfl ?_
  -- R82.1 286 := diskm.go:172 move
  refine WL.v (by first | exact r_move (v := .pointer _) rfl | exact r_move rfl) rfl rfl rfl ?_
  -- R82.2 287 := diskm.go:172 nilCheck
  refine WL.v (by exact r_nilCheck rfl) rfl rfl rfl ?_
  -- R82.3 288 := diskm.go:172 fieldAddr
  refine WL.v (by exact r_field ty_fld48_5 rfl) rfl rfl rfl ?_
  -- R82.4 None := diskm.go:172 store
  first | refine WL.store (v := .bool _) st ty_one4 rfl rfl rfl (by first | decide | omega) rfl rfl ?_ | refine WL.store (v := _) st ty_one4 rfl rfl rfl (by first | decide | omega) rfl rfl ?_ | refine WL.store (v := .bool _) st.front1 ty_one4 rfl rfl rfl (by first | decide | omega) rfl rfl ?_ | refine WL.store (v := _) st.front1 ty_one4 rfl rfl rfl (by first | decide | omega) rfl rfl ?_ | refine WL.store (v := .bool _) st.front2 ty_one4 rfl rfl rfl (by first | decide | omega) rfl rfl ?_ | refine WL.store (v := _) st.front2 ty_one4 rfl rfl rfl (by first | decide | omega) rfl rfl ?_ | refine WL.store (v := .bool _) st.front3 ty_one4 rfl rfl rfl (by first | decide | omega) rfl rfl ?_ | refine WL.store (v := _) st.front3 ty_one4 rfl rfl rfl (by first | decide | omega) rfl rfl ?_ | refine WL.store (v := .bool _) st.front4 ty_one4 rfl rfl rfl (by first | decide | omega) rfl rfl ?_ | refine WL.store (v := _) st.front4 ty_one4 rfl rfl rfl (by first | decide | omega) rfl rfl ?_ | refine WL.store (v := .bool _) st.front5 ty_one4 rfl rfl rfl (by first | decide | omega) rfl rfl ?_ | refine WL.store (v := _) st.front5 ty_one4 rfl rfl rfl (by first | decide | omega) rfl rfl ?_ | refine WL.store (v := .bool _) st.front6 ty_one4 rfl rfl rfl (by first | decide | omega) rfl rfl ?_ | refine WL.store (v := _) st.front6 ty_one4 rfl rfl rfl (by first | decide | omega) rfl rfl ?_ | refine WL.store (v := .bool _) st.front7 ty_one4 rfl rfl rfl (by first | decide | omega) rfl rfl ?_ | refine WL.store (v := _) st.front7 ty_one4 rfl rfl rfl (by first | decide | omega) rfl rfl ?_ | refine WL.store (v := .bool _) st.front8 ty_one4 rfl rfl rfl (by first | decide | omega) rfl rfl ?_ | refine WL.store (v := _) st.front8 ty_one4 rfl rfl rfl (by first | decide | omega) rfl rfl ?_
  intro w st
  -- R82.5 289 := diskm.go:172 nilCheck
  refine WL.v (by exact r_nilCheck rfl) rfl rfl rfl ?_
  -- R82.6 290 := diskm.go:172 fieldAddr
  refine WL.v (by exact r_field ty_fld48_6 rfl) rfl rfl rfl ?_
  -- R82.7 None := diskm.go:172 store
  first | refine WL.store (v := .int _ _) st ty_one2 rfl rfl rfl (by first | decide | omega) rfl rfl ?_ | refine WL.store (v := _) st ty_one2 rfl rfl rfl (by first | decide | omega) rfl rfl ?_ | refine WL.store (v := .int _ _) st.front1 ty_one2 rfl rfl rfl (by first | decide | omega) rfl rfl ?_ | refine WL.store (v := _) st.front1 ty_one2 rfl rfl rfl (by first | decide | omega) rfl rfl ?_ | refine WL.store (v := .int _ _) st.front2 ty_one2 rfl rfl rfl (by first | decide | omega) rfl rfl ?_ | refine WL.store (v := _) st.front2 ty_one2 rfl rfl rfl (by first | decide | omega) rfl rfl ?_ | refine WL.store (v := .int _ _) st.front3 ty_one2 rfl rfl rfl (by first | decide | omega) rfl rfl ?_ | refine WL.store (v := _) st.front3 ty_one2 rfl rfl rfl (by first | decide | omega) rfl rfl ?_ | refine WL.store (v := .int _ _) st.front4 ty_one2 rfl rfl rfl (by first | decide | omega) rfl rfl ?_ | refine WL.store (v := _) st.front4 ty_one2 rfl rfl rfl (by first | decide | omega) rfl rfl ?_ | refine WL.store (v := .int _ _) st.front5 ty_one2 rfl rfl rfl (by first | decide | omega) rfl rfl ?_ | refine WL.store (v := _) st.front5 ty_one2 rfl rfl rfl (by first | decide | omega) rfl rfl ?_ | refine WL.store (v := .int _ _) st.front6 ty_one2 rfl rfl rfl (by first | decide | omega) rfl rfl ?_ | refine WL.store (v := _) st.front6 ty_one2 rfl rfl rfl (by first | decide | omega) rfl rfl ?_ | refine WL.store (v := .int _ _) st.front7 ty_one2 rfl rfl rfl (by first | decide | omega) rfl rfl ?_ | refine WL.store (v := _) st.front7 ty_one2 rfl rfl rfl (by first | decide | omega) rfl rfl ?_ | refine WL.store (v := .int _ _) st.front8 ty_one2 rfl rfl rfl (by first | decide | omega) rfl rfl ?_ | refine WL.store (v := _) st.front8 ty_one2 rfl rfl rfl (by first | decide | omega) rfl rfl ?_
  intro w st
  refine WL.fin hK1289 (fun _ _ h => h) ?_
  refine WC.seq fun K1297 hK1297 => ?_
  -- region 83
  refine WC.region ?_
  -- R83.0 291 := diskm.go:174 build
  refine WL.v (by exact r_build (ps := []) (vs := [_, _]) ty_pl37 ty_zero37 rfl (fill_nil)) rfl rfl rfl ?_
  -- R83.1 None := diskm.go:174 store
  first | refine WL.storeW (vs := [_, _]) st ty_agg37 rfl rfl rfl rfl rfl rfl ?_ | refine WL.storeL (vs := [_, _]) st ty_agg37 rfl rfl rfl rfl (by first | decide | omega) rfl rfl ?_ | refine WL.storeW (vs := [_, _]) st.front1 ty_agg37 rfl rfl rfl rfl rfl rfl ?_ | refine WL.storeL (vs := [_, _]) st.front1 ty_agg37 rfl rfl rfl rfl (by first | decide | omega) rfl rfl ?_ | refine WL.storeW (vs := [_, _]) st.front2 ty_agg37 rfl rfl rfl rfl rfl rfl ?_ | refine WL.storeL (vs := [_, _]) st.front2 ty_agg37 rfl rfl rfl rfl (by first | decide | omega) rfl rfl ?_ | refine WL.storeW (vs := [_, _]) st.front3 ty_agg37 rfl rfl rfl rfl rfl rfl ?_ | refine WL.storeL (vs := [_, _]) st.front3 ty_agg37 rfl rfl rfl rfl (by first | decide | omega) rfl rfl ?_ | refine WL.storeW (vs := [_, _]) st.front4 ty_agg37 rfl rfl rfl rfl rfl rfl ?_ | refine WL.storeL (vs := [_, _]) st.front4 ty_agg37 rfl rfl rfl rfl (by first | decide | omega) rfl rfl ?_ | refine WL.storeW (vs := [_, _]) st.front5 ty_agg37 rfl rfl rfl rfl rfl rfl ?_ | refine WL.storeL (vs := [_, _]) st.front5 ty_agg37 rfl rfl rfl rfl (by first | decide | omega) rfl rfl ?_ | refine WL.storeW (vs := [_, _]) st.front6 ty_agg37 rfl rfl rfl rfl rfl rfl ?_ | refine WL.storeL (vs := [_, _]) st.front6 ty_agg37 rfl rfl rfl rfl (by first | decide | omega) rfl rfl ?_ | refine WL.storeW (vs := [_, _]) st.front7 ty_agg37 rfl rfl rfl rfl rfl rfl ?_ | refine WL.storeL (vs := [_, _]) st.front7 ty_agg37 rfl rfl rfl rfl (by first | decide | omega) rfl rfl ?_ | refine WL.storeW (vs := [_, _]) st.front8 ty_agg37 rfl rfl rfl rfl rfl rfl ?_ | refine WL.storeL (vs := [_, _]) st.front8 ty_agg37 rfl rfl rfl rfl (by first | decide | omega) rfl rfl ?_
  intro w st
  refine WL.fin hK1297 (fun _ _ h => h) ?_
  refine WC.retC (vs := [_, _]) Tryd.results15 (fun _ _ h => h) rfl ty_agg37 rfl ⟨(by first | assumption | exact st.c0 (by first | decide | omega) | exact st.c1 (by first | decide | omega) | exact st.c2 (by first | decide | omega) | exact st.c3 (by first | decide | omega) | exact st.c4 (by first | decide | omega) | exact st.c5 (by first | decide | omega) | exact st.c6 (by first | decide | omega) | exact st.c7 (by first | decide | omega) | exact st.c8 (by first | decide | omega)), (by first | assumption | exact st.c0 (by first | decide | omega) | exact st.c1 (by first | decide | omega) | exact st.c2 (by first | decide | omega) | exact st.c3 (by first | decide | omega) | exact st.c4 (by first | decide | omega) | exact st.c5 (by first | decide | omega) | exact st.c6 (by first | decide | omega) | exact st.c7 (by first | decide | omega) | exact st.c8 (by first | decide | omega)), trivial⟩ ?_
  exact ⟨_, rfl, MPost.none e (.inl (by omega)) (.inl (by omega)) (h.plain ⟨rfl, rfl, rfl, rfl⟩ (fun h => by cases h)) rfl (st_nrm (L' := [.int .i64 (P.sec : Nat), .int .i64 (P.lim : Nat), .map (some z.bm), z.wv, .bool P.down, .bool false, .int .i64 0, .slice z.sv.a z.sv.bs.length z.sv.c, .int .i64 z.t, .int .i64 z.tb]) rfl st.drop.drop1)⟩
set_option maxHeartbeats 4000000 in
theorem stepM_arm {o : OP} {z : MZ} (hp : PWf P) (hfz : P.armed = true → -1000000001000 ≤ P.fuse ∧ P.fuse ≤ 9223372036854775807) (h : MI w0 P z) (ho : o.ok w0) (hk : o.kind = 5) (hd : P.down = false) (st : S0 w0 (mds bq P z l) w) :
    Calls Tryd.prog 15 #[.pointer (some ⟨bq, 0, none⟩), o.v] w (Ret (MPost w0 bq l P o)) := by
  unfold OP.v
  have e : stepP P o = armP P o.after o.kp.bs o.tear o.tb := by unfold stepP; simp [hk]
  by_cases ha : o.after < 1
  · have e : stepP P o = (P, 1) := by rw [e]; unfold armP; rw [hd, if_neg (by decide), if_pos ha]
    refine enter [.pointer (some ⟨bq, 0, none⟩), .agg #[.int .i64 o.kind, .int .i64 o.sct, .int .i64 o.cnt, .int .i64 o.cache, .slice o.dat.a o.dat.bs.length o.dat.c, .int .i64 o.after, .slice o.kp.a o.kp.bs.length o.kp.c, .int .i64 o.tear, .int .i64 o.tb]] Tryd.func15 rfl Tryd.ntmps15 rfl ?_
    show WC _ _ _ 292 [] [(0, .pointer (some ⟨bq, 0, none⟩)), (1, .agg #[.int .i64 o.kind, .int .i64 o.sct, .int .i64 o.cnt, .int .i64 o.cache, .slice o.dat.a o.dat.bs.length o.dat.c, .int .i64 o.after, .slice o.kp.a o.kp.bs.length o.kp.c, .int .i64 o.tear, .int .i64 o.tb])] _
    refine WC.seq fun K1298 hK1298 => ?_
    -- region 0
    refine WC.region ?_
    -- R0.0 3 := diskm.go:83 box
    first | refine WL.box (m := 9) (vs := [.int _ _, .int _ _, .int _ _, .int _ _, .slice _ _ _, .int _ _, .slice _ _ _, .int _ _, .int _ _]) st rfl rfl rfl rfl rfl rfl ?_ | refine WL.box (m := 9) (vs := [_, _, _, _, _, _, _, _, _]) st rfl rfl rfl rfl rfl rfl ?_ | refine WL.box st rfl rfl rfl rfl rfl rfl ?_
    intro b3 w st
    -- R0.1 4 := diskm.go:83 alloc
    refine WL.alloc (m := 2) st ty_zero37 rfl rfl rfl ?_
    intro b4 w st
    refine WL.fin hK1298 (fun _ _ h => h) ?_
    refine WC.seq fun K1299 hK1299 => ?_
    refine WC.seq fun K1300 hK1300 => ?_
    -- region 1
    refine WC.region ?_
    -- R1.0 16 := diskm.go:84 fieldAddr
    refine WL.v (by exact r_field ty_fld33_0 rfl) rfl rfl rfl ?_
    -- R1.1 17 := diskm.go:84 load
    refine WL.v (by exact r_load1 ty_one28 rfl (by first | assumption | exact st.c0 (by first | decide | omega) | exact st.c1 (by first | decide | omega) | exact st.c2 (by first | decide | omega) | exact st.c3 (by first | decide | omega) | exact st.c4 (by first | decide | omega) | exact st.c5 (by first | decide | omega) | exact st.c6 (by first | decide | omega) | exact st.c7 (by first | decide | omega) | exact st.c8 (by first | decide | omega))) rfl rfl rfl ?_
    refine WL.fin hK1300 (fun _ _ h => h) ?_
    refine WC.block ?_
    refine WC.seq fun K1301 hK1301 => ?_
    -- region 3
    refine WC.region ?_
    -- R3.0 20 := diskm.go:85 binOp
    refine WL.v (by first | exact r_eql rfl rfl (decide_eq_true (by omega)) | exact r_eql rfl rfl (decide_eq_false (by omega)) | exact r_eql rfl rfl rfl) rfl rfl rfl ?_
    -- R3.1 19 := diskm.go:85 assign
    refine WL.v (by first | exact r_assign (v := .bool _) rfl | exact r_assign rfl) rfl rfl rfl ?_
    refine WL.fin hK1301 (fun _ _ h => h) ?_
    refine WC.condF rfl rfl ?_
    refine WC.seq fun K1302 hK1302 => ?_
    -- region 13
    refine WC.region ?_
    -- R13.0 52 := diskm.go:98 binOp
    refine WL.v (by first | exact r_eql rfl rfl (decide_eq_true (by omega)) | exact r_eql rfl rfl (decide_eq_false (by omega)) | exact r_eql rfl rfl rfl) rfl rfl rfl ?_
    -- R13.1 51 := diskm.go:98 assign
    refine WL.v (by first | exact r_assign (v := .bool _) rfl | exact r_assign rfl) rfl rfl rfl ?_
    refine WL.fin hK1302 (fun _ _ h => h) ?_
    refine WC.condF rfl rfl ?_
    refine WC.seq fun K1303 hK1303 => ?_
    -- region 24
    refine WC.region ?_
    -- R24.0 82 := diskm.go:110 binOp
    refine WL.v (by first | exact r_eql rfl rfl (decide_eq_true (by omega)) | exact r_eql rfl rfl (decide_eq_false (by omega)) | exact r_eql rfl rfl rfl) rfl rfl rfl ?_
    -- R24.1 81 := diskm.go:110 assign
    refine WL.v (by first | exact r_assign (v := .bool _) rfl | exact r_assign rfl) rfl rfl rfl ?_
    refine WL.fin hK1303 (fun _ _ h => h) ?_
    refine WC.condF rfl rfl ?_
    refine WC.seq fun K1304 hK1304 => ?_
    refine WC.seq fun K1305 hK1305 => ?_
    -- region 29
    refine WC.region ?_
    -- R29.0 94 := diskm.go:116 binOp
    refine WL.v (by first | exact r_eql rfl rfl (decide_eq_true (by omega)) | exact r_eql rfl rfl (decide_eq_false (by omega)) | exact r_eql rfl rfl rfl) rfl rfl rfl ?_
    -- R29.1 93 := diskm.go:116 assign
    refine WL.v (by first | exact r_assign (v := .bool _) rfl | exact r_assign rfl) rfl rfl rfl ?_
    refine WL.fin hK1305 (fun _ _ h => h) ?_
    refine WC.condF rfl rfl ?_
    refine WC.seq fun K1306 hK1306 => ?_
    -- region 30
    refine WC.region ?_
    -- R30.0 95 := diskm.go:116 binOp
    refine WL.v (by first | exact r_eql rfl rfl (decide_eq_true (by omega)) | exact r_eql rfl rfl (decide_eq_false (by omega)) | exact r_eql rfl rfl rfl) rfl rfl rfl ?_
    -- R30.1 93 := diskm.go:116 assign
    refine WL.v (by first | exact r_assign (v := .bool _) rfl | exact r_assign rfl) rfl rfl rfl ?_
    refine WL.fin hK1306 (fun _ _ h => h) ?_
    refine WC.condF rfl rfl ?_
    refine WC.seq fun K1307 hK1307 => ?_
    -- region 31
    refine WC.region ?_
    -- R31.0 96 := diskm.go:116 binOp
    refine WL.v (by first | exact r_eql rfl rfl (decide_eq_true (by omega)) | exact r_eql rfl rfl (decide_eq_false (by omega)) | exact r_eql rfl rfl rfl) rfl rfl rfl ?_
    -- R31.1 93 := diskm.go:116 assign
    refine WL.v (by first | exact r_assign (v := .bool _) rfl | exact r_assign rfl) rfl rfl rfl ?_
    refine WL.fin hK1307 (fun _ _ h => h) ?_
    refine WC.condF rfl rfl ?_
    refine WC.seq fun K1308 hK1308 => ?_
    -- region 32
    refine WC.region ?_
    -- R32.0 97 := diskm.go:116 binOp
    refine WL.v (by first | exact r_eql rfl rfl (decide_eq_true (by omega)) | exact r_eql rfl rfl (decide_eq_false (by omega)) | exact r_eql rfl rfl rfl) rfl rfl rfl ?_
    -- R32.1 93 := diskm.go:116 assign
    refine WL.v (by first | exact r_assign (v := .bool _) rfl | exact r_assign rfl) rfl rfl rfl ?_
    refine WL.fin hK1308 (fun _ _ h => h) ?_
    refine WC.condF rfl rfl ?_
    refine WC.seq fun K1309 hK1309 => ?_
    -- region 33
    refine WC.region ?_
    -- R33.0 98 := diskm.go:116 binOp
    refine WL.v (by first | exact r_eql rfl rfl (decide_eq_true (by omega)) | exact r_eql rfl rfl (decide_eq_false (by omega)) | exact r_eql rfl rfl rfl) rfl rfl rfl ?_
    -- R33.1 93 := diskm.go:116 assign
    refine WL.v (by first | exact r_assign (v := .bool _) rfl | exact r_assign rfl) rfl rfl rfl ?_
    refine WL.fin hK1309 (fun _ _ h => h) ?_
    refine WC.condT rfl rfl ?_
    refine WC.skipF hK1304 (fun _ _ h => h) ?_
    refine WC.condT rfl rfl ?_
    refine WC.seq fun K1310 hK1310 => ?_
    -- region 35
    refine WC.region ?_
    -- R35.0 100 := diskm.go:117 move
    refine WL.v (by first | exact r_move (v := .pointer _) rfl | exact r_move rfl) rfl rfl rfl ?_
    -- R35.1 101 := diskm.go:117 nilCheck
    refine WL.v (by exact r_nilCheck rfl) rfl rfl rfl ?_
    -- R35.2 102 := diskm.go:117 fieldAddr
    refine WL.v (by exact r_field ty_fld48_4 rfl) rfl rfl rfl ?_
    -- R35.3 103 := diskm.go:117 load
    refine WL.v (by exact r_load1 (v := .bool false) ty_one4 rfl (by rw [← hd]; exact st.c2 (by decide))) rfl rfl rfl ?_
    refine WL.fin hK1310 (fun _ _ h => h) ?_
    refine WC.condF rfl rfl ?_
    refine WC.skipF hK1299 (fun _ _ h => h) ?_
    refine WC.seq fun K1311 hK1311 => ?_
    refine WC.seq fun K1312 hK1312 => ?_
    -- region 37
    refine WC.region ?_
    -- R37.0 105 := diskm.go:123 fieldAddr
    refine WL.v (by exact r_field ty_fld33_0 rfl) rfl rfl rfl ?_
    -- R37.1 106 := diskm.go:123 load
    refine WL.v (by exact r_load1 ty_one28 rfl (by first | assumption | exact st.c0 (by first | decide | omega) | exact st.c1 (by first | decide | omega) | exact st.c2 (by first | decide | omega) | exact st.c3 (by first | decide | omega) | exact st.c4 (by first | decide | omega) | exact st.c5 (by first | decide | omega) | exact st.c6 (by first | decide | omega) | exact st.c7 (by first | decide | omega) | exact st.c8 (by first | decide | omega))) rfl rfl rfl ?_
    refine WL.fin hK1312 (fun _ _ h => h) ?_
    refine WC.block ?_
    refine WC.seq fun K1313 hK1313 => ?_
    -- region 38
    refine WC.region ?_
    -- R38.0 108 := diskm.go:124 binOp
    refine WL.v (by first | exact r_eql rfl rfl (decide_eq_true (by omega)) | exact r_eql rfl rfl (decide_eq_false (by omega)) | exact r_eql rfl rfl rfl) rfl rfl rfl ?_
    -- R38.1 107 := diskm.go:124 assign
    refine WL.v (by first | exact r_assign (v := .bool _) rfl | exact r_assign rfl) rfl rfl rfl ?_
    refine WL.fin hK1313 (fun _ _ h => h) ?_
    refine WC.condF rfl rfl ?_
    refine WC.seq fun K1314 hK1314 => ?_
    -- region 57
    refine WC.region ?_
    -- R57.0 211 := diskm.go:147 binOp
    refine WL.v (by first | exact r_eql rfl rfl (decide_eq_true (by omega)) | exact r_eql rfl rfl (decide_eq_false (by omega)) | exact r_eql rfl rfl rfl) rfl rfl rfl ?_
    -- R57.1 210 := diskm.go:147 assign
    refine WL.v (by first | exact r_assign (v := .bool _) rfl | exact r_assign rfl) rfl rfl rfl ?_
    refine WL.fin hK1314 (fun _ _ h => h) ?_
    refine WC.condF rfl rfl ?_
    refine WC.seq fun K1315 hK1315 => ?_
    -- region 68
    refine WC.region ?_
    -- R68.0 241 := diskm.go:159 binOp
    refine WL.v (by first | exact r_eql rfl rfl (decide_eq_true (by omega)) | exact r_eql rfl rfl (decide_eq_false (by omega)) | exact r_eql rfl rfl rfl) rfl rfl rfl ?_
    -- R68.1 240 := diskm.go:159 assign
    refine WL.v (by first | exact r_assign (v := .bool _) rfl | exact r_assign rfl) rfl rfl rfl ?_
    refine WL.fin hK1315 (fun _ _ h => h) ?_
    refine WC.condF rfl rfl ?_
    refine WC.seq fun K1316 hK1316 => ?_
    -- region 75
    refine WC.region ?_
    -- R75.0 259 := diskm.go:164 binOp
    refine WL.v (by first | exact r_eql rfl rfl (decide_eq_true (by omega)) | exact r_eql rfl rfl (decide_eq_false (by omega)) | exact r_eql rfl rfl rfl) rfl rfl rfl ?_
    -- R75.1 258 := diskm.go:164 assign
    refine WL.v (by first | exact r_assign (v := .bool _) rfl | exact r_assign rfl) rfl rfl rfl ?_
    refine WL.fin hK1316 (fun _ _ h => h) ?_
    refine WC.condF rfl rfl ?_
    refine WC.seq fun K1317 hK1317 => ?_
    -- region 77
    refine WC.region ?_
    -- R77.0 265 := diskm.go:166 binOp
    refine WL.v (by first | exact r_eql rfl rfl (decide_eq_true (by omega)) | exact r_eql rfl rfl (decide_eq_false (by omega)) | exact r_eql rfl rfl rfl) rfl rfl rfl ?_
    -- R77.1 264 := diskm.go:166 assign
    refine WL.v (by first | exact r_assign (v := .bool _) rfl | exact r_assign rfl) rfl rfl rfl ?_
    refine WL.fin hK1317 (fun _ _ h => h) ?_
    refine WC.condT rfl rfl ?_
    refine WC.seq fun K1318 hK1318 => ?_
    refine WC.seq fun K1319 hK1319 => ?_
    -- region 78
    refine WC.region ?_
    -- R78.0 266 := diskm.go:167 fieldAddr
    refine WL.v (by exact r_field ty_fld33_5 rfl) rfl rfl rfl ?_
    -- R78.1 267 := diskm.go:167 load
    refine WL.v (by exact r_load1 ty_one2 rfl (by first | assumption | exact st.c0 (by first | decide | omega) | exact st.c1 (by first | decide | omega) | exact st.c2 (by first | decide | omega) | exact st.c3 (by first | decide | omega) | exact st.c4 (by first | decide | omega) | exact st.c5 (by first | decide | omega) | exact st.c6 (by first | decide | omega) | exact st.c7 (by first | decide | omega) | exact st.c8 (by first | decide | omega))) rfl rfl rfl ?_
    -- R78.2 268 := diskm.go:167 binOp
    refine WL.v (by first | exact r_lss rfl rfl (decide_eq_true (by omega)) | exact r_lss rfl rfl (decide_eq_false (by omega)) | exact r_lss rfl rfl rfl) rfl rfl rfl ?_
    refine WL.fin hK1319 (fun _ _ h => h) ?_
    refine WC.condT rfl rfl ?_
    refine WC.seq fun K1320 hK1320 => ?_
    -- region 79
    refine WC.region ?_
    -- R79.0 269 := diskm.go:168 build
    refine WL.v (by exact r_build (ps := [(0, .int _ _)]) (vs := [_, _]) ty_pl37 ty_zero37 rfl (fill_step (pv := [_]) (cs' := [_, _]) rfl rfl rfl rfl (fill_nil))) rfl rfl rfl ?_
    -- R79.1 None := diskm.go:168 store
    first | refine WL.storeW (vs := [_, _]) st ty_agg37 rfl rfl rfl rfl rfl rfl ?_ | refine WL.storeL (vs := [_, _]) st ty_agg37 rfl rfl rfl rfl (by first | decide | omega) rfl rfl ?_ | refine WL.storeW (vs := [_, _]) st.front1 ty_agg37 rfl rfl rfl rfl rfl rfl ?_ | refine WL.storeL (vs := [_, _]) st.front1 ty_agg37 rfl rfl rfl rfl (by first | decide | omega) rfl rfl ?_ | refine WL.storeW (vs := [_, _]) st.front2 ty_agg37 rfl rfl rfl rfl rfl rfl ?_ | refine WL.storeL (vs := [_, _]) st.front2 ty_agg37 rfl rfl rfl rfl (by first | decide | omega) rfl rfl ?_ | refine WL.storeW (vs := [_, _]) st.front3 ty_agg37 rfl rfl rfl rfl rfl rfl ?_ | refine WL.storeL (vs := [_, _]) st.front3 ty_agg37 rfl rfl rfl rfl (by first | decide | omega) rfl rfl ?_ | refine WL.storeW (vs := [_, _]) st.front4 ty_agg37 rfl rfl rfl rfl rfl rfl ?_ | refine WL.storeL (vs := [_, _]) st.front4 ty_agg37 rfl rfl rfl rfl (by first | decide | omega) rfl rfl ?_ | refine WL.storeW (vs := [_, _]) st.front5 ty_agg37 rfl rfl rfl rfl rfl rfl ?_ | refine WL.storeL (vs := [_, _]) st.front5 ty_agg37 rfl rfl rfl rfl (by first | decide | omega) rfl rfl ?_ | refine WL.storeW (vs := [_, _]) st.front6 ty_agg37 rfl rfl rfl rfl rfl rfl ?_ | refine WL.storeL (vs := [_, _]) st.front6 ty_agg37 rfl rfl rfl rfl (by first | decide | omega) rfl rfl ?_ | refine WL.storeW (vs := [_, _]) st.front7 ty_agg37 rfl rfl rfl rfl rfl rfl ?_ | refine WL.storeL (vs := [_, _]) st.front7 ty_agg37 rfl rfl rfl rfl (by first | decide | omega) rfl rfl ?_ | refine WL.storeW (vs := [_, _]) st.front8 ty_agg37 rfl rfl rfl rfl rfl rfl ?_ | refine WL.storeL (vs := [_, _]) st.front8 ty_agg37 rfl rfl rfl rfl (by first | decide | omega) rfl rfl ?_
    intro w st
    refine WL.fin hK1320 (fun _ _ h => h) ?_
    refine WC.retC (vs := [_, _]) Tryd.results15 (fun _ _ h => h) rfl ty_agg37 rfl ⟨(by first | assumption | exact st.c0 (by first | decide | omega) | exact st.c1 (by first | decide | omega) | exact st.c2 (by first | decide | omega) | exact st.c3 (by first | decide | omega) | exact st.c4 (by first | decide | omega) | exact st.c5 (by first | decide | omega) | exact st.c6 (by first | decide | omega) | exact st.c7 (by first | decide | omega) | exact st.c8 (by first | decide | omega)), (by first | assumption | exact st.c0 (by first | decide | omega) | exact st.c1 (by first | decide | omega) | exact st.c2 (by first | decide | omega) | exact st.c3 (by first | decide | omega) | exact st.c4 (by first | decide | omega) | exact st.c5 (by first | decide | omega) | exact st.c6 (by first | decide | omega) | exact st.c7 (by first | decide | omega) | exact st.c8 (by first | decide | omega)), trivial⟩ ?_
    exact ⟨_, rfl, MPost.none e (.inr (by decide)) (.inr (by decide)) h rfl (st_ms st)⟩
  · have e : stepP P o = ({ P with armed := true, fuse := o.after, keep := o.kp.bs, tear := o.tear, tb := o.tb }, 0) := by rw [e]; unfold armP; rw [hd, if_neg (by decide), if_neg ha]
    refine enter [.pointer (some ⟨bq, 0, none⟩), .agg #[.int .i64 o.kind, .int .i64 o.sct, .int .i64 o.cnt, .int .i64 o.cache, .slice o.dat.a o.dat.bs.length o.dat.c, .int .i64 o.after, .slice o.kp.a o.kp.bs.length o.kp.c, .int .i64 o.tear, .int .i64 o.tb]] Tryd.func15 rfl Tryd.ntmps15 rfl ?_
    show WC _ _ _ 292 [] [(0, .pointer (some ⟨bq, 0, none⟩)), (1, .agg #[.int .i64 o.kind, .int .i64 o.sct, .int .i64 o.cnt, .int .i64 o.cache, .slice o.dat.a o.dat.bs.length o.dat.c, .int .i64 o.after, .slice o.kp.a o.kp.bs.length o.kp.c, .int .i64 o.tear, .int .i64 o.tb])] _
    refine WC.seq fun K1321 hK1321 => ?_
    -- region 0
    refine WC.region ?_
    -- R0.0 3 := diskm.go:83 box
    first | refine WL.box (m := 9) (vs := [.int _ _, .int _ _, .int _ _, .int _ _, .slice _ _ _, .int _ _, .slice _ _ _, .int _ _, .int _ _]) st rfl rfl rfl rfl rfl rfl ?_ | refine WL.box (m := 9) (vs := [_, _, _, _, _, _, _, _, _]) st rfl rfl rfl rfl rfl rfl ?_ | refine WL.box st rfl rfl rfl rfl rfl rfl ?_
    intro b3 w st
    -- R0.1 4 := diskm.go:83 alloc
    refine WL.alloc (m := 2) st ty_zero37 rfl rfl rfl ?_
    intro b4 w st
    refine WL.fin hK1321 (fun _ _ h => h) ?_
    refine WC.seq fun K1322 hK1322 => ?_
    refine WC.seq fun K1323 hK1323 => ?_
    -- region 1
    refine WC.region ?_
    -- R1.0 16 := diskm.go:84 fieldAddr
    refine WL.v (by exact r_field ty_fld33_0 rfl) rfl rfl rfl ?_
    -- R1.1 17 := diskm.go:84 load
    refine WL.v (by exact r_load1 ty_one28 rfl (by first | assumption | exact st.c0 (by first | decide | omega) | exact st.c1 (by first | decide | omega) | exact st.c2 (by first | decide | omega) | exact st.c3 (by first | decide | omega) | exact st.c4 (by first | decide | omega) | exact st.c5 (by first | decide | omega) | exact st.c6 (by first | decide | omega) | exact st.c7 (by first | decide | omega) | exact st.c8 (by first | decide | omega))) rfl rfl rfl ?_
    refine WL.fin hK1323 (fun _ _ h => h) ?_
    refine WC.block ?_
    refine WC.seq fun K1324 hK1324 => ?_
    -- region 3
    refine WC.region ?_
    -- R3.0 20 := diskm.go:85 binOp
    refine WL.v (by first | exact r_eql rfl rfl (decide_eq_true (by omega)) | exact r_eql rfl rfl (decide_eq_false (by omega)) | exact r_eql rfl rfl rfl) rfl rfl rfl ?_
    -- R3.1 19 := diskm.go:85 assign
    refine WL.v (by first | exact r_assign (v := .bool _) rfl | exact r_assign rfl) rfl rfl rfl ?_
    refine WL.fin hK1324 (fun _ _ h => h) ?_
    refine WC.condF rfl rfl ?_
    refine WC.seq fun K1325 hK1325 => ?_
    -- region 13
    refine WC.region ?_
    -- R13.0 52 := diskm.go:98 binOp
    refine WL.v (by first | exact r_eql rfl rfl (decide_eq_true (by omega)) | exact r_eql rfl rfl (decide_eq_false (by omega)) | exact r_eql rfl rfl rfl) rfl rfl rfl ?_
    -- R13.1 51 := diskm.go:98 assign
    refine WL.v (by first | exact r_assign (v := .bool _) rfl | exact r_assign rfl) rfl rfl rfl ?_
    refine WL.fin hK1325 (fun _ _ h => h) ?_
    refine WC.condF rfl rfl ?_
    refine WC.seq fun K1326 hK1326 => ?_
    -- region 24
    refine WC.region ?_
    -- R24.0 82 := diskm.go:110 binOp
    refine WL.v (by first | exact r_eql rfl rfl (decide_eq_true (by omega)) | exact r_eql rfl rfl (decide_eq_false (by omega)) | exact r_eql rfl rfl rfl) rfl rfl rfl ?_
    -- R24.1 81 := diskm.go:110 assign
    refine WL.v (by first | exact r_assign (v := .bool _) rfl | exact r_assign rfl) rfl rfl rfl ?_
    refine WL.fin hK1326 (fun _ _ h => h) ?_
    refine WC.condF rfl rfl ?_
    refine WC.seq fun K1327 hK1327 => ?_
    refine WC.seq fun K1328 hK1328 => ?_
    -- region 29
    refine WC.region ?_
    -- R29.0 94 := diskm.go:116 binOp
    refine WL.v (by first | exact r_eql rfl rfl (decide_eq_true (by omega)) | exact r_eql rfl rfl (decide_eq_false (by omega)) | exact r_eql rfl rfl rfl) rfl rfl rfl ?_
    -- R29.1 93 := diskm.go:116 assign
    refine WL.v (by first | exact r_assign (v := .bool _) rfl | exact r_assign rfl) rfl rfl rfl ?_
    refine WL.fin hK1328 (fun _ _ h => h) ?_
    refine WC.condF rfl rfl ?_
    refine WC.seq fun K1329 hK1329 => ?_
    -- region 30
    refine WC.region ?_
    -- R30.0 95 := diskm.go:116 binOp
    refine WL.v (by first | exact r_eql rfl rfl (decide_eq_true (by omega)) | exact r_eql rfl rfl (decide_eq_false (by omega)) | exact r_eql rfl rfl rfl) rfl rfl rfl ?_
    -- R30.1 93 := diskm.go:116 assign
    refine WL.v (by first | exact r_assign (v := .bool _) rfl | exact r_assign rfl) rfl rfl rfl ?_
    refine WL.fin hK1329 (fun _ _ h => h) ?_
    refine WC.condF rfl rfl ?_
    refine WC.seq fun K1330 hK1330 => ?_
    -- region 31
    refine WC.region ?_
    -- R31.0 96 := diskm.go:116 binOp
    refine WL.v (by first | exact r_eql rfl rfl (decide_eq_true (by omega)) | exact r_eql rfl rfl (decide_eq_false (by omega)) | exact r_eql rfl rfl rfl) rfl rfl rfl ?_
    -- R31.1 93 := diskm.go:116 assign
    refine WL.v (by first | exact r_assign (v := .bool _) rfl | exact r_assign rfl) rfl rfl rfl ?_
    refine WL.fin hK1330 (fun _ _ h => h) ?_
    refine WC.condF rfl rfl ?_
    refine WC.seq fun K1331 hK1331 => ?_
    -- region 32
    refine WC.region ?_
    -- R32.0 97 := diskm.go:116 binOp
    refine WL.v (by first | exact r_eql rfl rfl (decide_eq_true (by omega)) | exact r_eql rfl rfl (decide_eq_false (by omega)) | exact r_eql rfl rfl rfl) rfl rfl rfl ?_
    -- R32.1 93 := diskm.go:116 assign
    refine WL.v (by first | exact r_assign (v := .bool _) rfl | exact r_assign rfl) rfl rfl rfl ?_
    refine WL.fin hK1331 (fun _ _ h => h) ?_
    refine WC.condF rfl rfl ?_
    refine WC.seq fun K1332 hK1332 => ?_
    -- region 33
    refine WC.region ?_
    -- R33.0 98 := diskm.go:116 binOp
    refine WL.v (by first | exact r_eql rfl rfl (decide_eq_true (by omega)) | exact r_eql rfl rfl (decide_eq_false (by omega)) | exact r_eql rfl rfl rfl) rfl rfl rfl ?_
    -- R33.1 93 := diskm.go:116 assign
    refine WL.v (by first | exact r_assign (v := .bool _) rfl | exact r_assign rfl) rfl rfl rfl ?_
    refine WL.fin hK1332 (fun _ _ h => h) ?_
    refine WC.condT rfl rfl ?_
    refine WC.skipF hK1327 (fun _ _ h => h) ?_
    refine WC.condT rfl rfl ?_
    refine WC.seq fun K1333 hK1333 => ?_
    -- region 35
    refine WC.region ?_
    -- R35.0 100 := diskm.go:117 move
    refine WL.v (by first | exact r_move (v := .pointer _) rfl | exact r_move rfl) rfl rfl rfl ?_
    -- R35.1 101 := diskm.go:117 nilCheck
    refine WL.v (by exact r_nilCheck rfl) rfl rfl rfl ?_
    -- R35.2 102 := diskm.go:117 fieldAddr
    refine WL.v (by exact r_field ty_fld48_4 rfl) rfl rfl rfl ?_
    -- R35.3 103 := diskm.go:117 load
    refine WL.v (by exact r_load1 (v := .bool false) ty_one4 rfl (by rw [← hd]; exact st.c2 (by decide))) rfl rfl rfl ?_
    refine WL.fin hK1333 (fun _ _ h => h) ?_
    refine WC.condF rfl rfl ?_
    refine WC.skipF hK1322 (fun _ _ h => h) ?_
    refine WC.seq fun K1334 hK1334 => ?_
    refine WC.seq fun K1335 hK1335 => ?_
    -- region 37
    refine WC.region ?_
    -- R37.0 105 := diskm.go:123 fieldAddr
    refine WL.v (by exact r_field ty_fld33_0 rfl) rfl rfl rfl ?_
    -- R37.1 106 := diskm.go:123 load
    refine WL.v (by exact r_load1 ty_one28 rfl (by first | assumption | exact st.c0 (by first | decide | omega) | exact st.c1 (by first | decide | omega) | exact st.c2 (by first | decide | omega) | exact st.c3 (by first | decide | omega) | exact st.c4 (by first | decide | omega) | exact st.c5 (by first | decide | omega) | exact st.c6 (by first | decide | omega) | exact st.c7 (by first | decide | omega) | exact st.c8 (by first | decide | omega))) rfl rfl rfl ?_
    refine WL.fin hK1335 (fun _ _ h => h) ?_
    refine WC.block ?_
    refine WC.seq fun K1336 hK1336 => ?_
    -- region 38
    refine WC.region ?_
    -- R38.0 108 := diskm.go:124 binOp
    refine WL.v (by first | exact r_eql rfl rfl (decide_eq_true (by omega)) | exact r_eql rfl rfl (decide_eq_false (by omega)) | exact r_eql rfl rfl rfl) rfl rfl rfl ?_
    -- R38.1 107 := diskm.go:124 assign
    refine WL.v (by first | exact r_assign (v := .bool _) rfl | exact r_assign rfl) rfl rfl rfl ?_
    refine WL.fin hK1336 (fun _ _ h => h) ?_
    refine WC.condF rfl rfl ?_
    refine WC.seq fun K1337 hK1337 => ?_
    -- region 57
    refine WC.region ?_
    -- R57.0 211 := diskm.go:147 binOp
    refine WL.v (by first | exact r_eql rfl rfl (decide_eq_true (by omega)) | exact r_eql rfl rfl (decide_eq_false (by omega)) | exact r_eql rfl rfl rfl) rfl rfl rfl ?_
    -- R57.1 210 := diskm.go:147 assign
    refine WL.v (by first | exact r_assign (v := .bool _) rfl | exact r_assign rfl) rfl rfl rfl ?_
    refine WL.fin hK1337 (fun _ _ h => h) ?_
    refine WC.condF rfl rfl ?_
    refine WC.seq fun K1338 hK1338 => ?_
    -- region 68
    refine WC.region ?_
    -- R68.0 241 := diskm.go:159 binOp
    refine WL.v (by first | exact r_eql rfl rfl (decide_eq_true (by omega)) | exact r_eql rfl rfl (decide_eq_false (by omega)) | exact r_eql rfl rfl rfl) rfl rfl rfl ?_
    -- R68.1 240 := diskm.go:159 assign
    refine WL.v (by first | exact r_assign (v := .bool _) rfl | exact r_assign rfl) rfl rfl rfl ?_
    refine WL.fin hK1338 (fun _ _ h => h) ?_
    refine WC.condF rfl rfl ?_
    refine WC.seq fun K1339 hK1339 => ?_
    -- region 75
    refine WC.region ?_
    -- R75.0 259 := diskm.go:164 binOp
    refine WL.v (by first | exact r_eql rfl rfl (decide_eq_true (by omega)) | exact r_eql rfl rfl (decide_eq_false (by omega)) | exact r_eql rfl rfl rfl) rfl rfl rfl ?_
    -- R75.1 258 := diskm.go:164 assign
    refine WL.v (by first | exact r_assign (v := .bool _) rfl | exact r_assign rfl) rfl rfl rfl ?_
    refine WL.fin hK1339 (fun _ _ h => h) ?_
    refine WC.condF rfl rfl ?_
    refine WC.seq fun K1340 hK1340 => ?_
    -- region 77
    refine WC.region ?_
    -- R77.0 265 := diskm.go:166 binOp
    refine WL.v (by first | exact r_eql rfl rfl (decide_eq_true (by omega)) | exact r_eql rfl rfl (decide_eq_false (by omega)) | exact r_eql rfl rfl rfl) rfl rfl rfl ?_
    -- R77.1 264 := diskm.go:166 assign
    refine WL.v (by first | exact r_assign (v := .bool _) rfl | exact r_assign rfl) rfl rfl rfl ?_
    refine WL.fin hK1340 (fun _ _ h => h) ?_
    refine WC.condT rfl rfl ?_
    refine WC.seq fun K1341 hK1341 => ?_
    refine WC.seq fun K1342 hK1342 => ?_
    -- region 78
    refine WC.region ?_
    -- R78.0 266 := diskm.go:167 fieldAddr
    refine WL.v (by exact r_field ty_fld33_5 rfl) rfl rfl rfl ?_
    -- R78.1 267 := diskm.go:167 load
    refine WL.v (by exact r_load1 ty_one2 rfl (by first | assumption | exact st.c0 (by first | decide | omega) | exact st.c1 (by first | decide | omega) | exact st.c2 (by first | decide | omega) | exact st.c3 (by first | decide | omega) | exact st.c4 (by first | decide | omega) | exact st.c5 (by first | decide | omega) | exact st.c6 (by first | decide | omega) | exact st.c7 (by first | decide | omega) | exact st.c8 (by first | decide | omega))) rfl rfl rfl ?_
    -- R78.2 268 := diskm.go:167 binOp
    refine WL.v (by first | exact r_lss rfl rfl (decide_eq_true (by omega)) | exact r_lss rfl rfl (decide_eq_false (by omega)) | exact r_lss rfl rfl rfl) rfl rfl rfl ?_
    refine WL.fin hK1342 (fun _ _ h => h) ?_
    refine WC.condF rfl rfl ?_
    refine WC.skipF hK1341 (fun _ _ h => h) ?_
    -- region 80 (draws)
    refine WC.mixS [(0, true), (1, true), (2, true), (3, true), (4, true), (5, true), (6, true), (7, true), (8, true), (9, false), (10, true), (11, true), (12, false), (13, true), (14, true), (15, false)] st (st_at1 st) ty_mixed (by kernel_rfl) fun w st => ?_
    -- R80.0 270 := diskm.go:170 move
    refine ML.v (fun w st => by first | exact r_move (v := .pointer _) rfl | exact r_move rfl) rfl rfl rfl ?_
    -- R80.1 271 := diskm.go:170 move
    refine ML.v (fun w st => by first | exact r_move (v := .pointer _) rfl | exact r_move rfl) rfl rfl rfl ?_
    -- R80.2 272 := diskm.go:170 move
    refine ML.v (fun w st => by first | exact r_move (v := .pointer _) rfl | exact r_move rfl) rfl rfl rfl ?_
    -- R80.3 273 := diskm.go:170 fieldAddr
    refine ML.v (fun w st => by exact r_field ty_fld33_5 rfl) rfl rfl rfl ?_
    -- R80.4 274 := diskm.go:170 load
    refine ML.v (fun w st => by exact r_load1 ty_one2 rfl (by first | assumption | exact st.c0 (by first | decide | omega) | exact st.c1 (by first | decide | omega) | exact st.c2 (by first | decide | omega) | exact st.c3 (by first | decide | omega) | exact st.c4 (by first | decide | omega) | exact st.c5 (by first | decide | omega) | exact st.c6 (by first | decide | omega) | exact st.c7 (by first | decide | omega) | exact st.c8 (by first | decide | omega))) rfl rfl rfl ?_
    -- R80.5 275 := diskm.go:170 fieldAddr
    refine ML.v (fun w st => by exact r_field ty_fld33_6 rfl) rfl rfl rfl ?_
    -- R80.6 276 := diskm.go:170 load
    refine ML.v (fun w st => by exact r_loadL (vs := [_, _, _]) ty_agg31 rfl ⟨(by first | assumption | exact st.c0 (by first | decide | omega) | exact st.c1 (by first | decide | omega) | exact st.c2 (by first | decide | omega) | exact st.c3 (by first | decide | omega) | exact st.c4 (by first | decide | omega) | exact st.c5 (by first | decide | omega) | exact st.c6 (by first | decide | omega) | exact st.c7 (by first | decide | omega) | exact st.c8 (by first | decide | omega)), (by first | assumption | exact st.c0 (by first | decide | omega) | exact st.c1 (by first | decide | omega) | exact st.c2 (by first | decide | omega) | exact st.c3 (by first | decide | omega) | exact st.c4 (by first | decide | omega) | exact st.c5 (by first | decide | omega) | exact st.c6 (by first | decide | omega) | exact st.c7 (by first | decide | omega) | exact st.c8 (by first | decide | omega)), (by first | assumption | exact st.c0 (by first | decide | omega) | exact st.c1 (by first | decide | omega) | exact st.c2 (by first | decide | omega) | exact st.c3 (by first | decide | omega) | exact st.c4 (by first | decide | omega) | exact st.c5 (by first | decide | omega) | exact st.c6 (by first | decide | omega) | exact st.c7 (by first | decide | omega) | exact st.c8 (by first | decide | omega)), trivial⟩) rfl rfl rfl ?_
    -- R80.7 277 := diskm.go:170 nilCheck
    refine ML.v (fun w st => by exact r_nilCheck rfl) rfl rfl rfl ?_
    -- R80.8 278 := diskm.go:170 fieldAddr
    refine ML.v (fun w st => by exact r_field ty_fld48_5 rfl) rfl rfl rfl ?_
    refine ML.at ?_
    -- R80.9 None := diskm.go:170 store
    first | refine WL.store (v := .bool _) st ty_one4 rfl rfl rfl (by first | decide | omega) rfl rfl ?_ | refine WL.store (v := _) st ty_one4 rfl rfl rfl (by first | decide | omega) rfl rfl ?_ | refine WL.store (v := .bool _) st.front1 ty_one4 rfl rfl rfl (by first | decide | omega) rfl rfl ?_ | refine WL.store (v := _) st.front1 ty_one4 rfl rfl rfl (by first | decide | omega) rfl rfl ?_ | refine WL.store (v := .bool _) st.front2 ty_one4 rfl rfl rfl (by first | decide | omega) rfl rfl ?_ | refine WL.store (v := _) st.front2 ty_one4 rfl rfl rfl (by first | decide | omega) rfl rfl ?_ | refine WL.store (v := .bool _) st.front3 ty_one4 rfl rfl rfl (by first | decide | omega) rfl rfl ?_ | refine WL.store (v := _) st.front3 ty_one4 rfl rfl rfl (by first | decide | omega) rfl rfl ?_ | refine WL.store (v := .bool _) st.front4 ty_one4 rfl rfl rfl (by first | decide | omega) rfl rfl ?_ | refine WL.store (v := _) st.front4 ty_one4 rfl rfl rfl (by first | decide | omega) rfl rfl ?_ | refine WL.store (v := .bool _) st.front5 ty_one4 rfl rfl rfl (by first | decide | omega) rfl rfl ?_ | refine WL.store (v := _) st.front5 ty_one4 rfl rfl rfl (by first | decide | omega) rfl rfl ?_ | refine WL.store (v := .bool _) st.front6 ty_one4 rfl rfl rfl (by first | decide | omega) rfl rfl ?_ | refine WL.store (v := _) st.front6 ty_one4 rfl rfl rfl (by first | decide | omega) rfl rfl ?_ | refine WL.store (v := .bool _) st.front7 ty_one4 rfl rfl rfl (by first | decide | omega) rfl rfl ?_ | refine WL.store (v := _) st.front7 ty_one4 rfl rfl rfl (by first | decide | omega) rfl rfl ?_ | refine WL.store (v := .bool _) st.front8 ty_one4 rfl rfl rfl (by first | decide | omega) rfl rfl ?_ | refine WL.store (v := _) st.front8 ty_one4 rfl rfl rfl (by first | decide | omega) rfl rfl ?_
    intro w st
    refine ML.nxt ((by first | exact st_at1 st | exact st_at2 st)) ?_
    -- R80.10 279 := diskm.go:170 nilCheck
    refine ML.v (fun w st => by exact r_nilCheck rfl) rfl rfl rfl ?_
    -- R80.11 280 := diskm.go:170 fieldAddr
    refine ML.v (fun w st => by exact r_field ty_fld48_6 rfl) rfl rfl rfl ?_
    refine ML.at ?_
    -- R80.12 None := diskm.go:170 store
    first | refine WL.store (v := .int _ _) st ty_one2 rfl rfl rfl (by first | decide | omega) rfl rfl ?_ | refine WL.store (v := _) st ty_one2 rfl rfl rfl (by first | decide | omega) rfl rfl ?_ | refine WL.store (v := .int _ _) st.front1 ty_one2 rfl rfl rfl (by first | decide | omega) rfl rfl ?_ | refine WL.store (v := _) st.front1 ty_one2 rfl rfl rfl (by first | decide | omega) rfl rfl ?_ | refine WL.store (v := .int _ _) st.front2 ty_one2 rfl rfl rfl (by first | decide | omega) rfl rfl ?_ | refine WL.store (v := _) st.front2 ty_one2 rfl rfl rfl (by first | decide | omega) rfl rfl ?_ | refine WL.store (v := .int _ _) st.front3 ty_one2 rfl rfl rfl (by first | decide | omega) rfl rfl ?_ | refine WL.store (v := _) st.front3 ty_one2 rfl rfl rfl (by first | decide | omega) rfl rfl ?_ | refine WL.store (v := .int _ _) st.front4 ty_one2 rfl rfl rfl (by first | decide | omega) rfl rfl ?_ | refine WL.store (v := _) st.front4 ty_one2 rfl rfl rfl (by first | decide | omega) rfl rfl ?_ | refine WL.store (v := .int _ _) st.front5 ty_one2 rfl rfl rfl (by first | decide | omega) rfl rfl ?_ | refine WL.store (v := _) st.front5 ty_one2 rfl rfl rfl (by first | decide | omega) rfl rfl ?_ | refine WL.store (v := .int _ _) st.front6 ty_one2 rfl rfl rfl (by first | decide | omega) rfl rfl ?_ | refine WL.store (v := _) st.front6 ty_one2 rfl rfl rfl (by first | decide | omega) rfl rfl ?_ | refine WL.store (v := .int _ _) st.front7 ty_one2 rfl rfl rfl (by first | decide | omega) rfl rfl ?_ | refine WL.store (v := _) st.front7 ty_one2 rfl rfl rfl (by first | decide | omega) rfl rfl ?_ | refine WL.store (v := .int _ _) st.front8 ty_one2 rfl rfl rfl (by first | decide | omega) rfl rfl ?_ | refine WL.store (v := _) st.front8 ty_one2 rfl rfl rfl (by first | decide | omega) rfl rfl ?_
    intro w st
    refine ML.nxt ((by first | exact st_at1 st | exact st_at2 st)) ?_
    -- R80.13 281 := diskm.go:170 nilCheck
    refine ML.v (fun w st => by exact r_nilCheck rfl) rfl rfl rfl ?_
    -- R80.14 282 := diskm.go:170 fieldAddr
    refine ML.v (fun w st => by exact r_field ty_fld48_7 rfl) rfl rfl rfl ?_
    refine ML.at ?_
    -- R80.15 None := diskm.go:170 store
    first | refine WL.storeW (vs := [_, _, _]) st ty_agg31 rfl rfl rfl rfl rfl rfl ?_ | refine WL.storeL (vs := [_, _, _]) st ty_agg31 rfl rfl rfl rfl (by first | decide | omega) rfl rfl ?_ | refine WL.storeW (vs := [_, _, _]) st.front1 ty_agg31 rfl rfl rfl rfl rfl rfl ?_ | refine WL.storeL (vs := [_, _, _]) st.front1 ty_agg31 rfl rfl rfl rfl (by first | decide | omega) rfl rfl ?_ | refine WL.storeW (vs := [_, _, _]) st.front2 ty_agg31 rfl rfl rfl rfl rfl rfl ?_ | refine WL.storeL (vs := [_, _, _]) st.front2 ty_agg31 rfl rfl rfl rfl (by first | decide | omega) rfl rfl ?_ | refine WL.storeW (vs := [_, _, _]) st.front3 ty_agg31 rfl rfl rfl rfl rfl rfl ?_ | refine WL.storeL (vs := [_, _, _]) st.front3 ty_agg31 rfl rfl rfl rfl (by first | decide | omega) rfl rfl ?_ | refine WL.storeW (vs := [_, _, _]) st.front4 ty_agg31 rfl rfl rfl rfl rfl rfl ?_ | refine WL.storeL (vs := [_, _, _]) st.front4 ty_agg31 rfl rfl rfl rfl (by first | decide | omega) rfl rfl ?_ | refine WL.storeW (vs := [_, _, _]) st.front5 ty_agg31 rfl rfl rfl rfl rfl rfl ?_ | refine WL.storeL (vs := [_, _, _]) st.front5 ty_agg31 rfl rfl rfl rfl (by first | decide | omega) rfl rfl ?_ | refine WL.storeW (vs := [_, _, _]) st.front6 ty_agg31 rfl rfl rfl rfl rfl rfl ?_ | refine WL.storeL (vs := [_, _, _]) st.front6 ty_agg31 rfl rfl rfl rfl (by first | decide | omega) rfl rfl ?_ | refine WL.storeW (vs := [_, _, _]) st.front7 ty_agg31 rfl rfl rfl rfl rfl rfl ?_ | refine WL.storeL (vs := [_, _, _]) st.front7 ty_agg31 rfl rfl rfl rfl (by first | decide | omega) rfl rfl ?_ | refine WL.storeW (vs := [_, _, _]) st.front8 ty_agg31 rfl rfl rfl rfl rfl rfl ?_ | refine WL.storeL (vs := [_, _, _]) st.front8 ty_agg31 rfl rfl rfl rfl (by first | decide | omega) rfl rfl ?_
    intro w st
    refine ML.nxt ((by first | exact st_at1 st | exact st_at2 st)) ?_
    refine ML.wl ?_
    refine WL.fin hK1334 (fun _ _ h => h) ?_
    refine WC.seq fun K1343 hK1343 => ?_
    -- region 83
    refine WC.region ?_
    -- R83.0 291 := diskm.go:174 build
    refine WL.v (by exact r_build (ps := []) (vs := [_, _]) ty_pl37 ty_zero37 rfl (fill_nil)) rfl rfl rfl ?_
    -- R83.1 None := diskm.go:174 store
    first | refine WL.storeW (vs := [_, _]) st ty_agg37 rfl rfl rfl rfl rfl rfl ?_ | refine WL.storeL (vs := [_, _]) st ty_agg37 rfl rfl rfl rfl (by first | decide | omega) rfl rfl ?_ | refine WL.storeW (vs := [_, _]) st.front1 ty_agg37 rfl rfl rfl rfl rfl rfl ?_ | refine WL.storeL (vs := [_, _]) st.front1 ty_agg37 rfl rfl rfl rfl (by first | decide | omega) rfl rfl ?_ | refine WL.storeW (vs := [_, _]) st.front2 ty_agg37 rfl rfl rfl rfl rfl rfl ?_ | refine WL.storeL (vs := [_, _]) st.front2 ty_agg37 rfl rfl rfl rfl (by first | decide | omega) rfl rfl ?_ | refine WL.storeW (vs := [_, _]) st.front3 ty_agg37 rfl rfl rfl rfl rfl rfl ?_ | refine WL.storeL (vs := [_, _]) st.front3 ty_agg37 rfl rfl rfl rfl (by first | decide | omega) rfl rfl ?_ | refine WL.storeW (vs := [_, _]) st.front4 ty_agg37 rfl rfl rfl rfl rfl rfl ?_ | refine WL.storeL (vs := [_, _]) st.front4 ty_agg37 rfl rfl rfl rfl (by first | decide | omega) rfl rfl ?_ | refine WL.storeW (vs := [_, _]) st.front5 ty_agg37 rfl rfl rfl rfl rfl rfl ?_ | refine WL.storeL (vs := [_, _]) st.front5 ty_agg37 rfl rfl rfl rfl (by first | decide | omega) rfl rfl ?_ | refine WL.storeW (vs := [_, _]) st.front6 ty_agg37 rfl rfl rfl rfl rfl rfl ?_ | refine WL.storeL (vs := [_, _]) st.front6 ty_agg37 rfl rfl rfl rfl (by first | decide | omega) rfl rfl ?_ | refine WL.storeW (vs := [_, _]) st.front7 ty_agg37 rfl rfl rfl rfl rfl rfl ?_ | refine WL.storeL (vs := [_, _]) st.front7 ty_agg37 rfl rfl rfl rfl (by first | decide | omega) rfl rfl ?_ | refine WL.storeW (vs := [_, _]) st.front8 ty_agg37 rfl rfl rfl rfl rfl rfl ?_ | refine WL.storeL (vs := [_, _]) st.front8 ty_agg37 rfl rfl rfl rfl (by first | decide | omega) rfl rfl ?_
    intro w st
    refine WL.fin hK1343 (fun _ _ h => h) ?_
    refine WC.retC (vs := [_, _]) Tryd.results15 (fun _ _ h => h) rfl ty_agg37 rfl ⟨(by first | assumption | exact st.c0 (by first | decide | omega) | exact st.c1 (by first | decide | omega) | exact st.c2 (by first | decide | omega) | exact st.c3 (by first | decide | omega) | exact st.c4 (by first | decide | omega) | exact st.c5 (by first | decide | omega) | exact st.c6 (by first | decide | omega) | exact st.c7 (by first | decide | omega) | exact st.c8 (by first | decide | omega)), (by first | assumption | exact st.c0 (by first | decide | omega) | exact st.c1 (by first | decide | omega) | exact st.c2 (by first | decide | omega) | exact st.c3 (by first | decide | omega) | exact st.c4 (by first | decide | omega) | exact st.c5 (by first | decide | omega) | exact st.c6 (by first | decide | omega) | exact st.c7 (by first | decide | omega) | exact st.c8 (by first | decide | omega)), trivial⟩ ?_
    exact ⟨_, rfl, MPost.none e (.inl (by omega)) (.inl (by omega)) (z' := { z with sv := o.kp, t := o.tear, tb := o.tb }) ⟨h.bk, h.own, ho.kp, ho.kpl, ho.kpr, fun _ => ⟨rfl, rfl, rfl⟩⟩ rfl (st_nrm (L' := [.int .i64 (P.sec : Nat), .int .i64 (P.lim : Nat), .map (some z.bm), z.wv, .bool P.down, .bool true, .int .i64 o.after, .slice o.kp.a o.kp.bs.length o.kp.c, .int .i64 o.tear, .int .i64 o.tb]) rfl st.drop.drop1)⟩
set_option maxHeartbeats 4000000 in
theorem stepM_crash {o : OP} {z : MZ} (hp : PWf P) (hfz : P.armed = true → -1000000001000 ≤ P.fuse ∧ P.fuse ≤ 9223372036854775807) (h : MI w0 P z) (ho : o.ok w0) (hk : o.kind = 4) (hd : P.down = false) (st : S0 w0 (mds bq P z l) w) :
    Calls Tryd.prog 15 #[.pointer (some ⟨bq, 0, none⟩), o.v] w (Ret (MPost w0 bq l P o)) := by
  unfold OP.v
  have e : stepP P o = (crashP P o.kp.bs o.tear o.tb, 0) := by unfold stepP; simp [hk]; unfold crashCP; rw [hd]; rfl
  refine enter [.pointer (some ⟨bq, 0, none⟩), .agg #[.int .i64 o.kind, .int .i64 o.sct, .int .i64 o.cnt, .int .i64 o.cache, .slice o.dat.a o.dat.bs.length o.dat.c, .int .i64 o.after, .slice o.kp.a o.kp.bs.length o.kp.c, .int .i64 o.tear, .int .i64 o.tb]] Tryd.func15 rfl Tryd.ntmps15 rfl ?_
  show WC _ _ _ 292 [] [(0, .pointer (some ⟨bq, 0, none⟩)), (1, .agg #[.int .i64 o.kind, .int .i64 o.sct, .int .i64 o.cnt, .int .i64 o.cache, .slice o.dat.a o.dat.bs.length o.dat.c, .int .i64 o.after, .slice o.kp.a o.kp.bs.length o.kp.c, .int .i64 o.tear, .int .i64 o.tb])] _
  refine WC.seq fun K1344 hK1344 => ?_
  -- region 0
  refine WC.region ?_
  -- R0.0 3 := diskm.go:83 box
  first | refine WL.box (m := 9) (vs := [.int _ _, .int _ _, .int _ _, .int _ _, .slice _ _ _, .int _ _, .slice _ _ _, .int _ _, .int _ _]) st rfl rfl rfl rfl rfl rfl ?_ | refine WL.box (m := 9) (vs := [_, _, _, _, _, _, _, _, _]) st rfl rfl rfl rfl rfl rfl ?_ | refine WL.box st rfl rfl rfl rfl rfl rfl ?_
  intro b3 w st
  -- R0.1 4 := diskm.go:83 alloc
  refine WL.alloc (m := 2) st ty_zero37 rfl rfl rfl ?_
  intro b4 w st
  refine WL.fin hK1344 (fun _ _ h => h) ?_
  refine WC.seq fun K1345 hK1345 => ?_
  refine WC.seq fun K1346 hK1346 => ?_
  -- region 1
  refine WC.region ?_
  -- R1.0 16 := diskm.go:84 fieldAddr
  refine WL.v (by exact r_field ty_fld33_0 rfl) rfl rfl rfl ?_
  -- R1.1 17 := diskm.go:84 load
  refine WL.v (by exact r_load1 ty_one28 rfl (by first | assumption | exact st.c0 (by first | decide | omega) | exact st.c1 (by first | decide | omega) | exact st.c2 (by first | decide | omega) | exact st.c3 (by first | decide | omega) | exact st.c4 (by first | decide | omega) | exact st.c5 (by first | decide | omega) | exact st.c6 (by first | decide | omega) | exact st.c7 (by first | decide | omega) | exact st.c8 (by first | decide | omega))) rfl rfl rfl ?_
  refine WL.fin hK1346 (fun _ _ h => h) ?_
  refine WC.block ?_
  refine WC.seq fun K1347 hK1347 => ?_
  -- region 3
  refine WC.region ?_
  -- R3.0 20 := diskm.go:85 binOp
  refine WL.v (by first | exact r_eql rfl rfl (decide_eq_true (by omega)) | exact r_eql rfl rfl (decide_eq_false (by omega)) | exact r_eql rfl rfl rfl) rfl rfl rfl ?_
  -- R3.1 19 := diskm.go:85 assign
  refine WL.v (by first | exact r_assign (v := .bool _) rfl | exact r_assign rfl) rfl rfl rfl ?_
  refine WL.fin hK1347 (fun _ _ h => h) ?_
  refine WC.condF rfl rfl ?_
  refine WC.seq fun K1348 hK1348 => ?_
  -- region 13
  refine WC.region ?_
  -- R13.0 52 := diskm.go:98 binOp
  refine WL.v (by first | exact r_eql rfl rfl (decide_eq_true (by omega)) | exact r_eql rfl rfl (decide_eq_false (by omega)) | exact r_eql rfl rfl rfl) rfl rfl rfl ?_
  -- R13.1 51 := diskm.go:98 assign
  refine WL.v (by first | exact r_assign (v := .bool _) rfl | exact r_assign rfl) rfl rfl rfl ?_
  refine WL.fin hK1348 (fun _ _ h => h) ?_
  refine WC.condF rfl rfl ?_
  refine WC.seq fun K1349 hK1349 => ?_
  -- region 24
  refine WC.region ?_
  -- R24.0 82 := diskm.go:110 binOp
  refine WL.v (by first | exact r_eql rfl rfl (decide_eq_true (by omega)) | exact r_eql rfl rfl (decide_eq_false (by omega)) | exact r_eql rfl rfl rfl) rfl rfl rfl ?_
  -- R24.1 81 := diskm.go:110 assign
  refine WL.v (by first | exact r_assign (v := .bool _) rfl | exact r_assign rfl) rfl rfl rfl ?_
  refine WL.fin hK1349 (fun _ _ h => h) ?_
  refine WC.condF rfl rfl ?_
  refine WC.seq fun K1350 hK1350 => ?_
  refine WC.seq fun K1351 hK1351 => ?_
  -- region 29
  refine WC.region ?_
  -- R29.0 94 := diskm.go:116 binOp
  refine WL.v (by first | exact r_eql rfl rfl (decide_eq_true (by omega)) | exact r_eql rfl rfl (decide_eq_false (by omega)) | exact r_eql rfl rfl rfl) rfl rfl rfl ?_
  -- R29.1 93 := diskm.go:116 assign
  refine WL.v (by first | exact r_assign (v := .bool _) rfl | exact r_assign rfl) rfl rfl rfl ?_
  refine WL.fin hK1351 (fun _ _ h => h) ?_
  refine WC.condF rfl rfl ?_
  refine WC.seq fun K1352 hK1352 => ?_
  -- region 30
  refine WC.region ?_
  -- R30.0 95 := diskm.go:116 binOp
  refine WL.v (by first | exact r_eql rfl rfl (decide_eq_true (by omega)) | exact r_eql rfl rfl (decide_eq_false (by omega)) | exact r_eql rfl rfl rfl) rfl rfl rfl ?_
  -- R30.1 93 := diskm.go:116 assign
  refine WL.v (by first | exact r_assign (v := .bool _) rfl | exact r_assign rfl) rfl rfl rfl ?_
  refine WL.fin hK1352 (fun _ _ h => h) ?_
  refine WC.condF rfl rfl ?_
  refine WC.seq fun K1353 hK1353 => ?_
  -- region 31
  refine WC.region ?_
  -- R31.0 96 := diskm.go:116 binOp
  refine WL.v (by first | exact r_eql rfl rfl (decide_eq_true (by omega)) | exact r_eql rfl rfl (decide_eq_false (by omega)) | exact r_eql rfl rfl rfl) rfl rfl rfl ?_
  -- R31.1 93 := diskm.go:116 assign
  refine WL.v (by first | exact r_assign (v := .bool _) rfl | exact r_assign rfl) rfl rfl rfl ?_
  refine WL.fin hK1353 (fun _ _ h => h) ?_
  refine WC.condF rfl rfl ?_
  refine WC.seq fun K1354 hK1354 => ?_
  -- region 32
  refine WC.region ?_
  -- R32.0 97 := diskm.go:116 binOp
  refine WL.v (by first | exact r_eql rfl rfl (decide_eq_true (by omega)) | exact r_eql rfl rfl (decide_eq_false (by omega)) | exact r_eql rfl rfl rfl) rfl rfl rfl ?_
  -- R32.1 93 := diskm.go:116 assign
  refine WL.v (by first | exact r_assign (v := .bool _) rfl | exact r_assign rfl) rfl rfl rfl ?_
  refine WL.fin hK1354 (fun _ _ h => h) ?_
  refine WC.condT rfl rfl ?_
  refine WC.skipF hK1350 (fun _ _ h => h) ?_
  refine WC.condT rfl rfl ?_
  refine WC.seq fun K1355 hK1355 => ?_
  -- region 35
  refine WC.region ?_
  -- R35.0 100 := diskm.go:117 move
  refine WL.v (by first | exact r_move (v := .pointer _) rfl | exact r_move rfl) rfl rfl rfl ?_
  -- R35.1 101 := diskm.go:117 nilCheck
  refine WL.v (by exact r_nilCheck rfl) rfl rfl rfl ?_
  -- R35.2 102 := diskm.go:117 fieldAddr
  refine WL.v (by exact r_field ty_fld48_4 rfl) rfl rfl rfl ?_
  -- R35.3 103 := diskm.go:117 load
  refine WL.v (by exact r_load1 (v := .bool false) ty_one4 rfl (by rw [← hd]; exact st.c2 (by decide))) rfl rfl rfl ?_
  refine WL.fin hK1355 (fun _ _ h => h) ?_
  refine WC.condF rfl rfl ?_
  refine WC.skipF hK1345 (fun _ _ h => h) ?_
  refine WC.seq fun K1356 hK1356 => ?_
  refine WC.seq fun K1357 hK1357 => ?_
  -- region 37
  refine WC.region ?_
  -- R37.0 105 := diskm.go:123 fieldAddr
  refine WL.v (by exact r_field ty_fld33_0 rfl) rfl rfl rfl ?_
  -- R37.1 106 := diskm.go:123 load
  refine WL.v (by exact r_load1 ty_one28 rfl (by first | assumption | exact st.c0 (by first | decide | omega) | exact st.c1 (by first | decide | omega) | exact st.c2 (by first | decide | omega) | exact st.c3 (by first | decide | omega) | exact st.c4 (by first | decide | omega) | exact st.c5 (by first | decide | omega) | exact st.c6 (by first | decide | omega) | exact st.c7 (by first | decide | omega) | exact st.c8 (by first | decide | omega))) rfl rfl rfl ?_
  refine WL.fin hK1357 (fun _ _ h => h) ?_
  refine WC.block ?_
  refine WC.seq fun K1358 hK1358 => ?_
  -- region 38
  refine WC.region ?_
  -- R38.0 108 := diskm.go:124 binOp
  refine WL.v (by first | exact r_eql rfl rfl (decide_eq_true (by omega)) | exact r_eql rfl rfl (decide_eq_false (by omega)) | exact r_eql rfl rfl rfl) rfl rfl rfl ?_
  -- R38.1 107 := diskm.go:124 assign
  refine WL.v (by first | exact r_assign (v := .bool _) rfl | exact r_assign rfl) rfl rfl rfl ?_
  refine WL.fin hK1358 (fun _ _ h => h) ?_
  refine WC.condF rfl rfl ?_
  refine WC.seq fun K1359 hK1359 => ?_
  -- region 57
  refine WC.region ?_
  -- R57.0 211 := diskm.go:147 binOp
  refine WL.v (by first | exact r_eql rfl rfl (decide_eq_true (by omega)) | exact r_eql rfl rfl (decide_eq_false (by omega)) | exact r_eql rfl rfl rfl) rfl rfl rfl ?_
  -- R57.1 210 := diskm.go:147 assign
  refine WL.v (by first | exact r_assign (v := .bool _) rfl | exact r_assign rfl) rfl rfl rfl ?_
  refine WL.fin hK1359 (fun _ _ h => h) ?_
  refine WC.condF rfl rfl ?_
  refine WC.seq fun K1360 hK1360 => ?_
  -- region 68
  refine WC.region ?_
  -- R68.0 241 := diskm.go:159 binOp
  refine WL.v (by first | exact r_eql rfl rfl (decide_eq_true (by omega)) | exact r_eql rfl rfl (decide_eq_false (by omega)) | exact r_eql rfl rfl rfl) rfl rfl rfl ?_
  -- R68.1 240 := diskm.go:159 assign
  refine WL.v (by first | exact r_assign (v := .bool _) rfl | exact r_assign rfl) rfl rfl rfl ?_
  refine WL.fin hK1360 (fun _ _ h => h) ?_
  refine WC.condF rfl rfl ?_
  refine WC.seq fun K1361 hK1361 => ?_
  -- region 75
  refine WC.region ?_
  -- R75.0 259 := diskm.go:164 binOp
  refine WL.v (by first | exact r_eql rfl rfl (decide_eq_true (by omega)) | exact r_eql rfl rfl (decide_eq_false (by omega)) | exact r_eql rfl rfl rfl) rfl rfl rfl ?_
  -- R75.1 258 := diskm.go:164 assign
  refine WL.v (by first | exact r_assign (v := .bool _) rfl | exact r_assign rfl) rfl rfl rfl ?_
  refine WL.fin hK1361 (fun _ _ h => h) ?_
  refine WC.condT rfl rfl ?_
  -- region 76
  refine WC.region ?_
  -- R76.0 260 := diskm.go:165 move
  refine WL.v (by first | exact r_move (v := .pointer _) rfl | exact r_move rfl) rfl rfl rfl ?_
  -- R76.1 261 := diskm.go:165 fieldAddr
  refine WL.v (by exact r_field ty_fld33_6 rfl) rfl rfl rfl ?_
  -- R76.2 262 := diskm.go:165 load
  refine WL.v (by exact r_loadL (vs := [_, _, _]) ty_agg31 rfl ⟨(by first | assumption | exact st.c0 (by first | decide | omega) | exact st.c1 (by first | decide | omega) | exact st.c2 (by first | decide | omega) | exact st.c3 (by first | decide | omega) | exact st.c4 (by first | decide | omega) | exact st.c5 (by first | decide | omega) | exact st.c6 (by first | decide | omega) | exact st.c7 (by first | decide | omega) | exact st.c8 (by first | decide | omega)), (by first | assumption | exact st.c0 (by first | decide | omega) | exact st.c1 (by first | decide | omega) | exact st.c2 (by first | decide | omega) | exact st.c3 (by first | decide | omega) | exact st.c4 (by first | decide | omega) | exact st.c5 (by first | decide | omega) | exact st.c6 (by first | decide | omega) | exact st.c7 (by first | decide | omega) | exact st.c8 (by first | decide | omega)), (by first | assumption | exact st.c0 (by first | decide | omega) | exact st.c1 (by first | decide | omega) | exact st.c2 (by first | decide | omega) | exact st.c3 (by first | decide | omega) | exact st.c4 (by first | decide | omega) | exact st.c5 (by first | decide | omega) | exact st.c6 (by first | decide | omega) | exact st.c7 (by first | decide | omega) | exact st.c8 (by first | decide | omega)), trivial⟩) rfl rfl rfl ?_
  -- R76.3 263 := diskm.go:165 call
  refine WL.call (r_call ty_call46 rfl) rfl rfl rfl (crashMM_ok (P := P) (l := _) o.kp o.tear o.tb h.bk h.own hp ho.kp ho.kpl ho.kpr (fun x hx => List.mem_cons_of_mem _ (List.mem_cons_of_mem _ (List.mem_append_right _ (List.mem_append_left _ hx)))) (fun x hx => List.mem_cons_of_mem _ (List.mem_cons_of_mem _ (List.mem_append_left _ hx))) (st.perm (List.perm_append_comm_assoc [_, _] [_, _] _))) ?_
  rintro _ w ⟨NS', KN, rfl, hbk', st⟩
  have st := st_co st
  refine WL.fin hK1356 (fun _ _ h => h) ?_
  refine WC.seq fun K1362 hK1362 => ?_
  -- region 83
  refine WC.region ?_
  -- R83.0 291 := diskm.go:174 build
  refine WL.v (by exact r_build (ps := []) (vs := [_, _]) ty_pl37 ty_zero37 rfl (fill_nil)) rfl rfl rfl ?_
  -- R83.1 None := diskm.go:174 store
  first | refine WL.storeW (vs := [_, _]) st ty_agg37 rfl rfl rfl rfl rfl rfl ?_ | refine WL.storeL (vs := [_, _]) st ty_agg37 rfl rfl rfl rfl (by first | decide | omega) rfl rfl ?_ | refine WL.storeW (vs := [_, _]) st.front1 ty_agg37 rfl rfl rfl rfl rfl rfl ?_ | refine WL.storeL (vs := [_, _]) st.front1 ty_agg37 rfl rfl rfl rfl (by first | decide | omega) rfl rfl ?_ | refine WL.storeW (vs := [_, _]) st.front2 ty_agg37 rfl rfl rfl rfl rfl rfl ?_ | refine WL.storeL (vs := [_, _]) st.front2 ty_agg37 rfl rfl rfl rfl (by first | decide | omega) rfl rfl ?_ | refine WL.storeW (vs := [_, _]) st.front3 ty_agg37 rfl rfl rfl rfl rfl rfl ?_ | refine WL.storeL (vs := [_, _]) st.front3 ty_agg37 rfl rfl rfl rfl (by first | decide | omega) rfl rfl ?_ | refine WL.storeW (vs := [_, _]) st.front4 ty_agg37 rfl rfl rfl rfl rfl rfl ?_ | refine WL.storeL (vs := [_, _]) st.front4 ty_agg37 rfl rfl rfl rfl (by first | decide | omega) rfl rfl ?_ | refine WL.storeW (vs := [_, _]) st.front5 ty_agg37 rfl rfl rfl rfl rfl rfl ?_ | refine WL.storeL (vs := [_, _]) st.front5 ty_agg37 rfl rfl rfl rfl (by first | decide | omega) rfl rfl ?_ | refine WL.storeW (vs := [_, _]) st.front6 ty_agg37 rfl rfl rfl rfl rfl rfl ?_ | refine WL.storeL (vs := [_, _]) st.front6 ty_agg37 rfl rfl rfl rfl (by first | decide | omega) rfl rfl ?_ | refine WL.storeW (vs := [_, _]) st.front7 ty_agg37 rfl rfl rfl rfl rfl rfl ?_ | refine WL.storeL (vs := [_, _]) st.front7 ty_agg37 rfl rfl rfl rfl (by first | decide | omega) rfl rfl ?_ | refine WL.storeW (vs := [_, _]) st.front8 ty_agg37 rfl rfl rfl rfl rfl rfl ?_ | refine WL.storeL (vs := [_, _]) st.front8 ty_agg37 rfl rfl rfl rfl (by first | decide | omega) rfl rfl ?_
  intro w st
  refine WL.fin hK1362 (fun _ _ h => h) ?_
  refine WC.retC (vs := [_, _]) Tryd.results15 (fun _ _ h => h) rfl ty_agg37 rfl ⟨(by first | assumption | exact st.c0 (by first | decide | omega) | exact st.c1 (by first | decide | omega) | exact st.c2 (by first | decide | omega) | exact st.c3 (by first | decide | omega) | exact st.c4 (by first | decide | omega) | exact st.c5 (by first | decide | omega) | exact st.c6 (by first | decide | omega) | exact st.c7 (by first | decide | omega) | exact st.c8 (by first | decide | omega)), (by first | assumption | exact st.c0 (by first | decide | omega) | exact st.c1 (by first | decide | omega) | exact st.c2 (by first | decide | omega) | exact st.c3 (by first | decide | omega) | exact st.c4 (by first | decide | omega) | exact st.c5 (by first | decide | omega) | exact st.c6 (by first | decide | omega) | exact st.c7 (by first | decide | omega) | exact st.c8 (by first | decide | omega)), trivial⟩ ?_
  exact ⟨_, rfl, MPost.none e (.inl (by omega)) (.inl (by omega)) (z' := { z with NS := NS', wv := .slice .none 0 0, XW := [], K := KN ++ z.K }) ⟨hbk', OwnP.nil _ _ _, h.svo, h.svl, h.svr, (fun h => by cases h)⟩ rfl (st_cr st)⟩
end Go.Proofs.Qxb6500837aDoor

