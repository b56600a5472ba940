import Derived.Test.Qxb6500837aDoorD37
set_option linter.unusedVariables false
set_option linter.unusedSimpArgs false
set_option maxRecDepth 20000
namespace Go.Proofs.Qxb6500837aDoor
open Go.RowKit Go.E1 Go.Disk
variable {w0 : World} {L L' l I J K K' : List HI} {w : World} {D : DK} {m : Int} {P : PD} {q : Obj → Prop} {NS : Int → Option Value} {f : Nat → Value}
variable {bq bm : Nat} {wv kv : Value} {t tb : Int} {pc : Nat → Nat → Int} {pend : List (Nat × (Nat → Int))}


theorem st_sy {a b i x y z : HI} {r : List HI} (st : S0 w0 (x :: y :: i :: z :: a :: b :: r) w) : S0 w0 (a :: b :: x :: y :: i :: r) w := st.drop3.perm (List.perm_append_comm_assoc [_, _, _] [_, _] _)
theorem st_syf {a b x y : HI} {KN XW K l : List HI} (st : S0 w0 (a :: x :: b :: y :: (KN ++ (XW ++ (K ++ l)))) w) : S0 w0 (x :: y :: ([] ++ ((KN ++ K) ++ l))) w :=
  st.drop.drop1.sublist (.cons_cons _ (.cons_cons _ (by rw [List.nil_append, List.append_assoc]; exact (List.sublist_append_right _ _).append_left _)))

set_option maxHeartbeats 8000000 in
theorem stepM_sync {o : OP} {z : MZ} (hp : PWf P) (h : MI w0 P z) (hk : o.kind = 3) (hd : P.down = false) (st : S0 w0 (mds bq P z l) w) :
    Calls Tryd.prog 15 #[.pointer (some ⟨bq, 0, none⟩), o.v] w (Ret (MPost w0 bq l P o)) := by
  have e : stepP P o = ({ P with pc := settle P.pc P.pend, pend := [] }, 0) := by unfold stepP; simp [hk]; unfold syncP; rw [hd]; rfl
  unfold OP.v
  obtain ⟨bm, NS, wv, XW, f, K, sv, t, tb⟩ := z
  obtain ⟨hbk, hown, hso, hsl, hsr, harm⟩ := h
  dsimp only at hbk hown hso hsl hsr harm st
  obtain ⟨wa, wc, wb, wo, rfl, hwc, hwa, hwrd⟩ := hown.form
  have hple := hp.ple; have hl2 := hp.l2; have hs2 := hp.s2
  refine enter [.pointer (some ⟨bq, 0, none⟩), .agg #[.int .i64 o.kind, .int .i64 o.sct, .int .i64 o.cnt, .int .i64 o.cache, .slice o.dat.a o.dat.bs.length o.dat.c, .int .i64 o.after, .slice o.kp.a o.kp.bs.length o.kp.c, .int .i64 o.tear, .int .i64 o.tb]] Tryd.func15 rfl Tryd.ntmps15 rfl ?_
  show WC _ _ _ 292 [] [(0, .pointer (some ⟨bq, 0, none⟩)), (1, .agg #[.int .i64 o.kind, .int .i64 o.sct, .int .i64 o.cnt, .int .i64 o.cache, .slice o.dat.a o.dat.bs.length o.dat.c, .int .i64 o.after, .slice o.kp.a o.kp.bs.length o.kp.c, .int .i64 o.tear, .int .i64 o.tb])] _
  refine WC.seq fun K1487 hK1487 => ?_
  -- region 0
  refine WC.region ?_
  -- R0.0 3 := diskm.go:83 box
  first | refine WL.box (m := 9) (vs := [.int _ _, .int _ _, .int _ _, .int _ _, .slice _ _ _, .int _ _, .slice _ _ _, .int _ _, .int _ _]) st rfl rfl rfl rfl rfl rfl ?_ | refine WL.box (m := 9) (vs := [_, _, _, _, _, _, _, _, _]) st rfl rfl rfl rfl rfl rfl ?_ | refine WL.box st rfl rfl rfl rfl rfl rfl ?_
  intro b3 w st
  -- R0.1 4 := diskm.go:83 alloc
  refine WL.alloc (m := 2) st ty_zero37 rfl rfl rfl ?_
  intro b4 w st
  refine WL.fin hK1487 (fun _ _ h => h) ?_
  refine WC.seq fun K1488 hK1488 => ?_
  refine WC.seq fun K1489 hK1489 => ?_
  -- region 1
  refine WC.region ?_
  -- R1.0 16 := diskm.go:84 fieldAddr
  refine WL.v (by exact r_field ty_fld33_0 rfl) rfl rfl rfl ?_
  -- R1.1 17 := diskm.go:84 load
  refine WL.v (by exact r_load1 ty_one28 rfl (by first | assumption | exact st.c0 (by first | decide | omega) | exact st.c1 (by first | decide | omega) | exact st.c2 (by first | decide | omega) | exact st.c3 (by first | decide | omega) | exact st.c4 (by first | decide | omega) | exact st.c5 (by first | decide | omega) | exact st.c6 (by first | decide | omega) | exact st.c7 (by first | decide | omega) | exact st.c8 (by first | decide | omega))) rfl rfl rfl ?_
  refine WL.fin hK1489 (fun _ _ h => h) ?_
  refine WC.block ?_
  refine WC.seq fun K1490 hK1490 => ?_
  -- region 3
  refine WC.region ?_
  -- R3.0 20 := diskm.go:85 binOp
  refine WL.v (by first | exact r_eql rfl rfl (decide_eq_true (by omega)) | exact r_eql rfl rfl (decide_eq_false (by omega)) | exact r_eql rfl rfl rfl) rfl rfl rfl ?_
  -- R3.1 19 := diskm.go:85 assign
  refine WL.v (by first | exact r_assign (v := .bool _) rfl | exact r_assign rfl) rfl rfl rfl ?_
  refine WL.fin hK1490 (fun _ _ h => h) ?_
  refine WC.condF rfl rfl ?_
  refine WC.seq fun K1491 hK1491 => ?_
  -- region 13
  refine WC.region ?_
  -- R13.0 52 := diskm.go:98 binOp
  refine WL.v (by first | exact r_eql rfl rfl (decide_eq_true (by omega)) | exact r_eql rfl rfl (decide_eq_false (by omega)) | exact r_eql rfl rfl rfl) rfl rfl rfl ?_
  -- R13.1 51 := diskm.go:98 assign
  refine WL.v (by first | exact r_assign (v := .bool _) rfl | exact r_assign rfl) rfl rfl rfl ?_
  refine WL.fin hK1491 (fun _ _ h => h) ?_
  refine WC.condF rfl rfl ?_
  refine WC.seq fun K1492 hK1492 => ?_
  -- region 24
  refine WC.region ?_
  -- R24.0 82 := diskm.go:110 binOp
  refine WL.v (by first | exact r_eql rfl rfl (decide_eq_true (by omega)) | exact r_eql rfl rfl (decide_eq_false (by omega)) | exact r_eql rfl rfl rfl) rfl rfl rfl ?_
  -- R24.1 81 := diskm.go:110 assign
  refine WL.v (by first | exact r_assign (v := .bool _) rfl | exact r_assign rfl) rfl rfl rfl ?_
  refine WL.fin hK1492 (fun _ _ h => h) ?_
  refine WC.condF rfl rfl ?_
  refine WC.seq fun K1493 hK1493 => ?_
  refine WC.seq fun K1494 hK1494 => ?_
  -- region 29
  refine WC.region ?_
  -- R29.0 94 := diskm.go:116 binOp
  refine WL.v (by first | exact r_eql rfl rfl (decide_eq_true (by omega)) | exact r_eql rfl rfl (decide_eq_false (by omega)) | exact r_eql rfl rfl rfl) rfl rfl rfl ?_
  -- R29.1 93 := diskm.go:116 assign
  refine WL.v (by first | exact r_assign (v := .bool _) rfl | exact r_assign rfl) rfl rfl rfl ?_
  refine WL.fin hK1494 (fun _ _ h => h) ?_
  refine WC.condF rfl rfl ?_
  refine WC.seq fun K1495 hK1495 => ?_
  -- region 30
  refine WC.region ?_
  -- R30.0 95 := diskm.go:116 binOp
  refine WL.v (by first | exact r_eql rfl rfl (decide_eq_true (by omega)) | exact r_eql rfl rfl (decide_eq_false (by omega)) | exact r_eql rfl rfl rfl) rfl rfl rfl ?_
  -- R30.1 93 := diskm.go:116 assign
  refine WL.v (by first | exact r_assign (v := .bool _) rfl | exact r_assign rfl) rfl rfl rfl ?_
  refine WL.fin hK1495 (fun _ _ h => h) ?_
  refine WC.condF rfl rfl ?_
  refine WC.seq fun K1496 hK1496 => ?_
  -- region 31
  refine WC.region ?_
  -- R31.0 96 := diskm.go:116 binOp
  refine WL.v (by first | exact r_eql rfl rfl (decide_eq_true (by omega)) | exact r_eql rfl rfl (decide_eq_false (by omega)) | exact r_eql rfl rfl rfl) rfl rfl rfl ?_
  -- R31.1 93 := diskm.go:116 assign
  refine WL.v (by first | exact r_assign (v := .bool _) rfl | exact r_assign rfl) rfl rfl rfl ?_
  refine WL.fin hK1496 (fun _ _ h => h) ?_
  refine WC.condT rfl rfl ?_
  refine WC.skipF hK1493 (fun _ _ h => h) ?_
  refine WC.condT rfl rfl ?_
  refine WC.seq fun K1497 hK1497 => ?_
  -- region 35
  refine WC.region ?_
  -- R35.0 100 := diskm.go:117 move
  refine WL.v (by first | exact r_move (v := .pointer _) rfl | exact r_move rfl) rfl rfl rfl ?_
  -- R35.1 101 := diskm.go:117 nilCheck
  refine WL.v (by exact r_nilCheck rfl) rfl rfl rfl ?_
  -- R35.2 102 := diskm.go:117 fieldAddr
  refine WL.v (by exact r_field ty_fld48_4 rfl) rfl rfl rfl ?_
  -- R35.3 103 := diskm.go:117 load
  refine WL.v (by exact r_load1 (v := .bool false) ty_one4 rfl (by rw [← hd]; exact st.c2 (by decide))) rfl rfl rfl ?_
  refine WL.fin hK1497 (fun _ _ h => h) ?_
  refine WC.condF rfl rfl ?_
  refine WC.skipF hK1488 (fun _ _ h => h) ?_
  refine WC.seq fun K1498 hK1498 => ?_
  refine WC.seq fun K1499 hK1499 => ?_
  -- region 37
  refine WC.region ?_
  -- R37.0 105 := diskm.go:123 fieldAddr
  refine WL.v (by exact r_field ty_fld33_0 rfl) rfl rfl rfl ?_
  -- R37.1 106 := diskm.go:123 load
  refine WL.v (by exact r_load1 ty_one28 rfl (by first | assumption | exact st.c0 (by first | decide | omega) | exact st.c1 (by first | decide | omega) | exact st.c2 (by first | decide | omega) | exact st.c3 (by first | decide | omega) | exact st.c4 (by first | decide | omega) | exact st.c5 (by first | decide | omega) | exact st.c6 (by first | decide | omega) | exact st.c7 (by first | decide | omega) | exact st.c8 (by first | decide | omega))) rfl rfl rfl ?_
  refine WL.fin hK1499 (fun _ _ h => h) ?_
  refine WC.block ?_
  refine WC.seq fun K1500 hK1500 => ?_
  -- region 38
  refine WC.region ?_
  -- R38.0 108 := diskm.go:124 binOp
  refine WL.v (by first | exact r_eql rfl rfl (decide_eq_true (by omega)) | exact r_eql rfl rfl (decide_eq_false (by omega)) | exact r_eql rfl rfl rfl) rfl rfl rfl ?_
  -- R38.1 107 := diskm.go:124 assign
  refine WL.v (by first | exact r_assign (v := .bool _) rfl | exact r_assign rfl) rfl rfl rfl ?_
  refine WL.fin hK1500 (fun _ _ h => h) ?_
  refine WC.condF rfl rfl ?_
  refine WC.seq fun K1501 hK1501 => ?_
  -- region 57
  refine WC.region ?_
  -- R57.0 211 := diskm.go:147 binOp
  refine WL.v (by first | exact r_eql rfl rfl (decide_eq_true (by omega)) | exact r_eql rfl rfl (decide_eq_false (by omega)) | exact r_eql rfl rfl rfl) rfl rfl rfl ?_
  -- R57.1 210 := diskm.go:147 assign
  refine WL.v (by first | exact r_assign (v := .bool _) rfl | exact r_assign rfl) rfl rfl rfl ?_
  refine WL.fin hK1501 (fun _ _ h => h) ?_
  refine WC.condF rfl rfl ?_
  refine WC.seq fun K1502 hK1502 => ?_
  -- region 68
  refine WC.region ?_
  -- R68.0 241 := diskm.go:159 binOp
  refine WL.v (by first | exact r_eql rfl rfl (decide_eq_true (by omega)) | exact r_eql rfl rfl (decide_eq_false (by omega)) | exact r_eql rfl rfl rfl) rfl rfl rfl ?_
  -- R68.1 240 := diskm.go:159 assign
  refine WL.v (by first | exact r_assign (v := .bool _) rfl | exact r_assign rfl) rfl rfl rfl ?_
  refine WL.fin hK1502 (fun _ _ h => h) ?_
  refine WC.condT rfl rfl ?_
  refine WC.seq fun K1503 hK1503 => ?_
  refine WC.seq fun K1504 hK1504 => ?_
  -- region 69
  refine WC.region ?_
  -- R69.0 242 := diskm.go:160 move
  refine WL.v (by first | exact r_move (v := .pointer _) rfl | exact r_move rfl) rfl rfl rfl ?_
  -- R69.1 243 := diskm.go:160 nilCheck
  refine WL.v (by exact r_nilCheck rfl) rfl rfl rfl ?_
  -- R69.2 244 := diskm.go:160 fieldAddr
  refine WL.v (by exact r_field ty_fld48_3 rfl) rfl rfl rfl ?_
  -- R69.3 245 := diskm.go:160 load
  refine WL.v (by exact r_load1 ty_one46 rfl (by first | assumption | exact st.c0 (by first | decide | omega) | exact st.c1 (by first | decide | omega) | exact st.c2 (by first | decide | omega) | exact st.c3 (by first | decide | omega) | exact st.c4 (by first | decide | omega) | exact st.c5 (by first | decide | omega) | exact st.c6 (by first | decide | omega) | exact st.c7 (by first | decide | omega) | exact st.c8 (by first | decide | omega))) rfl rfl rfl ?_
  -- R69.4 246 := diskm.go:160 call
  refine WL.v (by exact r_len ty_usl46 rfl) rfl rfl rfl ?_
  -- R69.5 247 := diskm.go:160 move
  refine WL.v (by first | exact r_move (v := .int _ _) rfl | exact r_move rfl) rfl rfl rfl ?_
  refine WL.fin hK1504 (fun _ _ h => h) ?_
  refine WC.block ?_
  refine WC.loop (ι := Nat × (Int → Option Value) × List HI) (fun y => [(0, .pointer (some ⟨bq, 0, none⟩)), (4, .pointer (some ⟨b4, 0, none⟩)), (245, .slice wa P.pend.length wc), (246, .int .i64 (P.pend.length : Nat)), (247, .int .i64 (y.1 : Nat))])
    (fun y w' => y.1 ≤ P.pend.length ∧ Bk w0 (y.2.2 ++ K) P.sec (settle P.pc (P.pend.take y.1)) P.pend y.2.1 f ∧ (∀ a b, 0 ≤ settle P.pc (P.pend.take y.1) a b ∧ settle P.pc (P.pend.take y.1) a b < 256) ∧ S0 w0 ((b4, Row 37 2 (nth [.int .i64 0, .slice none 0 0])) :: opI b3 o :: mdI bq bm P (.slice wa P.pend.length wc) (.slice sv.a sv.bs.length sv.c) t tb :: mpI bm y.2.1 :: (y.2.2 ++ (XW ++ (K ++ l)))) w') (fun y => P.pend.length - y.1) (0, NS, []) ⟨Nat.zero_le _, hbk, hp.pcr, st⟩ ?_ ?_
  · skip
    repeat (first | exact sub_nil _ | refine sub_cons rfl rfl ?_)
  rintro ⟨i, NI, KN⟩ w ⟨hi, hbi, hri, st⟩ K1 hK1
  dsimp only at hi hbi hri st ⊢
  by_cases hil : ¬ i < P.pend.length
  · skip
    refine WC.seq fun K1505 hK1505 => ?_
    -- region 70
    refine WC.region ?_
    -- R70.0 248 := diskm.go:160 binOp
    refine WL.v (by first | exact r_lss rfl rfl (decide_eq_true (by omega)) | exact r_lss rfl rfl (decide_eq_false (by omega)) | exact r_lss rfl rfl rfl) rfl rfl rfl ?_
    refine WL.fin hK1505 (fun _ _ h => h) ?_
    refine WC.seq fun K1506 hK1506 => ?_
    refine WC.condF rfl rfl ?_
    refine WC.exitF hK1503 (fun _ _ h => h) ?_
    -- region 74
    refine WC.region ?_
    -- R74.0 255 := diskm.go:163 move
    refine WL.v (by first | exact r_move (v := .pointer _) rfl | exact r_move rfl) rfl rfl rfl ?_
    -- R74.1 256 := diskm.go:163 nilCheck
    refine WL.v (by exact r_nilCheck rfl) rfl rfl rfl ?_
    -- R74.2 257 := diskm.go:163 fieldAddr
    refine WL.v (by exact r_field ty_fld48_3 rfl) rfl rfl rfl ?_
    -- R74.3 None := diskm.go:163 store
    first | refine WL.store (v := .slice _ _ _) st ty_one46 rfl rfl rfl (by first | decide | omega) rfl rfl ?_ | refine WL.store (v := _) st ty_one46 rfl rfl rfl (by first | decide | omega) rfl rfl ?_ | refine WL.store (v := .slice _ _ _) st.front1 ty_one46 rfl rfl rfl (by first | decide | omega) rfl rfl ?_ | refine WL.store (v := _) st.front1 ty_one46 rfl rfl rfl (by first | decide | omega) rfl rfl ?_ | refine WL.store (v := .slice _ _ _) st.front2 ty_one46 rfl rfl rfl (by first | decide | omega) rfl rfl ?_ | refine WL.store (v := _) st.front2 ty_one46 rfl rfl rfl (by first | decide | omega) rfl rfl ?_ | refine WL.store (v := .slice _ _ _) st.front3 ty_one46 rfl rfl rfl (by first | decide | omega) rfl rfl ?_ | refine WL.store (v := _) st.front3 ty_one46 rfl rfl rfl (by first | decide | omega) rfl rfl ?_ | refine WL.store (v := .slice _ _ _) st.front4 ty_one46 rfl rfl rfl (by first | decide | omega) rfl rfl ?_ | refine WL.store (v := _) st.front4 ty_one46 rfl rfl rfl (by first | decide | omega) rfl rfl ?_ | refine WL.store (v := .slice _ _ _) st.front5 ty_one46 rfl rfl rfl (by first | decide | omega) rfl rfl ?_ | refine WL.store (v := _) st.front5 ty_one46 rfl rfl rfl (by first | decide | omega) rfl rfl ?_ | refine WL.store (v := .slice _ _ _) st.front6 ty_one46 rfl rfl rfl (by first | decide | omega) rfl rfl ?_ | refine WL.store (v := _) st.front6 ty_one46 rfl rfl rfl (by first | decide | omega) rfl rfl ?_ | refine WL.store (v := .slice _ _ _) st.front7 ty_one46 rfl rfl rfl (by first | decide | omega) rfl rfl ?_ | refine WL.store (v := _) st.front7 ty_one46 rfl rfl rfl (by first | decide | omega) rfl rfl ?_ | refine WL.store (v := .slice _ _ _) st.front8 ty_one46 rfl rfl rfl (by first | decide | omega) rfl rfl ?_ | refine WL.store (v := _) st.front8 ty_one46 rfl rfl rfl (by first | decide | omega) rfl rfl ?_
    intro w st
    refine WL.fin hK1498 (fun _ _ h => h) ?_
    refine WC.seq fun K1507 hK1507 => ?_
    -- region 83
    refine WC.region ?_
    -- R83.0 291 := diskm.go:174 build
    refine WL.v (by exact r_build (ps := []) (vs := [_, _]) ty_pl37 ty_zero37 rfl (fill_nil)) rfl rfl rfl ?_
    -- R83.1 None := diskm.go:174 store
    first | refine WL.storeW (vs := [_, _]) st ty_agg37 rfl rfl rfl rfl rfl rfl ?_ | refine WL.storeL (vs := [_, _]) st ty_agg37 rfl rfl rfl rfl (by first | decide | omega) rfl rfl ?_ | refine WL.storeW (vs := [_, _]) st.front1 ty_agg37 rfl rfl rfl rfl rfl rfl ?_ | refine WL.storeL (vs := [_, _]) st.front1 ty_agg37 rfl rfl rfl rfl (by first | decide | omega) rfl rfl ?_ | refine WL.storeW (vs := [_, _]) st.front2 ty_agg37 rfl rfl rfl rfl rfl rfl ?_ | refine WL.storeL (vs := [_, _]) st.front2 ty_agg37 rfl rfl rfl rfl (by first | decide | omega) rfl rfl ?_ | refine WL.storeW (vs := [_, _]) st.front3 ty_agg37 rfl rfl rfl rfl rfl rfl ?_ | refine WL.storeL (vs := [_, _]) st.front3 ty_agg37 rfl rfl rfl rfl (by first | decide | omega) rfl rfl ?_ | refine WL.storeW (vs := [_, _]) st.front4 ty_agg37 rfl rfl rfl rfl rfl rfl ?_ | refine WL.storeL (vs := [_, _]) st.front4 ty_agg37 rfl rfl rfl rfl (by first | decide | omega) rfl rfl ?_ | refine WL.storeW (vs := [_, _]) st.front5 ty_agg37 rfl rfl rfl rfl rfl rfl ?_ | refine WL.storeL (vs := [_, _]) st.front5 ty_agg37 rfl rfl rfl rfl (by first | decide | omega) rfl rfl ?_ | refine WL.storeW (vs := [_, _]) st.front6 ty_agg37 rfl rfl rfl rfl rfl rfl ?_ | refine WL.storeL (vs := [_, _]) st.front6 ty_agg37 rfl rfl rfl rfl (by first | decide | omega) rfl rfl ?_ | refine WL.storeW (vs := [_, _]) st.front7 ty_agg37 rfl rfl rfl rfl rfl rfl ?_ | refine WL.storeL (vs := [_, _]) st.front7 ty_agg37 rfl rfl rfl rfl (by first | decide | omega) rfl rfl ?_ | refine WL.storeW (vs := [_, _]) st.front8 ty_agg37 rfl rfl rfl rfl rfl rfl ?_ | refine WL.storeL (vs := [_, _]) st.front8 ty_agg37 rfl rfl rfl rfl (by first | decide | omega) rfl rfl ?_
    intro w st
    refine WL.fin hK1507 (fun _ _ h => h) ?_
    refine WC.retC (vs := [_, _]) Tryd.results15 (fun _ _ h => h) rfl ty_agg37 rfl ⟨(by first | assumption | exact st.c0 (by first | decide | omega) | exact st.c1 (by first | decide | omega) | exact st.c2 (by first | decide | omega) | exact st.c3 (by first | decide | omega) | exact st.c4 (by first | decide | omega) | exact st.c5 (by first | decide | omega) | exact st.c6 (by first | decide | omega) | exact st.c7 (by first | decide | omega) | exact st.c8 (by first | decide | omega)), (by first | assumption | exact st.c0 (by first | decide | omega) | exact st.c1 (by first | decide | omega) | exact st.c2 (by first | decide | omega) | exact st.c3 (by first | decide | omega) | exact st.c4 (by first | decide | omega) | exact st.c5 (by first | decide | omega) | exact st.c6 (by first | decide | omega) | exact st.c7 (by first | decide | omega) | exact st.c8 (by first | decide | omega)), trivial⟩ ?_
    rw [List.take_of_length_le (by omega)] at hbi
    refine ⟨_, rfl, MPost.none e (.inl (by omega)) (.inl (by omega)) (z' := ⟨bm, NI, .slice none 0 0, [], f, KN ++ K, sv, t, tb⟩) ⟨⟨hbi.syn, hbi.syz, fun i p h => by cases h⟩, OwnP.nil _ _ _, hso, hsl, hsr, harm⟩ rfl ?_⟩
    exact st_nrm (L' := [.int .i64 (P.sec : Nat), .int .i64 (P.lim : Nat), .map (some bm), .slice none 0 0, .bool P.down, .bool P.armed, .int .i64 P.fuse, .slice sv.a sv.bs.length sv.c, .int .i64 t, .int .i64 tb]) rfl (st_syf st)
  have hil : i < P.pend.length := by omega
  obtain rfl := hwa (by omega)
  obtain ⟨p, hpi⟩ : ∃ p, P.pend[i]? = some p := ⟨_, List.getElem?_eq_getElem hil⟩
  obtain ⟨hp0, hp1⟩ := hbi.wt i p hpi
  obtain ⟨hps, hpr⟩ := hp.psec p (List.mem_of_getElem? hpi)
  have g0 := hwrd st (fun x hx => List.mem_cons_of_mem _ (List.mem_cons_of_mem _ (List.mem_cons_of_mem _ (List.mem_cons_of_mem _ (List.mem_append_right _ (List.mem_append_left _ hx)))))) (i * 2) (by omega)
  have g1 := hwrd st (fun x hx => List.mem_cons_of_mem _ (List.mem_cons_of_mem _ (List.mem_cons_of_mem _ (List.mem_cons_of_mem _ (List.mem_append_right _ (List.mem_append_left _ hx)))))) (i * 2 + 1) (by omega)
  rw [hp0] at g0
  obtain ⟨va, vc, hvv⟩ := hp1.sl
  rw [bytesOf_len] at hvv
  rw [hvv] at g1 hp1
  have ets : settle P.pc (P.pend.take (i + 1)) = stP (settle P.pc (P.pend.take i)) p.1 512 p.2 := by rw [List.take_add_one, hpi]; exact settle_app
  obtain ⟨pc, hpc⟩ : ∃ pc, pc = settle P.pc (P.pend.take i) := ⟨_, rfl⟩
  rw [← hpc] at hbi hri ets
  refine WC.seq fun K1508 hK1508 => ?_
  -- region 70
  refine WC.region ?_
  -- R70.0 248 := diskm.go:160 binOp
  refine WL.v (by first | exact r_lss rfl rfl (decide_eq_true (by omega)) | exact r_lss rfl rfl (decide_eq_false (by omega)) | exact r_lss rfl rfl rfl) rfl rfl rfl ?_
  refine WL.fin hK1508 (fun _ _ h => h) ?_
  refine WC.seq fun K1509 hK1509 => ?_
  refine WC.condT rfl rfl ?_
  refine WC.skipF hK1509 (fun _ _ h => h) ?_
  refine WC.seq fun K1510 hK1510 => ?_
  refine WC.block ?_
  refine WC.seq fun K1511 hK1511 => ?_
  -- region 71
  refine WC.region ?_
  -- R71.0 249 := diskm.go:160 indexAddr
  refine WL.v (by exact r_indexS (j := i) ty_sl46 rfl rfl rfl hil) rfl rfl rfl ?_
  -- R71.1 250 := diskm.go:160 load
  refine WL.v (v := .agg #[.int .i64 (p.1 : Nat), .slice va 512 vc]) (by exact r_loadL (vs := [_, _]) ty_agg63 rfl ⟨g0, g1, trivial⟩) rfl rfl rfl ?_
  -- R71.2 15 := diskm.go:160 alloc
  refine WL.alloc (m := 2) st ty_zero63 rfl rfl rfl ?_
  intro b15 w st
  -- R71.3 None := diskm.go:160 store
  first | refine WL.storeW (vs := [_, _]) st ty_agg63 rfl rfl rfl rfl rfl rfl ?_ | refine WL.storeL (vs := [_, _]) st ty_agg63 rfl rfl rfl rfl (by first | decide | omega) rfl rfl ?_ | refine WL.storeW (vs := [_, _]) st.front1 ty_agg63 rfl rfl rfl rfl rfl rfl ?_ | refine WL.storeL (vs := [_, _]) st.front1 ty_agg63 rfl rfl rfl rfl (by first | decide | omega) rfl rfl ?_ | refine WL.storeW (vs := [_, _]) st.front2 ty_agg63 rfl rfl rfl rfl rfl rfl ?_ | refine WL.storeL (vs := [_, _]) st.front2 ty_agg63 rfl rfl rfl rfl (by first | decide | omega) rfl rfl ?_ | refine WL.storeW (vs := [_, _]) st.front3 ty_agg63 rfl rfl rfl rfl rfl rfl ?_ | refine WL.storeL (vs := [_, _]) st.front3 ty_agg63 rfl rfl rfl rfl (by first | decide | omega) rfl rfl ?_ | refine WL.storeW (vs := [_, _]) st.front4 ty_agg63 rfl rfl rfl rfl rfl rfl ?_ | refine WL.storeL (vs := [_, _]) st.front4 ty_agg63 rfl rfl rfl rfl (by first | decide | omega) rfl rfl ?_ | refine WL.storeW (vs := [_, _]) st.front5 ty_agg63 rfl rfl rfl rfl rfl rfl ?_ | refine WL.storeL (vs := [_, _]) st.front5 ty_agg63 rfl rfl rfl rfl (by first | decide | omega) rfl rfl ?_ | refine WL.storeW (vs := [_, _]) st.front6 ty_agg63 rfl rfl rfl rfl rfl rfl ?_ | refine WL.storeL (vs := [_, _]) st.front6 ty_agg63 rfl rfl rfl rfl (by first | decide | omega) rfl rfl ?_ | refine WL.storeW (vs := [_, _]) st.front7 ty_agg63 rfl rfl rfl rfl rfl rfl ?_ | refine WL.storeL (vs := [_, _]) st.front7 ty_agg63 rfl rfl rfl rfl (by first | decide | omega) rfl rfl ?_ | refine WL.storeW (vs := [_, _]) st.front8 ty_agg63 rfl rfl rfl rfl rfl rfl ?_ | refine WL.storeL (vs := [_, _]) st.front8 ty_agg63 rfl rfl rfl rfl (by first | decide | omega) rfl rfl ?_
  intro w st
  refine WL.fin hK1511 (fun _ _ h => h) ?_
  -- region 72
  refine WC.region ?_
  -- R72.0 251 := diskm.go:161 move
  refine WL.v (by first | exact r_move (v := .pointer _) rfl | exact r_move rfl) rfl rfl rfl ?_
  -- R72.1 252 := diskm.go:161 load
  refine WL.v (by exact r_loadL (vs := [_, _]) ty_agg63 rfl ⟨(by first | assumption | exact st.c0 (by first | decide | omega) | exact st.c1 (by first | decide | omega) | exact st.c2 (by first | decide | omega) | exact st.c3 (by first | decide | omega) | exact st.c4 (by first | decide | omega) | exact st.c5 (by first | decide | omega) | exact st.c6 (by first | decide | omega) | exact st.c7 (by first | decide | omega) | exact st.c8 (by first | decide | omega)), (by first | assumption | exact st.c0 (by first | decide | omega) | exact st.c1 (by first | decide | omega) | exact st.c2 (by first | decide | omega) | exact st.c3 (by first | decide | omega) | exact st.c4 (by first | decide | omega) | exact st.c5 (by first | decide | omega) | exact st.c6 (by first | decide | omega) | exact st.c7 (by first | decide | omega) | exact st.c8 (by first | decide | omega)), trivial⟩) rfl rfl rfl ?_
  -- R72.2 253 := diskm.go:161 call
  refine WL.call (r_call ty_call45 rfl) rfl rfl rfl (settleM_ok (n := 512) hbi hps hs2 hp1 (Nat.le_refl _) (fun x hx => List.mem_cons_of_mem _ (List.mem_cons_of_mem _ (List.mem_cons_of_mem _ (List.append_subset.2 ⟨List.subset_append_left _ _, fun y hy => List.mem_append_right _ (List.mem_append_right _ (List.mem_append_left _ hy))⟩ hx)))) (st.perm (List.perm_append_comm_assoc [_, _, _] [_, _] _))) ?_
  rintro _ w ⟨b, rfl, st⟩
  have st := st_sy st
  refine WL.fin hK1510 (fun _ _ h => h) ?_
  -- region 73
  refine WC.region ?_
  -- R73.0 254 := diskm.go:160 binOp
  refine WL.v (by exact r_add (r := ((i + 1 : Nat) : Int)) rfl rfl ((wi64 (by omega) (by omega)).trans (by omega))) rfl rfl rfl ?_
  -- R73.1 247 := diskm.go:160 move
  refine WL.v (by first | exact r_move (v := .int _ _) rfl | exact r_move rfl) rfl rfl rfl ?_
  have hR := stP_range (s := p.1) (k := 512) hri hpr
  have hM := hbi.more (K' := (iI b 512 (stP pc p.1 512 p.2 p.1) :: KN) ++ K) (fun x hx => List.mem_cons_of_mem _ hx)
  have q1 := hM.set (s := p.1) (v := sl5 b) (f' := f) ((Sees.img (bb := b) (fun j => hR p.1 j) (by omega)).mono (fun x hx => by rw [List.mem_singleton.1 hx]; exact List.mem_cons_self)) P.pend hM.wt
  rw [stP_self (Nat.le_refl _)] at q1
  refine WL.next hK1 (fun _ _ h => h) (i + 1, setN NI (p.1 : Int) (sl5 b), iI b 512 (stP pc p.1 512 p.2 p.1) :: KN) ⟨by show i + 1 ≤ P.pend.length; omega, by show Bk w0 _ P.sec (settle P.pc (P.pend.take (i + 1))) P.pend _ f; rw [ets]; exact q1, by show ∀ a b, 0 ≤ settle P.pc (P.pend.take (i + 1)) a b ∧ settle P.pc (P.pend.take (i + 1)) a b < 256; rw [ets]; exact hR, st⟩ (by show P.pend.length - (i + 1) < P.pend.length - i; omega) (by repeat (first | exact sub_nil _ | refine sub_cons rfl rfl ?_))
end Go.Proofs.Qxb6500837aDoor

