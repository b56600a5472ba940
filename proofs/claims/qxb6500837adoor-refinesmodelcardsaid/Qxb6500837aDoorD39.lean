import Derived.Test.Qxb6500837aDoorD38
set_option linter.unusedVariables false
set_option linter.unusedSimpArgs false
set_option maxRecDepth 20000
namespace Go.Proofs.Qxb6500837aDoor
open Go.RowKit Go.E1 Go.Disk
variable {w0 : World} {L L' l I J K K' : List HI} {w : World} {D : DK} {m : Int} {P : PD} {q : Obj → Prop} {NS : Int → Option Value} {f : Nat → Value}
variable {bq bm : Nat} {wv kv : Value} {t tb : Int} {pc : Nat → Nat → Int} {pend : List (Nat × (Nat → Int))}


theorem span_wi {sec n : Nat} {s : Int} (h0 : n ≠ 0) (h1 : n % 512 = 0) (h : insideB sec s (n / 512 : Nat) = true) : spanC sec s n = 0 ∧ 0 ≤ s ∧ s + (n / 512 : Nat) ≤ sec := by
  unfold insideB at h
  have h := of_decide_eq_true h
  refine ⟨?_, h.1, by omega⟩
  unfold spanC
  rw [if_neg (by omega), if_neg (by omega)]
theorem span_wo {sec n : Nat} {s : Int} (h0 : n ≠ 0) (h1 : n % 512 = 0) (h : insideB sec s (n / 512 : Nat) = false) : spanC sec s n = 2 := by
  unfold insideB at h
  have h := of_decide_eq_false h
  unfold spanC
  rw [if_neg (by omega), if_pos (by omega)]
theorem writeL_one {bs : List Int} {s j m : Nat} : writeL bs s j (m + 1) P = if (fuseP (pw P (s + j) (cutB bs j))).2 then ((fuseP (pw P (s + j) (cutB bs j))).1, 3) else writeL bs s (j + 1) m (fuseP (pw P (s + j) (cutB bs j))).1 := rfl
theorem fuse_no (h : P.armed = false) : fuseP P = (P, false) := by unfold fuseP; rw [h]; rfl
theorem fuse_dec (h : P.armed = true) (h2 : P.fuse - 1 ≠ 0) : fuseP P = ({ P with fuse := P.fuse - 1 }, false) := by unfold fuseP; rw [if_pos h, if_neg h2]
theorem fuse_hit (h : P.armed = true) (h2 : P.fuse - 1 = 0) : fuseP P = (crashP { P with fuse := P.fuse - 1 } P.keep P.tear P.tb, true) := by unfold fuseP; rw [if_pos h, if_pos h2]

theorem st_w1 {a b x y i : HI} {XW K l : List HI} (st : S0 w0 (x :: y :: i :: a :: b :: (XW ++ (K ++ l))) w) : S0 w0 (a :: b :: x :: y :: (XW ++ ((i :: K) ++ l))) w :=
  (st.perm (List.perm_append_comm_assoc [_, _, _] [_, _] _)).perm (.cons _ (.cons _ (.cons _ (.cons _ (show (i :: (XW ++ (K ++ l))).Perm (XW ++ (i :: (K ++ l))) from List.perm_middle.symm)))))
theorem st_w2 {a b x y i : HI} {XW K l : List HI} (st : S0 w0 (i :: a :: b :: x :: y :: (XW ++ (K ++ l))) w) : S0 w0 (a :: b :: x :: y :: (XW ++ ((i :: K) ++ l))) w :=
  (st.perm (List.perm_append_comm_assoc [_] [_, _, _, _] _)).perm (.cons _ (.cons _ (.cons _ (.cons _ (show (i :: (XW ++ (K ++ l))).Perm (XW ++ (i :: (K ++ l))) from List.perm_middle.symm)))))
theorem st_w3 {a b x y i : HI} {XW r : List HI} (st : S0 w0 (i :: a :: b :: x :: y :: (XW ++ r)) w) : S0 w0 (XW ++ (i :: a :: b :: x :: y :: r)) w := st.perm (List.perm_append_comm_assoc [_, _, _, _, _] XW r)
theorem st_w4 {a b x y i : HI} {XW r : List HI} (st : S0 w0 (XW ++ (i :: a :: b :: x :: y :: r)) w) : S0 w0 (a :: b :: x :: y :: (XW ++ r)) w := (st.perm (List.perm_append_comm_assoc XW [i, a, b, x, y] r)).drop

set_option maxHeartbeats 64000000 in
theorem stepM_write {o : OP} {z : MZ} (hp : PWf P) (hfz : P.armed = true → -1000000001000 ≤ P.fuse ∧ P.fuse ≤ 9223372036854775807) (h : MI w0 P z) (ho : o.ok w0) (hk : o.kind = 1) (hd : P.down = false) (st : S0 w0 (mds bq P z l) w) :
    Calls Tryd.prog 15 #[.pointer (some ⟨bq, 0, none⟩), o.v] w (Ret (MPost w0 bq l P o)) := by
  have e : stepP P o = writeP P o.sct o.dat.bs := by unfold stepP; simp [hk]
  unfold writeP at e
  rw [hd, if_neg (by decide)] at e
  unfold OP.v
  have hs2 := hp.s2
  have hdl := ho.datl; have hdle := ho.dat.le; have hdcap := ho.dat.cap
  by_cases h0 : o.dat.bs.length = 0
  · have es : spanC P.sec o.sct o.dat.bs.length = 1 := by unfold spanC; rw [if_pos (.inl h0)]
    rw [es, if_pos (by decide)] at e
    refine enter [.pointer (some ⟨bq, 0, none⟩), .agg #[.int .i64 o.kind, .int .i64 o.sct, .int .i64 o.cnt, .int .i64 o.cache, .slice o.dat.a o.dat.bs.length o.dat.c, .int .i64 o.after, .slice o.kp.a o.kp.bs.length o.kp.c, .int .i64 o.tear, .int .i64 o.tb]] Tryd.func15 rfl Tryd.ntmps15 rfl ?_
    show WC _ _ _ 292 [] [(0, .pointer (some ⟨bq, 0, none⟩)), (1, .agg #[.int .i64 o.kind, .int .i64 o.sct, .int .i64 o.cnt, .int .i64 o.cache, .slice o.dat.a o.dat.bs.length o.dat.c, .int .i64 o.after, .slice o.kp.a o.kp.bs.length o.kp.c, .int .i64 o.tear, .int .i64 o.tb])] _
    refine WC.seq fun K1512 hK1512 => ?_
    -- region 0
    refine WC.region ?_
    -- R0.0 3 := diskm.go:83 box
    first | refine WL.box (m := 9) (vs := [.int _ _, .int _ _, .int _ _, .int _ _, .slice _ _ _, .int _ _, .slice _ _ _, .int _ _, .int _ _]) st rfl rfl rfl rfl rfl rfl ?_ | refine WL.box (m := 9) (vs := [_, _, _, _, _, _, _, _, _]) st rfl rfl rfl rfl rfl rfl ?_ | refine WL.box st rfl rfl rfl rfl rfl rfl ?_
    intro b3 w st
    -- R0.1 4 := diskm.go:83 alloc
    refine WL.alloc (m := 2) st ty_zero37 rfl rfl rfl ?_
    intro b4 w st
    refine WL.fin hK1512 (fun _ _ h => h) ?_
    refine WC.seq fun K1513 hK1513 => ?_
    refine WC.seq fun K1514 hK1514 => ?_
    -- region 1
    refine WC.region ?_
    -- R1.0 16 := diskm.go:84 fieldAddr
    refine WL.v (by exact r_field ty_fld33_0 rfl) rfl rfl rfl ?_
    -- R1.1 17 := diskm.go:84 load
    refine WL.v (by exact r_load1 ty_one28 rfl (by first | assumption | exact st.c0 (by first | decide | omega) | exact st.c1 (by first | decide | omega) | exact st.c2 (by first | decide | omega) | exact st.c3 (by first | decide | omega) | exact st.c4 (by first | decide | omega) | exact st.c5 (by first | decide | omega) | exact st.c6 (by first | decide | omega) | exact st.c7 (by first | decide | omega) | exact st.c8 (by first | decide | omega))) rfl rfl rfl ?_
    refine WL.fin hK1514 (fun _ _ h => h) ?_
    refine WC.block ?_
    refine WC.seq fun K1515 hK1515 => ?_
    -- region 3
    refine WC.region ?_
    -- R3.0 20 := diskm.go:85 binOp
    refine WL.v (by first | exact r_eql rfl rfl (decide_eq_true (by omega)) | exact r_eql rfl rfl (decide_eq_false (by omega)) | exact r_eql rfl rfl rfl) rfl rfl rfl ?_
    -- R3.1 19 := diskm.go:85 assign
    refine WL.v (by first | exact r_assign (v := .bool _) rfl | exact r_assign rfl) rfl rfl rfl ?_
    refine WL.fin hK1515 (fun _ _ h => h) ?_
    refine WC.condF rfl rfl ?_
    refine WC.seq fun K1516 hK1516 => ?_
    -- region 13
    refine WC.region ?_
    -- R13.0 52 := diskm.go:98 binOp
    refine WL.v (by first | exact r_eql rfl rfl (decide_eq_true (by omega)) | exact r_eql rfl rfl (decide_eq_false (by omega)) | exact r_eql rfl rfl rfl) rfl rfl rfl ?_
    -- R13.1 51 := diskm.go:98 assign
    refine WL.v (by first | exact r_assign (v := .bool _) rfl | exact r_assign rfl) rfl rfl rfl ?_
    refine WL.fin hK1516 (fun _ _ h => h) ?_
    refine WC.condF rfl rfl ?_
    refine WC.seq fun K1517 hK1517 => ?_
    -- region 24
    refine WC.region ?_
    -- R24.0 82 := diskm.go:110 binOp
    refine WL.v (by first | exact r_eql rfl rfl (decide_eq_true (by omega)) | exact r_eql rfl rfl (decide_eq_false (by omega)) | exact r_eql rfl rfl rfl) rfl rfl rfl ?_
    -- R24.1 81 := diskm.go:110 assign
    refine WL.v (by first | exact r_assign (v := .bool _) rfl | exact r_assign rfl) rfl rfl rfl ?_
    refine WL.fin hK1517 (fun _ _ h => h) ?_
    refine WC.condF rfl rfl ?_
    refine WC.seq fun K1518 hK1518 => ?_
    refine WC.seq fun K1519 hK1519 => ?_
    -- region 29
    refine WC.region ?_
    -- R29.0 94 := diskm.go:116 binOp
    refine WL.v (by first | exact r_eql rfl rfl (decide_eq_true (by omega)) | exact r_eql rfl rfl (decide_eq_false (by omega)) | exact r_eql rfl rfl rfl) rfl rfl rfl ?_
    -- R29.1 93 := diskm.go:116 assign
    refine WL.v (by first | exact r_assign (v := .bool _) rfl | exact r_assign rfl) rfl rfl rfl ?_
    refine WL.fin hK1519 (fun _ _ h => h) ?_
    refine WC.condT rfl rfl ?_
    refine WC.skipF hK1518 (fun _ _ h => h) ?_
    refine WC.condT rfl rfl ?_
    refine WC.seq fun K1520 hK1520 => ?_
    -- region 35
    refine WC.region ?_
    -- R35.0 100 := diskm.go:117 move
    refine WL.v (by first | exact r_move (v := .pointer _) rfl | exact r_move rfl) rfl rfl rfl ?_
    -- R35.1 101 := diskm.go:117 nilCheck
    refine WL.v (by exact r_nilCheck rfl) rfl rfl rfl ?_
    -- R35.2 102 := diskm.go:117 fieldAddr
    refine WL.v (by exact r_field ty_fld48_4 rfl) rfl rfl rfl ?_
    -- R35.3 103 := diskm.go:117 load
    refine WL.v (by exact r_load1 (v := .bool false) ty_one4 rfl (by rw [← hd]; exact st.c2 (by decide))) rfl rfl rfl ?_
    refine WL.fin hK1520 (fun _ _ h => h) ?_
    refine WC.condF rfl rfl ?_
    refine WC.skipF hK1513 (fun _ _ h => h) ?_
    refine WC.seq fun K1521 hK1521 => ?_
    refine WC.seq fun K1522 hK1522 => ?_
    -- region 37
    refine WC.region ?_
    -- R37.0 105 := diskm.go:123 fieldAddr
    refine WL.v (by exact r_field ty_fld33_0 rfl) rfl rfl rfl ?_
    -- R37.1 106 := diskm.go:123 load
    refine WL.v (by exact r_load1 ty_one28 rfl (by first | assumption | exact st.c0 (by first | decide | omega) | exact st.c1 (by first | decide | omega) | exact st.c2 (by first | decide | omega) | exact st.c3 (by first | decide | omega) | exact st.c4 (by first | decide | omega) | exact st.c5 (by first | decide | omega) | exact st.c6 (by first | decide | omega) | exact st.c7 (by first | decide | omega) | exact st.c8 (by first | decide | omega))) rfl rfl rfl ?_
    refine WL.fin hK1522 (fun _ _ h => h) ?_
    refine WC.block ?_
    refine WC.seq fun K1523 hK1523 => ?_
    -- region 38
    refine WC.region ?_
    -- R38.0 108 := diskm.go:124 binOp
    refine WL.v (by first | exact r_eql rfl rfl (decide_eq_true (by omega)) | exact r_eql rfl rfl (decide_eq_false (by omega)) | exact r_eql rfl rfl rfl) rfl rfl rfl ?_
    -- R38.1 107 := diskm.go:124 assign
    refine WL.v (by first | exact r_assign (v := .bool _) rfl | exact r_assign rfl) rfl rfl rfl ?_
    refine WL.fin hK1523 (fun _ _ h => h) ?_
    refine WC.condT rfl rfl ?_
    refine WC.seq fun K1524 hK1524 => ?_
    refine WC.seq fun K1525 hK1525 => ?_
    -- region 39
    refine WC.region ?_
    -- R39.0 109 := diskm.go:125 fieldAddr
    refine WL.v (by exact r_field ty_fld33_4 rfl) rfl rfl rfl ?_
    -- R39.1 110 := diskm.go:125 load
    refine WL.v (by exact r_load1 ty_one29 rfl (by first | assumption | exact st.c0 (by first | decide | omega) | exact st.c1 (by first | decide | omega) | exact st.c2 (by first | decide | omega) | exact st.c3 (by first | decide | omega) | exact st.c4 (by first | decide | omega) | exact st.c5 (by first | decide | omega) | exact st.c6 (by first | decide | omega) | exact st.c7 (by first | decide | omega) | exact st.c8 (by first | decide | omega))) rfl rfl rfl ?_
    -- R39.2 111 := diskm.go:125 call
    refine WL.v (by exact r_len ty_usl29 rfl) rfl rfl rfl ?_
    -- R39.3 112 := diskm.go:125 binOp
    refine WL.v (by first | exact r_eql rfl rfl (decide_eq_true (by omega)) | exact r_eql rfl rfl (decide_eq_false (by omega)) | exact r_eql rfl rfl rfl) rfl rfl rfl ?_
    -- R39.4 113 := diskm.go:125 move
    refine WL.v (by first | exact r_move (v := .bool _) rfl | exact r_move rfl) rfl rfl rfl ?_
    -- R39.5 114 := diskm.go:125 fieldAddr
    refine WL.no rfl rfl ?_
    -- R39.6 115 := diskm.go:125 load
    refine WL.no rfl rfl ?_
    -- R39.7 116 := diskm.go:125 call
    refine WL.no rfl rfl ?_
    -- R39.8 117 := diskm.go:125 binOp
    refine WL.no rfl rfl ?_
    -- R39.9 118 := diskm.go:125 binOp
    refine WL.no rfl rfl ?_
    -- R39.10 119 := diskm.go:125 pick
    refine WL.v (by first | exact r_pickT (v := .bool _) rfl rfl | exact r_pickF (v := .bool _) rfl rfl) rfl rfl rfl ?_
    refine WL.fin hK1525 (fun _ _ h => h) ?_
    refine WC.condT rfl rfl ?_
    refine WC.seq fun K1526 hK1526 => ?_
    -- region 40
    refine WC.region ?_
    -- R40.0 120 := diskm.go:126 build
    refine WL.v (by exact r_build (ps := [(0, .int _ _)]) (vs := [_, _]) ty_pl37 ty_zero37 rfl (fill_step (pv := [_]) (cs' := [_, _]) rfl rfl rfl rfl (fill_nil))) rfl rfl rfl ?_
    -- R40.1 None := diskm.go:126 store
    first | refine WL.storeW (vs := [_, _]) st ty_agg37 rfl rfl rfl rfl rfl rfl ?_ | refine WL.storeL (vs := [_, _]) st ty_agg37 rfl rfl rfl rfl (by first | decide | omega) rfl rfl ?_ | refine WL.storeW (vs := [_, _]) st.front1 ty_agg37 rfl rfl rfl rfl rfl rfl ?_ | refine WL.storeL (vs := [_, _]) st.front1 ty_agg37 rfl rfl rfl rfl (by first | decide | omega) rfl rfl ?_ | refine WL.storeW (vs := [_, _]) st.front2 ty_agg37 rfl rfl rfl rfl rfl rfl ?_ | refine WL.storeL (vs := [_, _]) st.front2 ty_agg37 rfl rfl rfl rfl (by first | decide | omega) rfl rfl ?_ | refine WL.storeW (vs := [_, _]) st.front3 ty_agg37 rfl rfl rfl rfl rfl rfl ?_ | refine WL.storeL (vs := [_, _]) st.front3 ty_agg37 rfl rfl rfl rfl (by first | decide | omega) rfl rfl ?_ | refine WL.storeW (vs := [_, _]) st.front4 ty_agg37 rfl rfl rfl rfl rfl rfl ?_ | refine WL.storeL (vs := [_, _]) st.front4 ty_agg37 rfl rfl rfl rfl (by first | decide | omega) rfl rfl ?_ | refine WL.storeW (vs := [_, _]) st.front5 ty_agg37 rfl rfl rfl rfl rfl rfl ?_ | refine WL.storeL (vs := [_, _]) st.front5 ty_agg37 rfl rfl rfl rfl (by first | decide | omega) rfl rfl ?_ | refine WL.storeW (vs := [_, _]) st.front6 ty_agg37 rfl rfl rfl rfl rfl rfl ?_ | refine WL.storeL (vs := [_, _]) st.front6 ty_agg37 rfl rfl rfl rfl (by first | decide | omega) rfl rfl ?_ | refine WL.storeW (vs := [_, _]) st.front7 ty_agg37 rfl rfl rfl rfl rfl rfl ?_ | refine WL.storeL (vs := [_, _]) st.front7 ty_agg37 rfl rfl rfl rfl (by first | decide | omega) rfl rfl ?_ | refine WL.storeW (vs := [_, _]) st.front8 ty_agg37 rfl rfl rfl rfl rfl rfl ?_ | refine WL.storeL (vs := [_, _]) st.front8 ty_agg37 rfl rfl rfl rfl (by first | decide | omega) rfl rfl ?_
    intro w st
    refine WL.fin hK1526 (fun _ _ h => h) ?_
    refine WC.retC (vs := [_, _]) Tryd.results15 (fun _ _ h => h) rfl ty_agg37 rfl ⟨(by first | assumption | exact st.c0 (by first | decide | omega) | exact st.c1 (by first | decide | omega) | exact st.c2 (by first | decide | omega) | exact st.c3 (by first | decide | omega) | exact st.c4 (by first | decide | omega) | exact st.c5 (by first | decide | omega) | exact st.c6 (by first | decide | omega) | exact st.c7 (by first | decide | omega) | exact st.c8 (by first | decide | omega)), (by first | assumption | exact st.c0 (by first | decide | omega) | exact st.c1 (by first | decide | omega) | exact st.c2 (by first | decide | omega) | exact st.c3 (by first | decide | omega) | exact st.c4 (by first | decide | omega) | exact st.c5 (by first | decide | omega) | exact st.c6 (by first | decide | omega) | exact st.c7 (by first | decide | omega) | exact st.c8 (by first | decide | omega)), trivial⟩ ?_
    exact ⟨_, rfl, MPost.none e (.inr (by decide)) (.inr (by decide)) h rfl (st_ms st)⟩
  by_cases h1 : ¬ o.dat.bs.length % 512 = 0
  · have es : spanC P.sec o.sct o.dat.bs.length = 1 := by unfold spanC; rw [if_pos (.inr h1)]
    rw [es, if_pos (by decide)] at e
    refine enter [.pointer (some ⟨bq, 0, none⟩), .agg #[.int .i64 o.kind, .int .i64 o.sct, .int .i64 o.cnt, .int .i64 o.cache, .slice o.dat.a o.dat.bs.length o.dat.c, .int .i64 o.after, .slice o.kp.a o.kp.bs.length o.kp.c, .int .i64 o.tear, .int .i64 o.tb]] Tryd.func15 rfl Tryd.ntmps15 rfl ?_
    show WC _ _ _ 292 [] [(0, .pointer (some ⟨bq, 0, none⟩)), (1, .agg #[.int .i64 o.kind, .int .i64 o.sct, .int .i64 o.cnt, .int .i64 o.cache, .slice o.dat.a o.dat.bs.length o.dat.c, .int .i64 o.after, .slice o.kp.a o.kp.bs.length o.kp.c, .int .i64 o.tear, .int .i64 o.tb])] _
    refine WC.seq fun K1527 hK1527 => ?_
    -- region 0
    refine WC.region ?_
    -- R0.0 3 := diskm.go:83 box
    first | refine WL.box (m := 9) (vs := [.int _ _, .int _ _, .int _ _, .int _ _, .slice _ _ _, .int _ _, .slice _ _ _, .int _ _, .int _ _]) st rfl rfl rfl rfl rfl rfl ?_ | refine WL.box (m := 9) (vs := [_, _, _, _, _, _, _, _, _]) st rfl rfl rfl rfl rfl rfl ?_ | refine WL.box st rfl rfl rfl rfl rfl rfl ?_
    intro b3 w st
    -- R0.1 4 := diskm.go:83 alloc
    refine WL.alloc (m := 2) st ty_zero37 rfl rfl rfl ?_
    intro b4 w st
    refine WL.fin hK1527 (fun _ _ h => h) ?_
    refine WC.seq fun K1528 hK1528 => ?_
    refine WC.seq fun K1529 hK1529 => ?_
    -- region 1
    refine WC.region ?_
    -- R1.0 16 := diskm.go:84 fieldAddr
    refine WL.v (by exact r_field ty_fld33_0 rfl) rfl rfl rfl ?_
    -- R1.1 17 := diskm.go:84 load
    refine WL.v (by exact r_load1 ty_one28 rfl (by first | assumption | exact st.c0 (by first | decide | omega) | exact st.c1 (by first | decide | omega) | exact st.c2 (by first | decide | omega) | exact st.c3 (by first | decide | omega) | exact st.c4 (by first | decide | omega) | exact st.c5 (by first | decide | omega) | exact st.c6 (by first | decide | omega) | exact st.c7 (by first | decide | omega) | exact st.c8 (by first | decide | omega))) rfl rfl rfl ?_
    refine WL.fin hK1529 (fun _ _ h => h) ?_
    refine WC.block ?_
    refine WC.seq fun K1530 hK1530 => ?_
    -- region 3
    refine WC.region ?_
    -- R3.0 20 := diskm.go:85 binOp
    refine WL.v (by first | exact r_eql rfl rfl (decide_eq_true (by omega)) | exact r_eql rfl rfl (decide_eq_false (by omega)) | exact r_eql rfl rfl rfl) rfl rfl rfl ?_
    -- R3.1 19 := diskm.go:85 assign
    refine WL.v (by first | exact r_assign (v := .bool _) rfl | exact r_assign rfl) rfl rfl rfl ?_
    refine WL.fin hK1530 (fun _ _ h => h) ?_
    refine WC.condF rfl rfl ?_
    refine WC.seq fun K1531 hK1531 => ?_
    -- region 13
    refine WC.region ?_
    -- R13.0 52 := diskm.go:98 binOp
    refine WL.v (by first | exact r_eql rfl rfl (decide_eq_true (by omega)) | exact r_eql rfl rfl (decide_eq_false (by omega)) | exact r_eql rfl rfl rfl) rfl rfl rfl ?_
    -- R13.1 51 := diskm.go:98 assign
    refine WL.v (by first | exact r_assign (v := .bool _) rfl | exact r_assign rfl) rfl rfl rfl ?_
    refine WL.fin hK1531 (fun _ _ h => h) ?_
    refine WC.condF rfl rfl ?_
    refine WC.seq fun K1532 hK1532 => ?_
    -- region 24
    refine WC.region ?_
    -- R24.0 82 := diskm.go:110 binOp
    refine WL.v (by first | exact r_eql rfl rfl (decide_eq_true (by omega)) | exact r_eql rfl rfl (decide_eq_false (by omega)) | exact r_eql rfl rfl rfl) rfl rfl rfl ?_
    -- R24.1 81 := diskm.go:110 assign
    refine WL.v (by first | exact r_assign (v := .bool _) rfl | exact r_assign rfl) rfl rfl rfl ?_
    refine WL.fin hK1532 (fun _ _ h => h) ?_
    refine WC.condF rfl rfl ?_
    refine WC.seq fun K1533 hK1533 => ?_
    refine WC.seq fun K1534 hK1534 => ?_
    -- region 29
    refine WC.region ?_
    -- R29.0 94 := diskm.go:116 binOp
    refine WL.v (by first | exact r_eql rfl rfl (decide_eq_true (by omega)) | exact r_eql rfl rfl (decide_eq_false (by omega)) | exact r_eql rfl rfl rfl) rfl rfl rfl ?_
    -- R29.1 93 := diskm.go:116 assign
    refine WL.v (by first | exact r_assign (v := .bool _) rfl | exact r_assign rfl) rfl rfl rfl ?_
    refine WL.fin hK1534 (fun _ _ h => h) ?_
    refine WC.condT rfl rfl ?_
    refine WC.skipF hK1533 (fun _ _ h => h) ?_
    refine WC.condT rfl rfl ?_
    refine WC.seq fun K1535 hK1535 => ?_
    -- region 35
    refine WC.region ?_
    -- R35.0 100 := diskm.go:117 move
    refine WL.v (by first | exact r_move (v := .pointer _) rfl | exact r_move rfl) rfl rfl rfl ?_
    -- R35.1 101 := diskm.go:117 nilCheck
    refine WL.v (by exact r_nilCheck rfl) rfl rfl rfl ?_
    -- R35.2 102 := diskm.go:117 fieldAddr
    refine WL.v (by exact r_field ty_fld48_4 rfl) rfl rfl rfl ?_
    -- R35.3 103 := diskm.go:117 load
    refine WL.v (by exact r_load1 (v := .bool false) ty_one4 rfl (by rw [← hd]; exact st.c2 (by decide))) rfl rfl rfl ?_
    refine WL.fin hK1535 (fun _ _ h => h) ?_
    refine WC.condF rfl rfl ?_
    refine WC.skipF hK1528 (fun _ _ h => h) ?_
    refine WC.seq fun K1536 hK1536 => ?_
    refine WC.seq fun K1537 hK1537 => ?_
    -- region 37
    refine WC.region ?_
    -- R37.0 105 := diskm.go:123 fieldAddr
    refine WL.v (by exact r_field ty_fld33_0 rfl) rfl rfl rfl ?_
    -- R37.1 106 := diskm.go:123 load
    refine WL.v (by exact r_load1 ty_one28 rfl (by first | assumption | exact st.c0 (by first | decide | omega) | exact st.c1 (by first | decide | omega) | exact st.c2 (by first | decide | omega) | exact st.c3 (by first | decide | omega) | exact st.c4 (by first | decide | omega) | exact st.c5 (by first | decide | omega) | exact st.c6 (by first | decide | omega) | exact st.c7 (by first | decide | omega) | exact st.c8 (by first | decide | omega))) rfl rfl rfl ?_
    refine WL.fin hK1537 (fun _ _ h => h) ?_
    refine WC.block ?_
    refine WC.seq fun K1538 hK1538 => ?_
    -- region 38
    refine WC.region ?_
    -- R38.0 108 := diskm.go:124 binOp
    refine WL.v (by first | exact r_eql rfl rfl (decide_eq_true (by omega)) | exact r_eql rfl rfl (decide_eq_false (by omega)) | exact r_eql rfl rfl rfl) rfl rfl rfl ?_
    -- R38.1 107 := diskm.go:124 assign
    refine WL.v (by first | exact r_assign (v := .bool _) rfl | exact r_assign rfl) rfl rfl rfl ?_
    refine WL.fin hK1538 (fun _ _ h => h) ?_
    refine WC.condT rfl rfl ?_
    refine WC.seq fun K1539 hK1539 => ?_
    refine WC.seq fun K1540 hK1540 => ?_
    -- region 39
    refine WC.region ?_
    -- R39.0 109 := diskm.go:125 fieldAddr
    refine WL.v (by exact r_field ty_fld33_4 rfl) rfl rfl rfl ?_
    -- R39.1 110 := diskm.go:125 load
    refine WL.v (by exact r_load1 ty_one29 rfl (by first | assumption | exact st.c0 (by first | decide | omega) | exact st.c1 (by first | decide | omega) | exact st.c2 (by first | decide | omega) | exact st.c3 (by first | decide | omega) | exact st.c4 (by first | decide | omega) | exact st.c5 (by first | decide | omega) | exact st.c6 (by first | decide | omega) | exact st.c7 (by first | decide | omega) | exact st.c8 (by first | decide | omega))) rfl rfl rfl ?_
    -- R39.2 111 := diskm.go:125 call
    refine WL.v (by exact r_len ty_usl29 rfl) rfl rfl rfl ?_
    -- R39.3 112 := diskm.go:125 binOp
    refine WL.v (by first | exact r_eql rfl rfl (decide_eq_true (by omega)) | exact r_eql rfl rfl (decide_eq_false (by omega)) | exact r_eql rfl rfl rfl) rfl rfl rfl ?_
    -- R39.4 113 := diskm.go:125 move
    refine WL.v (by first | exact r_move (v := .bool _) rfl | exact r_move rfl) rfl rfl rfl ?_
    -- R39.5 114 := diskm.go:125 fieldAddr
    refine WL.v (by exact r_field ty_fld33_4 rfl) rfl rfl rfl ?_
    -- R39.6 115 := diskm.go:125 load
    refine WL.v (by exact r_load1 ty_one29 rfl (by first | assumption | exact st.c0 (by first | decide | omega) | exact st.c1 (by first | decide | omega) | exact st.c2 (by first | decide | omega) | exact st.c3 (by first | decide | omega) | exact st.c4 (by first | decide | omega) | exact st.c5 (by first | decide | omega) | exact st.c6 (by first | decide | omega) | exact st.c7 (by first | decide | omega) | exact st.c8 (by first | decide | omega))) rfl rfl rfl ?_
    -- R39.7 116 := diskm.go:125 call
    refine WL.v (by exact r_len ty_usl29 rfl) rfl rfl rfl ?_
    -- R39.8 117 := diskm.go:125 binOp
    refine WL.v (by exact r_rem (r := ((o.dat.bs.length % 512 : Nat) : Int)) rfl rfl (by omega) rfl) rfl rfl rfl ?_
    -- R39.9 118 := diskm.go:125 binOp
    refine WL.v (by first | exact r_neq rfl rfl (decide_eq_true (by omega)) | exact r_neq rfl rfl (decide_eq_false (by omega)) | exact r_neq rfl rfl rfl) rfl rfl rfl ?_
    -- R39.10 119 := diskm.go:125 pick
    refine WL.v (by first | exact r_pickT (v := .bool _) rfl rfl | exact r_pickF (v := .bool _) rfl rfl) rfl rfl rfl ?_
    refine WL.fin hK1540 (fun _ _ h => h) ?_
    refine WC.condT rfl rfl ?_
    refine WC.seq fun K1541 hK1541 => ?_
    -- region 40
    refine WC.region ?_
    -- R40.0 120 := diskm.go:126 build
    refine WL.v (by exact r_build (ps := [(0, .int _ _)]) (vs := [_, _]) ty_pl37 ty_zero37 rfl (fill_step (pv := [_]) (cs' := [_, _]) rfl rfl rfl rfl (fill_nil))) rfl rfl rfl ?_
    -- R40.1 None := diskm.go:126 store
    first | refine WL.storeW (vs := [_, _]) st ty_agg37 rfl rfl rfl rfl rfl rfl ?_ | refine WL.storeL (vs := [_, _]) st ty_agg37 rfl rfl rfl rfl (by first | decide | omega) rfl rfl ?_ | refine WL.storeW (vs := [_, _]) st.front1 ty_agg37 rfl rfl rfl rfl rfl rfl ?_ | refine WL.storeL (vs := [_, _]) st.front1 ty_agg37 rfl rfl rfl rfl (by first | decide | omega) rfl rfl ?_ | refine WL.storeW (vs := [_, _]) st.front2 ty_agg37 rfl rfl rfl rfl rfl rfl ?_ | refine WL.storeL (vs := [_, _]) st.front2 ty_agg37 rfl rfl rfl rfl (by first | decide | omega) rfl rfl ?_ | refine WL.storeW (vs := [_, _]) st.front3 ty_agg37 rfl rfl rfl rfl rfl rfl ?_ | refine WL.storeL (vs := [_, _]) st.front3 ty_agg37 rfl rfl rfl rfl (by first | decide | omega) rfl rfl ?_ | refine WL.storeW (vs := [_, _]) st.front4 ty_agg37 rfl rfl rfl rfl rfl rfl ?_ | refine WL.storeL (vs := [_, _]) st.front4 ty_agg37 rfl rfl rfl rfl (by first | decide | omega) rfl rfl ?_ | refine WL.storeW (vs := [_, _]) st.front5 ty_agg37 rfl rfl rfl rfl rfl rfl ?_ | refine WL.storeL (vs := [_, _]) st.front5 ty_agg37 rfl rfl rfl rfl (by first | decide | omega) rfl rfl ?_ | refine WL.storeW (vs := [_, _]) st.front6 ty_agg37 rfl rfl rfl rfl rfl rfl ?_ | refine WL.storeL (vs := [_, _]) st.front6 ty_agg37 rfl rfl rfl rfl (by first | decide | omega) rfl rfl ?_ | refine WL.storeW (vs := [_, _]) st.front7 ty_agg37 rfl rfl rfl rfl rfl rfl ?_ | refine WL.storeL (vs := [_, _]) st.front7 ty_agg37 rfl rfl rfl rfl (by first | decide | omega) rfl rfl ?_ | refine WL.storeW (vs := [_, _]) st.front8 ty_agg37 rfl rfl rfl rfl rfl rfl ?_ | refine WL.storeL (vs := [_, _]) st.front8 ty_agg37 rfl rfl rfl rfl (by first | decide | omega) rfl rfl ?_
    intro w st
    refine WL.fin hK1541 (fun _ _ h => h) ?_
    refine WC.retC (vs := [_, _]) Tryd.results15 (fun _ _ h => h) rfl ty_agg37 rfl ⟨(by first | assumption | exact st.c0 (by first | decide | omega) | exact st.c1 (by first | decide | omega) | exact st.c2 (by first | decide | omega) | exact st.c3 (by first | decide | omega) | exact st.c4 (by first | decide | omega) | exact st.c5 (by first | decide | omega) | exact st.c6 (by first | decide | omega) | exact st.c7 (by first | decide | omega) | exact st.c8 (by first | decide | omega)), (by first | assumption | exact st.c0 (by first | decide | omega) | exact st.c1 (by first | decide | omega) | exact st.c2 (by first | decide | omega) | exact st.c3 (by first | decide | omega) | exact st.c4 (by first | decide | omega) | exact st.c5 (by first | decide | omega) | exact st.c6 (by first | decide | omega) | exact st.c7 (by first | decide | omega) | exact st.c8 (by first | decide | omega)), trivial⟩ ?_
    exact ⟨_, rfl, MPost.none e (.inr (by decide)) (.inr (by decide)) h rfl (st_ms st)⟩
  have h1 : o.dat.bs.length % 512 = 0 := by omega
  obtain ⟨n, hn⟩ : ∃ n, n = o.dat.bs.length / 512 := ⟨_, rfl⟩
  rcases hb : insideB P.sec o.sct (n : Int) with _ | _
  · have es := span_wo h0 h1 (by rw [← hn]; exact hb)
    rw [es, if_pos (by decide)] at e
    refine enter [.pointer (some ⟨bq, 0, none⟩), .agg #[.int .i64 o.kind, .int .i64 o.sct, .int .i64 o.cnt, .int .i64 o.cache, .slice o.dat.a o.dat.bs.length o.dat.c, .int .i64 o.after, .slice o.kp.a o.kp.bs.length o.kp.c, .int .i64 o.tear, .int .i64 o.tb]] Tryd.func15 rfl Tryd.ntmps15 rfl ?_
    show WC _ _ _ 292 [] [(0, .pointer (some ⟨bq, 0, none⟩)), (1, .agg #[.int .i64 o.kind, .int .i64 o.sct, .int .i64 o.cnt, .int .i64 o.cache, .slice o.dat.a o.dat.bs.length o.dat.c, .int .i64 o.after, .slice o.kp.a o.kp.bs.length o.kp.c, .int .i64 o.tear, .int .i64 o.tb])] _
    refine WC.seq fun K1542 hK1542 => ?_
    -- region 0
    refine WC.region ?_
    -- R0.0 3 := diskm.go:83 box
    first | refine WL.box (m := 9) (vs := [.int _ _, .int _ _, .int _ _, .int _ _, .slice _ _ _, .int _ _, .slice _ _ _, .int _ _, .int _ _]) st rfl rfl rfl rfl rfl rfl ?_ | refine WL.box (m := 9) (vs := [_, _, _, _, _, _, _, _, _]) st rfl rfl rfl rfl rfl rfl ?_ | refine WL.box st rfl rfl rfl rfl rfl rfl ?_
    intro b3 w st
    -- R0.1 4 := diskm.go:83 alloc
    refine WL.alloc (m := 2) st ty_zero37 rfl rfl rfl ?_
    intro b4 w st
    refine WL.fin hK1542 (fun _ _ h => h) ?_
    refine WC.seq fun K1543 hK1543 => ?_
    refine WC.seq fun K1544 hK1544 => ?_
    -- region 1
    refine WC.region ?_
    -- R1.0 16 := diskm.go:84 fieldAddr
    refine WL.v (by exact r_field ty_fld33_0 rfl) rfl rfl rfl ?_
    -- R1.1 17 := diskm.go:84 load
    refine WL.v (by exact r_load1 ty_one28 rfl (by first | assumption | exact st.c0 (by first | decide | omega) | exact st.c1 (by first | decide | omega) | exact st.c2 (by first | decide | omega) | exact st.c3 (by first | decide | omega) | exact st.c4 (by first | decide | omega) | exact st.c5 (by first | decide | omega) | exact st.c6 (by first | decide | omega) | exact st.c7 (by first | decide | omega) | exact st.c8 (by first | decide | omega))) rfl rfl rfl ?_
    refine WL.fin hK1544 (fun _ _ h => h) ?_
    refine WC.block ?_
    refine WC.seq fun K1545 hK1545 => ?_
    -- region 3
    refine WC.region ?_
    -- R3.0 20 := diskm.go:85 binOp
    refine WL.v (by first | exact r_eql rfl rfl (decide_eq_true (by omega)) | exact r_eql rfl rfl (decide_eq_false (by omega)) | exact r_eql rfl rfl rfl) rfl rfl rfl ?_
    -- R3.1 19 := diskm.go:85 assign
    refine WL.v (by first | exact r_assign (v := .bool _) rfl | exact r_assign rfl) rfl rfl rfl ?_
    refine WL.fin hK1545 (fun _ _ h => h) ?_
    refine WC.condF rfl rfl ?_
    refine WC.seq fun K1546 hK1546 => ?_
    -- region 13
    refine WC.region ?_
    -- R13.0 52 := diskm.go:98 binOp
    refine WL.v (by first | exact r_eql rfl rfl (decide_eq_true (by omega)) | exact r_eql rfl rfl (decide_eq_false (by omega)) | exact r_eql rfl rfl rfl) rfl rfl rfl ?_
    -- R13.1 51 := diskm.go:98 assign
    refine WL.v (by first | exact r_assign (v := .bool _) rfl | exact r_assign rfl) rfl rfl rfl ?_
    refine WL.fin hK1546 (fun _ _ h => h) ?_
    refine WC.condF rfl rfl ?_
    refine WC.seq fun K1547 hK1547 => ?_
    -- region 24
    refine WC.region ?_
    -- R24.0 82 := diskm.go:110 binOp
    refine WL.v (by first | exact r_eql rfl rfl (decide_eq_true (by omega)) | exact r_eql rfl rfl (decide_eq_false (by omega)) | exact r_eql rfl rfl rfl) rfl rfl rfl ?_
    -- R24.1 81 := diskm.go:110 assign
    refine WL.v (by first | exact r_assign (v := .bool _) rfl | exact r_assign rfl) rfl rfl rfl ?_
    refine WL.fin hK1547 (fun _ _ h => h) ?_
    refine WC.condF rfl rfl ?_
    refine WC.seq fun K1548 hK1548 => ?_
    refine WC.seq fun K1549 hK1549 => ?_
    -- region 29
    refine WC.region ?_
    -- R29.0 94 := diskm.go:116 binOp
    refine WL.v (by first | exact r_eql rfl rfl (decide_eq_true (by omega)) | exact r_eql rfl rfl (decide_eq_false (by omega)) | exact r_eql rfl rfl rfl) rfl rfl rfl ?_
    -- R29.1 93 := diskm.go:116 assign
    refine WL.v (by first | exact r_assign (v := .bool _) rfl | exact r_assign rfl) rfl rfl rfl ?_
    refine WL.fin hK1549 (fun _ _ h => h) ?_
    refine WC.condT rfl rfl ?_
    refine WC.skipF hK1548 (fun _ _ h => h) ?_
    refine WC.condT rfl rfl ?_
    refine WC.seq fun K1550 hK1550 => ?_
    -- region 35
    refine WC.region ?_
    -- R35.0 100 := diskm.go:117 move
    refine WL.v (by first | exact r_move (v := .pointer _) rfl | exact r_move rfl) rfl rfl rfl ?_
    -- R35.1 101 := diskm.go:117 nilCheck
    refine WL.v (by exact r_nilCheck rfl) rfl rfl rfl ?_
    -- R35.2 102 := diskm.go:117 fieldAddr
    refine WL.v (by exact r_field ty_fld48_4 rfl) rfl rfl rfl ?_
    -- R35.3 103 := diskm.go:117 load
    refine WL.v (by exact r_load1 (v := .bool false) ty_one4 rfl (by rw [← hd]; exact st.c2 (by decide))) rfl rfl rfl ?_
    refine WL.fin hK1550 (fun _ _ h => h) ?_
    refine WC.condF rfl rfl ?_
    refine WC.skipF hK1543 (fun _ _ h => h) ?_
    refine WC.seq fun K1551 hK1551 => ?_
    refine WC.seq fun K1552 hK1552 => ?_
    -- region 37
    refine WC.region ?_
    -- R37.0 105 := diskm.go:123 fieldAddr
    refine WL.v (by exact r_field ty_fld33_0 rfl) rfl rfl rfl ?_
    -- R37.1 106 := diskm.go:123 load
    refine WL.v (by exact r_load1 ty_one28 rfl (by first | assumption | exact st.c0 (by first | decide | omega) | exact st.c1 (by first | decide | omega) | exact st.c2 (by first | decide | omega) | exact st.c3 (by first | decide | omega) | exact st.c4 (by first | decide | omega) | exact st.c5 (by first | decide | omega) | exact st.c6 (by first | decide | omega) | exact st.c7 (by first | decide | omega) | exact st.c8 (by first | decide | omega))) rfl rfl rfl ?_
    refine WL.fin hK1552 (fun _ _ h => h) ?_
    refine WC.block ?_
    refine WC.seq fun K1553 hK1553 => ?_
    -- region 38
    refine WC.region ?_
    -- R38.0 108 := diskm.go:124 binOp
    refine WL.v (by first | exact r_eql rfl rfl (decide_eq_true (by omega)) | exact r_eql rfl rfl (decide_eq_false (by omega)) | exact r_eql rfl rfl rfl) rfl rfl rfl ?_
    -- R38.1 107 := diskm.go:124 assign
    refine WL.v (by first | exact r_assign (v := .bool _) rfl | exact r_assign rfl) rfl rfl rfl ?_
    refine WL.fin hK1553 (fun _ _ h => h) ?_
    refine WC.condT rfl rfl ?_
    refine WC.seq fun K1554 hK1554 => ?_
    refine WC.seq fun K1555 hK1555 => ?_
    -- region 39
    refine WC.region ?_
    -- R39.0 109 := diskm.go:125 fieldAddr
    refine WL.v (by exact r_field ty_fld33_4 rfl) rfl rfl rfl ?_
    -- R39.1 110 := diskm.go:125 load
    refine WL.v (by exact r_load1 ty_one29 rfl (by first | assumption | exact st.c0 (by first | decide | omega) | exact st.c1 (by first | decide | omega) | exact st.c2 (by first | decide | omega) | exact st.c3 (by first | decide | omega) | exact st.c4 (by first | decide | omega) | exact st.c5 (by first | decide | omega) | exact st.c6 (by first | decide | omega) | exact st.c7 (by first | decide | omega) | exact st.c8 (by first | decide | omega))) rfl rfl rfl ?_
    -- R39.2 111 := diskm.go:125 call
    refine WL.v (by exact r_len ty_usl29 rfl) rfl rfl rfl ?_
    -- R39.3 112 := diskm.go:125 binOp
    refine WL.v (by first | exact r_eql rfl rfl (decide_eq_true (by omega)) | exact r_eql rfl rfl (decide_eq_false (by omega)) | exact r_eql rfl rfl rfl) rfl rfl rfl ?_
    -- R39.4 113 := diskm.go:125 move
    refine WL.v (by first | exact r_move (v := .bool _) rfl | exact r_move rfl) rfl rfl rfl ?_
    -- R39.5 114 := diskm.go:125 fieldAddr
    refine WL.v (by exact r_field ty_fld33_4 rfl) rfl rfl rfl ?_
    -- R39.6 115 := diskm.go:125 load
    refine WL.v (by exact r_load1 ty_one29 rfl (by first | assumption | exact st.c0 (by first | decide | omega) | exact st.c1 (by first | decide | omega) | exact st.c2 (by first | decide | omega) | exact st.c3 (by first | decide | omega) | exact st.c4 (by first | decide | omega) | exact st.c5 (by first | decide | omega) | exact st.c6 (by first | decide | omega) | exact st.c7 (by first | decide | omega) | exact st.c8 (by first | decide | omega))) rfl rfl rfl ?_
    -- R39.7 116 := diskm.go:125 call
    refine WL.v (by exact r_len ty_usl29 rfl) rfl rfl rfl ?_
    -- R39.8 117 := diskm.go:125 binOp
    refine WL.v (by exact r_rem (r := ((o.dat.bs.length % 512 : Nat) : Int)) rfl rfl (by omega) rfl) rfl rfl rfl ?_
    -- R39.9 118 := diskm.go:125 binOp
    refine WL.v (by first | exact r_neq rfl rfl (decide_eq_true (by omega)) | exact r_neq rfl rfl (decide_eq_false (by omega)) | exact r_neq rfl rfl rfl) rfl rfl rfl ?_
    -- R39.10 119 := diskm.go:125 pick
    refine WL.v (by first | exact r_pickT (v := .bool _) rfl rfl | exact r_pickF (v := .bool _) rfl rfl) rfl rfl rfl ?_
    refine WL.fin hK1555 (fun _ _ h => h) ?_
    refine WC.condF rfl rfl ?_
    refine WC.skipF hK1554 (fun _ _ h => h) ?_
    refine WC.seq fun K1556 hK1556 => ?_
    -- region 41
    refine WC.region ?_
    -- R41.0 121 := diskm.go:128 fieldAddr
    refine WL.v (by exact r_field ty_fld33_4 rfl) rfl rfl rfl ?_
    -- R41.1 122 := diskm.go:128 load
    refine WL.v (by exact r_load1 ty_one29 rfl (by first | assumption | exact st.c0 (by first | decide | omega) | exact st.c1 (by first | decide | omega) | exact st.c2 (by first | decide | omega) | exact st.c3 (by first | decide | omega) | exact st.c4 (by first | decide | omega) | exact st.c5 (by first | decide | omega) | exact st.c6 (by first | decide | omega) | exact st.c7 (by first | decide | omega) | exact st.c8 (by first | decide | omega))) rfl rfl rfl ?_
    -- R41.2 123 := diskm.go:128 call
    refine WL.v (by exact r_len ty_usl29 rfl) rfl rfl rfl ?_
    -- R41.3 124 := diskm.go:128 binOp
    refine WL.v (by exact r_quo (r := ((n : Nat) : Int)) rfl rfl (by omega) (by rw [show ((o.dat.bs.length : Nat) : Int).tdiv 512 = ((o.dat.bs.length / 512 : Nat) : Int) from rfl, ← hn]; exact wi64 (by omega) (by omega))) rfl rfl rfl ?_
    -- R41.4 9 := diskm.go:128 assign
    refine WL.v (by first | exact r_assign (v := .int _ _) rfl | exact r_assign rfl) rfl rfl rfl ?_
    refine WL.fin hK1556 (fun _ _ h => h) ?_
    refine WC.seq fun K1557 hK1557 => ?_
    refine WC.seq fun K1558 hK1558 => ?_
    -- region 42
    refine WC.region ?_
    -- R42.0 125 := diskm.go:129 move
    refine WL.v (by first | exact r_move (v := .pointer _) rfl | exact r_move rfl) rfl rfl rfl ?_
    -- R42.1 126 := diskm.go:129 fieldAddr
    refine WL.v (by exact r_field ty_fld33_1 rfl) rfl rfl rfl ?_
    -- R42.2 127 := diskm.go:129 load
    refine WL.v (by exact r_load1 ty_one2 rfl (by first | assumption | exact st.c0 (by first | decide | omega) | exact st.c1 (by first | decide | omega) | exact st.c2 (by first | decide | omega) | exact st.c3 (by first | decide | omega) | exact st.c4 (by first | decide | omega) | exact st.c5 (by first | decide | omega) | exact st.c6 (by first | decide | omega) | exact st.c7 (by first | decide | omega) | exact st.c8 (by first | decide | omega))) rfl rfl rfl ?_
    -- R42.3 128 := diskm.go:129 move
    refine WL.v (by first | exact r_move (v := .int _ _) rfl | exact r_move rfl) rfl rfl rfl ?_
    -- R42.4 129 := diskm.go:129 call
    refine WL.call (r_call ty_call44 rfl) rfl rfl rfl (inside_ok (P := P) o.sct (n : Int) ho.sct.2 hs2 st.front2) ?_
    rintro _ w ⟨e0, st⟩
    rw [hb] at e0
    subst e0
    have st := st.back2
    -- R42.5 130 := diskm.go:129 unOp
    refine WL.v (by first | exact r_notT rfl | exact r_notF rfl | exact r_not rfl) rfl rfl rfl ?_
    refine WL.fin hK1558 (fun _ _ h => h) ?_
    refine WC.condT rfl rfl ?_
    refine WC.seq fun K1559 hK1559 => ?_
    -- region 43
    refine WC.region ?_
    -- R43.0 131 := diskm.go:130 build
    refine WL.v (by exact r_build (ps := [(0, .int _ _)]) (vs := [_, _]) ty_pl37 ty_zero37 rfl (fill_step (pv := [_]) (cs' := [_, _]) rfl rfl rfl rfl (fill_nil))) rfl rfl rfl ?_
    -- R43.1 None := diskm.go:130 store
    first | refine WL.storeW (vs := [_, _]) st ty_agg37 rfl rfl rfl rfl rfl rfl ?_ | refine WL.storeL (vs := [_, _]) st ty_agg37 rfl rfl rfl rfl (by first | decide | omega) rfl rfl ?_ | refine WL.storeW (vs := [_, _]) st.front1 ty_agg37 rfl rfl rfl rfl rfl rfl ?_ | refine WL.storeL (vs := [_, _]) st.front1 ty_agg37 rfl rfl rfl rfl (by first | decide | omega) rfl rfl ?_ | refine WL.storeW (vs := [_, _]) st.front2 ty_agg37 rfl rfl rfl rfl rfl rfl ?_ | refine WL.storeL (vs := [_, _]) st.front2 ty_agg37 rfl rfl rfl rfl (by first | decide | omega) rfl rfl ?_ | refine WL.storeW (vs := [_, _]) st.front3 ty_agg37 rfl rfl rfl rfl rfl rfl ?_ | refine WL.storeL (vs := [_, _]) st.front3 ty_agg37 rfl rfl rfl rfl (by first | decide | omega) rfl rfl ?_ | refine WL.storeW (vs := [_, _]) st.front4 ty_agg37 rfl rfl rfl rfl rfl rfl ?_ | refine WL.storeL (vs := [_, _]) st.front4 ty_agg37 rfl rfl rfl rfl (by first | decide | omega) rfl rfl ?_ | refine WL.storeW (vs := [_, _]) st.front5 ty_agg37 rfl rfl rfl rfl rfl rfl ?_ | refine WL.storeL (vs := [_, _]) st.front5 ty_agg37 rfl rfl rfl rfl (by first | decide | omega) rfl rfl ?_ | refine WL.storeW (vs := [_, _]) st.front6 ty_agg37 rfl rfl rfl rfl rfl rfl ?_ | refine WL.storeL (vs := [_, _]) st.front6 ty_agg37 rfl rfl rfl rfl (by first | decide | omega) rfl rfl ?_ | refine WL.storeW (vs := [_, _]) st.front7 ty_agg37 rfl rfl rfl rfl rfl rfl ?_ | refine WL.storeL (vs := [_, _]) st.front7 ty_agg37 rfl rfl rfl rfl (by first | decide | omega) rfl rfl ?_ | refine WL.storeW (vs := [_, _]) st.front8 ty_agg37 rfl rfl rfl rfl rfl rfl ?_ | refine WL.storeL (vs := [_, _]) st.front8 ty_agg37 rfl rfl rfl rfl (by first | decide | omega) rfl rfl ?_
    intro w st
    refine WL.fin hK1559 (fun _ _ h => h) ?_
    refine WC.retC (vs := [_, _]) Tryd.results15 (fun _ _ h => h) rfl ty_agg37 rfl ⟨(by first | assumption | exact st.c0 (by first | decide | omega) | exact st.c1 (by first | decide | omega) | exact st.c2 (by first | decide | omega) | exact st.c3 (by first | decide | omega) | exact st.c4 (by first | decide | omega) | exact st.c5 (by first | decide | omega) | exact st.c6 (by first | decide | omega) | exact st.c7 (by first | decide | omega) | exact st.c8 (by first | decide | omega)), (by first | assumption | exact st.c0 (by first | decide | omega) | exact st.c1 (by first | decide | omega) | exact st.c2 (by first | decide | omega) | exact st.c3 (by first | decide | omega) | exact st.c4 (by first | decide | omega) | exact st.c5 (by first | decide | omega) | exact st.c6 (by first | decide | omega) | exact st.c7 (by first | decide | omega) | exact st.c8 (by first | decide | omega)), trivial⟩ ?_
    exact ⟨_, rfl, MPost.none e (.inr (by decide)) (.inr (by decide)) h rfl (st_ms st)⟩
  obtain ⟨es, hb3, hb4⟩ := span_wi h0 h1 (by rw [← hn]; exact hb)
  rw [es, if_neg (by decide), ← hn] at e
  rw [← hn] at hb4
  obtain ⟨sn, hsn⟩ : ∃ sn, sn = o.sct.toNat := ⟨_, rfl⟩
  have hsc : o.sct = (sn : Int) := by omega
  rw [← hsn] at e
  have hadr := ho.dat.adr (by omega)
  refine enter [.pointer (some ⟨bq, 0, none⟩), .agg #[.int .i64 o.kind, .int .i64 o.sct, .int .i64 o.cnt, .int .i64 o.cache, .slice o.dat.a o.dat.bs.length o.dat.c, .int .i64 o.after, .slice o.kp.a o.kp.bs.length o.kp.c, .int .i64 o.tear, .int .i64 o.tb]] Tryd.func15 rfl Tryd.ntmps15 rfl ?_
  show WC _ _ _ 292 [] [(0, .pointer (some ⟨bq, 0, none⟩)), (1, .agg #[.int .i64 o.kind, .int .i64 o.sct, .int .i64 o.cnt, .int .i64 o.cache, .slice o.dat.a o.dat.bs.length o.dat.c, .int .i64 o.after, .slice o.kp.a o.kp.bs.length o.kp.c, .int .i64 o.tear, .int .i64 o.tb])] _
  refine WC.seq fun K1560 hK1560 => ?_
  -- region 0
  refine WC.region ?_
  -- R0.0 3 := diskm.go:83 box
  first | refine WL.box (m := 9) (vs := [.int _ _, .int _ _, .int _ _, .int _ _, .slice _ _ _, .int _ _, .slice _ _ _, .int _ _, .int _ _]) st rfl rfl rfl rfl rfl rfl ?_ | refine WL.box (m := 9) (vs := [_, _, _, _, _, _, _, _, _]) st rfl rfl rfl rfl rfl rfl ?_ | refine WL.box st rfl rfl rfl rfl rfl rfl ?_
  intro b3 w st
  -- R0.1 4 := diskm.go:83 alloc
  refine WL.alloc (m := 2) st ty_zero37 rfl rfl rfl ?_
  intro b4 w st
  refine WL.fin hK1560 (fun _ _ h => h) ?_
  refine WC.seq fun K1561 hK1561 => ?_
  refine WC.seq fun K1562 hK1562 => ?_
  -- region 1
  refine WC.region ?_
  -- R1.0 16 := diskm.go:84 fieldAddr
  refine WL.v (by exact r_field ty_fld33_0 rfl) rfl rfl rfl ?_
  -- R1.1 17 := diskm.go:84 load
  refine WL.v (by exact r_load1 ty_one28 rfl (by first | assumption | exact st.c0 (by first | decide | omega) | exact st.c1 (by first | decide | omega) | exact st.c2 (by first | decide | omega) | exact st.c3 (by first | decide | omega) | exact st.c4 (by first | decide | omega) | exact st.c5 (by first | decide | omega) | exact st.c6 (by first | decide | omega) | exact st.c7 (by first | decide | omega) | exact st.c8 (by first | decide | omega))) rfl rfl rfl ?_
  refine WL.fin hK1562 (fun _ _ h => h) ?_
  refine WC.block ?_
  refine WC.seq fun K1563 hK1563 => ?_
  -- region 3
  refine WC.region ?_
  -- R3.0 20 := diskm.go:85 binOp
  refine WL.v (by first | exact r_eql rfl rfl (decide_eq_true (by omega)) | exact r_eql rfl rfl (decide_eq_false (by omega)) | exact r_eql rfl rfl rfl) rfl rfl rfl ?_
  -- R3.1 19 := diskm.go:85 assign
  refine WL.v (by first | exact r_assign (v := .bool _) rfl | exact r_assign rfl) rfl rfl rfl ?_
  refine WL.fin hK1563 (fun _ _ h => h) ?_
  refine WC.condF rfl rfl ?_
  refine WC.seq fun K1564 hK1564 => ?_
  -- region 13
  refine WC.region ?_
  -- R13.0 52 := diskm.go:98 binOp
  refine WL.v (by first | exact r_eql rfl rfl (decide_eq_true (by omega)) | exact r_eql rfl rfl (decide_eq_false (by omega)) | exact r_eql rfl rfl rfl) rfl rfl rfl ?_
  -- R13.1 51 := diskm.go:98 assign
  refine WL.v (by first | exact r_assign (v := .bool _) rfl | exact r_assign rfl) rfl rfl rfl ?_
  refine WL.fin hK1564 (fun _ _ h => h) ?_
  refine WC.condF rfl rfl ?_
  refine WC.seq fun K1565 hK1565 => ?_
  -- region 24
  refine WC.region ?_
  -- R24.0 82 := diskm.go:110 binOp
  refine WL.v (by first | exact r_eql rfl rfl (decide_eq_true (by omega)) | exact r_eql rfl rfl (decide_eq_false (by omega)) | exact r_eql rfl rfl rfl) rfl rfl rfl ?_
  -- R24.1 81 := diskm.go:110 assign
  refine WL.v (by first | exact r_assign (v := .bool _) rfl | exact r_assign rfl) rfl rfl rfl ?_
  refine WL.fin hK1565 (fun _ _ h => h) ?_
  refine WC.condF rfl rfl ?_
  refine WC.seq fun K1566 hK1566 => ?_
  refine WC.seq fun K1567 hK1567 => ?_
  -- region 29
  refine WC.region ?_
  -- R29.0 94 := diskm.go:116 binOp
  refine WL.v (by first | exact r_eql rfl rfl (decide_eq_true (by omega)) | exact r_eql rfl rfl (decide_eq_false (by omega)) | exact r_eql rfl rfl rfl) rfl rfl rfl ?_
  -- R29.1 93 := diskm.go:116 assign
  refine WL.v (by first | exact r_assign (v := .bool _) rfl | exact r_assign rfl) rfl rfl rfl ?_
  refine WL.fin hK1567 (fun _ _ h => h) ?_
  refine WC.condT rfl rfl ?_
  refine WC.skipF hK1566 (fun _ _ h => h) ?_
  refine WC.condT rfl rfl ?_
  refine WC.seq fun K1568 hK1568 => ?_
  -- region 35
  refine WC.region ?_
  -- R35.0 100 := diskm.go:117 move
  refine WL.v (by first | exact r_move (v := .pointer _) rfl | exact r_move rfl) rfl rfl rfl ?_
  -- R35.1 101 := diskm.go:117 nilCheck
  refine WL.v (by exact r_nilCheck rfl) rfl rfl rfl ?_
  -- R35.2 102 := diskm.go:117 fieldAddr
  refine WL.v (by exact r_field ty_fld48_4 rfl) rfl rfl rfl ?_
  -- R35.3 103 := diskm.go:117 load
  refine WL.v (by exact r_load1 (v := .bool false) ty_one4 rfl (by rw [← hd]; exact st.c2 (by decide))) rfl rfl rfl ?_
  refine WL.fin hK1568 (fun _ _ h => h) ?_
  refine WC.condF rfl rfl ?_
  refine WC.skipF hK1561 (fun _ _ h => h) ?_
  refine WC.seq fun K1569 hK1569 => ?_
  refine WC.seq fun K1570 hK1570 => ?_
  -- region 37
  refine WC.region ?_
  -- R37.0 105 := diskm.go:123 fieldAddr
  refine WL.v (by exact r_field ty_fld33_0 rfl) rfl rfl rfl ?_
  -- R37.1 106 := diskm.go:123 load
  refine WL.v (by exact r_load1 ty_one28 rfl (by first | assumption | exact st.c0 (by first | decide | omega) | exact st.c1 (by first | decide | omega) | exact st.c2 (by first | decide | omega) | exact st.c3 (by first | decide | omega) | exact st.c4 (by first | decide | omega) | exact st.c5 (by first | decide | omega) | exact st.c6 (by first | decide | omega) | exact st.c7 (by first | decide | omega) | exact st.c8 (by first | decide | omega))) rfl rfl rfl ?_
  refine WL.fin hK1570 (fun _ _ h => h) ?_
  refine WC.block ?_
  refine WC.seq fun K1571 hK1571 => ?_
  -- region 38
  refine WC.region ?_
  -- R38.0 108 := diskm.go:124 binOp
  refine WL.v (by first | exact r_eql rfl rfl (decide_eq_true (by omega)) | exact r_eql rfl rfl (decide_eq_false (by omega)) | exact r_eql rfl rfl rfl) rfl rfl rfl ?_
  -- R38.1 107 := diskm.go:124 assign
  refine WL.v (by first | exact r_assign (v := .bool _) rfl | exact r_assign rfl) rfl rfl rfl ?_
  refine WL.fin hK1571 (fun _ _ h => h) ?_
  refine WC.condT rfl rfl ?_
  refine WC.seq fun K1572 hK1572 => ?_
  refine WC.seq fun K1573 hK1573 => ?_
  -- region 39
  refine WC.region ?_
  -- R39.0 109 := diskm.go:125 fieldAddr
  refine WL.v (by exact r_field ty_fld33_4 rfl) rfl rfl rfl ?_
  -- R39.1 110 := diskm.go:125 load
  refine WL.v (by exact r_load1 ty_one29 rfl (by first | assumption | exact st.c0 (by first | decide | omega) | exact st.c1 (by first | decide | omega) | exact st.c2 (by first | decide | omega) | exact st.c3 (by first | decide | omega) | exact st.c4 (by first | decide | omega) | exact st.c5 (by first | decide | omega) | exact st.c6 (by first | decide | omega) | exact st.c7 (by first | decide | omega) | exact st.c8 (by first | decide | omega))) rfl rfl rfl ?_
  -- R39.2 111 := diskm.go:125 call
  refine WL.v (by exact r_len ty_usl29 rfl) rfl rfl rfl ?_
  -- R39.3 112 := diskm.go:125 binOp
  refine WL.v (by first | exact r_eql rfl rfl (decide_eq_true (by omega)) | exact r_eql rfl rfl (decide_eq_false (by omega)) | exact r_eql rfl rfl rfl) rfl rfl rfl ?_
  -- R39.4 113 := diskm.go:125 move
  refine WL.v (by first | exact r_move (v := .bool _) rfl | exact r_move rfl) rfl rfl rfl ?_
  -- R39.5 114 := diskm.go:125 fieldAddr
  refine WL.v (by exact r_field ty_fld33_4 rfl) rfl rfl rfl ?_
  -- R39.6 115 := diskm.go:125 load
  refine WL.v (by exact r_load1 ty_one29 rfl (by first | assumption | exact st.c0 (by first | decide | omega) | exact st.c1 (by first | decide | omega) | exact st.c2 (by first | decide | omega) | exact st.c3 (by first | decide | omega) | exact st.c4 (by first | decide | omega) | exact st.c5 (by first | decide | omega) | exact st.c6 (by first | decide | omega) | exact st.c7 (by first | decide | omega) | exact st.c8 (by first | decide | omega))) rfl rfl rfl ?_
  -- R39.7 116 := diskm.go:125 call
  refine WL.v (by exact r_len ty_usl29 rfl) rfl rfl rfl ?_
  -- R39.8 117 := diskm.go:125 binOp
  refine WL.v (by exact r_rem (r := ((o.dat.bs.length % 512 : Nat) : Int)) rfl rfl (by omega) rfl) rfl rfl rfl ?_
  -- R39.9 118 := diskm.go:125 binOp
  refine WL.v (by first | exact r_neq rfl rfl (decide_eq_true (by omega)) | exact r_neq rfl rfl (decide_eq_false (by omega)) | exact r_neq rfl rfl rfl) rfl rfl rfl ?_
  -- R39.10 119 := diskm.go:125 pick
  refine WL.v (by first | exact r_pickT (v := .bool _) rfl rfl | exact r_pickF (v := .bool _) rfl rfl) rfl rfl rfl ?_
  refine WL.fin hK1573 (fun _ _ h => h) ?_
  refine WC.condF rfl rfl ?_
  refine WC.skipF hK1572 (fun _ _ h => h) ?_
  refine WC.seq fun K1574 hK1574 => ?_
  -- region 41
  refine WC.region ?_
  -- R41.0 121 := diskm.go:128 fieldAddr
  refine WL.v (by exact r_field ty_fld33_4 rfl) rfl rfl rfl ?_
  -- R41.1 122 := diskm.go:128 load
  refine WL.v (by exact r_load1 ty_one29 rfl (by first | assumption | exact st.c0 (by first | decide | omega) | exact st.c1 (by first | decide | omega) | exact st.c2 (by first | decide | omega) | exact st.c3 (by first | decide | omega) | exact st.c4 (by first | decide | omega) | exact st.c5 (by first | decide | omega) | exact st.c6 (by first | decide | omega) | exact st.c7 (by first | decide | omega) | exact st.c8 (by first | decide | omega))) rfl rfl rfl ?_
  -- R41.2 123 := diskm.go:128 call
  refine WL.v (by exact r_len ty_usl29 rfl) rfl rfl rfl ?_
  -- R41.3 124 := diskm.go:128 binOp
  refine WL.v (by exact r_quo (r := ((n : Nat) : Int)) rfl rfl (by omega) (by rw [show ((o.dat.bs.length : Nat) : Int).tdiv 512 = ((o.dat.bs.length / 512 : Nat) : Int) from rfl, ← hn]; exact wi64 (by omega) (by omega))) rfl rfl rfl ?_
  -- R41.4 9 := diskm.go:128 assign
  refine WL.v (by first | exact r_assign (v := .int _ _) rfl | exact r_assign rfl) rfl rfl rfl ?_
  refine WL.fin hK1574 (fun _ _ h => h) ?_
  refine WC.seq fun K1575 hK1575 => ?_
  refine WC.seq fun K1576 hK1576 => ?_
  -- region 42
  refine WC.region ?_
  -- R42.0 125 := diskm.go:129 move
  refine WL.v (by first | exact r_move (v := .pointer _) rfl | exact r_move rfl) rfl rfl rfl ?_
  -- R42.1 126 := diskm.go:129 fieldAddr
  refine WL.v (by exact r_field ty_fld33_1 rfl) rfl rfl rfl ?_
  -- R42.2 127 := diskm.go:129 load
  refine WL.v (by exact r_load1 ty_one2 rfl (by first | assumption | exact st.c0 (by first | decide | omega) | exact st.c1 (by first | decide | omega) | exact st.c2 (by first | decide | omega) | exact st.c3 (by first | decide | omega) | exact st.c4 (by first | decide | omega) | exact st.c5 (by first | decide | omega) | exact st.c6 (by first | decide | omega) | exact st.c7 (by first | decide | omega) | exact st.c8 (by first | decide | omega))) rfl rfl rfl ?_
  -- R42.3 128 := diskm.go:129 move
  refine WL.v (by first | exact r_move (v := .int _ _) rfl | exact r_move rfl) rfl rfl rfl ?_
  -- R42.4 129 := diskm.go:129 call
  refine WL.call (r_call ty_call44 rfl) rfl rfl rfl (inside_ok (P := P) o.sct (n : Int) ho.sct.2 hs2 st.front2) ?_
  rintro _ w ⟨e0, st⟩
  rw [hb] at e0
  subst e0
  have st := st.back2
  -- R42.5 130 := diskm.go:129 unOp
  refine WL.v (by first | exact r_notT rfl | exact r_notF rfl | exact r_not rfl) rfl rfl rfl ?_
  refine WL.fin hK1576 (fun _ _ h => h) ?_
  refine WC.condF rfl rfl ?_
  refine WC.skipF hK1575 (fun _ _ h => h) ?_
  refine WC.seq fun K1577 hK1577 => ?_
  -- region 44
  refine WC.region ?_
  -- R44.0 10 := diskm.go:132 assign
  refine WL.v (by first | exact r_assign (v := .int _ _) rfl | exact r_assign rfl) rfl rfl rfl ?_
  refine WL.fin hK1577 (fun _ _ h => h) ?_
  refine WC.block ?_
  refine WC.loop (ι := Nat × PD × MZ) (fun y => [(0, .pointer (some ⟨bq, 0, none⟩)), (3, .pointer (some ⟨b3, 0, none⟩)), (4, .pointer (some ⟨b4, 0, none⟩)), (9, .int .i64 (n : Nat)), (10, .int .i64 (y.1 : Nat))])
    (fun y w' => y.1 ≤ n ∧ stepP P o = writeL o.dat.bs sn y.1 (n - y.1) y.2.1 ∧ PWf y.2.1 ∧ y.2.1.sec = P.sec ∧ (y.2.1.armed = true → -1000000001000 - (y.1 : Int) ≤ y.2.1.fuse ∧ y.2.1.fuse ≤ 9223372036854775807) ∧ MI w0 y.2.1 y.2.2 ∧ S0 w0 ((b4, Row 37 2 (nth [.int .i64 0, .slice none 0 0])) :: opI b3 o :: mds bq y.2.1 y.2.2 l) w') (fun y => n - y.1) (0, P, z) ⟨Nat.zero_le _, e, hp, rfl, (fun h => by obtain ⟨q1, q2⟩ := hfz h; exact ⟨by show _ - ((0 : Nat) : Int) ≤ P.fuse; omega, q2⟩), h, st⟩ ?_ ?_
  · skip
    repeat (first | exact sub_nil _ | refine sub_cons rfl rfl ?_)
  rintro ⟨j, Pj, zj⟩ w ⟨hj, hwl, hpj, hsj, hfj, hmj, st⟩ K1 hK1
  dsimp only at hj hwl hpj hsj hfj hmj st ⊢
  by_cases hjl : ¬ j < n
  · obtain rfl : n = j := by omega
    rw [Nat.sub_self] at hwl
    refine WC.seq fun K1578 hK1578 => ?_
    refine WC.seq fun K1579 hK1579 => ?_
    -- region 45
    refine WC.region ?_
    -- R45.0 132 := diskm.go:132 move
    refine WL.v (by first | exact r_move (v := .int _ _) rfl | exact r_move rfl) rfl rfl rfl ?_
    -- R45.1 133 := diskm.go:132 move
    refine WL.v (by first | exact r_move (v := .int _ _) rfl | exact r_move rfl) rfl rfl rfl ?_
    -- R45.2 134 := diskm.go:132 binOp
    refine WL.v (by first | exact r_lss rfl rfl (decide_eq_true (by omega)) | exact r_lss rfl rfl (decide_eq_false (by omega)) | exact r_lss rfl rfl rfl) rfl rfl rfl ?_
    refine WL.fin hK1579 (fun _ _ h => h) ?_
    refine WC.condF rfl rfl ?_
    refine WC.exitF hK1569 (fun _ _ h => h) ?_
    refine WC.seq fun K1580 hK1580 => ?_
    -- region 83
    refine WC.region ?_
    -- R83.0 291 := diskm.go:174 build
    refine WL.v (by exact r_build (ps := []) (vs := [_, _]) ty_pl37 ty_zero37 rfl (fill_nil)) rfl rfl rfl ?_
    -- R83.1 None := diskm.go:174 store
    first | refine WL.storeW (vs := [_, _]) st ty_agg37 rfl rfl rfl rfl rfl rfl ?_ | refine WL.storeL (vs := [_, _]) st ty_agg37 rfl rfl rfl rfl (by first | decide | omega) rfl rfl ?_ | refine WL.storeW (vs := [_, _]) st.front1 ty_agg37 rfl rfl rfl rfl rfl rfl ?_ | refine WL.storeL (vs := [_, _]) st.front1 ty_agg37 rfl rfl rfl rfl (by first | decide | omega) rfl rfl ?_ | refine WL.storeW (vs := [_, _]) st.front2 ty_agg37 rfl rfl rfl rfl rfl rfl ?_ | refine WL.storeL (vs := [_, _]) st.front2 ty_agg37 rfl rfl rfl rfl (by first | decide | omega) rfl rfl ?_ | refine WL.storeW (vs := [_, _]) st.front3 ty_agg37 rfl rfl rfl rfl rfl rfl ?_ | refine WL.storeL (vs := [_, _]) st.front3 ty_agg37 rfl rfl rfl rfl (by first | decide | omega) rfl rfl ?_ | refine WL.storeW (vs := [_, _]) st.front4 ty_agg37 rfl rfl rfl rfl rfl rfl ?_ | refine WL.storeL (vs := [_, _]) st.front4 ty_agg37 rfl rfl rfl rfl (by first | decide | omega) rfl rfl ?_ | refine WL.storeW (vs := [_, _]) st.front5 ty_agg37 rfl rfl rfl rfl rfl rfl ?_ | refine WL.storeL (vs := [_, _]) st.front5 ty_agg37 rfl rfl rfl rfl (by first | decide | omega) rfl rfl ?_ | refine WL.storeW (vs := [_, _]) st.front6 ty_agg37 rfl rfl rfl rfl rfl rfl ?_ | refine WL.storeL (vs := [_, _]) st.front6 ty_agg37 rfl rfl rfl rfl (by first | decide | omega) rfl rfl ?_ | refine WL.storeW (vs := [_, _]) st.front7 ty_agg37 rfl rfl rfl rfl rfl rfl ?_ | refine WL.storeL (vs := [_, _]) st.front7 ty_agg37 rfl rfl rfl rfl (by first | decide | omega) rfl rfl ?_ | refine WL.storeW (vs := [_, _]) st.front8 ty_agg37 rfl rfl rfl rfl rfl rfl ?_ | refine WL.storeL (vs := [_, _]) st.front8 ty_agg37 rfl rfl rfl rfl (by first | decide | omega) rfl rfl ?_
    intro w st
    refine WL.fin hK1580 (fun _ _ h => h) ?_
    refine WC.retC (vs := [_, _]) Tryd.results15 (fun _ _ h => h) rfl ty_agg37 rfl ⟨(by first | assumption | exact st.c0 (by first | decide | omega) | exact st.c1 (by first | decide | omega) | exact st.c2 (by first | decide | omega) | exact st.c3 (by first | decide | omega) | exact st.c4 (by first | decide | omega) | exact st.c5 (by first | decide | omega) | exact st.c6 (by first | decide | omega) | exact st.c7 (by first | decide | omega) | exact st.c8 (by first | decide | omega)), (by first | assumption | exact st.c0 (by first | decide | omega) | exact st.c1 (by first | decide | omega) | exact st.c2 (by first | decide | omega) | exact st.c3 (by first | decide | omega) | exact st.c4 (by first | decide | omega) | exact st.c5 (by first | decide | omega) | exact st.c6 (by first | decide | omega) | exact st.c7 (by first | decide | omega) | exact st.c8 (by first | decide | omega)), trivial⟩ ?_
    exact ⟨_, rfl, MPost.none hwl (.inl (by omega)) (.inl (by omega)) hmj rfl (st_ms st)⟩
  have hjl : j < n := by omega
  obtain ⟨m, hm⟩ : ∃ m, n - j = m + 1 := ⟨n - j - 1, by omega⟩
  have hm2 : n - (j + 1) = m := by omega
  rw [hm, writeL_one] at hwl
  obtain ⟨bm, NS, wv, XW, f, K, sv, t, tb⟩ := zj
  obtain ⟨hbk, hown, hso, hsl, hsr, harm⟩ := hmj
  dsimp only at hbk hown hso hsl hsr harm st
  have hple := hpj.ple; have hl2 := hpj.l2; have hl1 := hpj.l1
  obtain ⟨wa, wc, wb, wo, rfl, hwc, hwa, hwrd⟩ := hown.form
  refine WC.seq fun K1581 hK1581 => ?_
  refine WC.seq fun K1582 hK1582 => ?_
  -- region 45
  refine WC.region ?_
  -- R45.0 132 := diskm.go:132 move
  refine WL.v (by first | exact r_move (v := .int _ _) rfl | exact r_move rfl) rfl rfl rfl ?_
  -- R45.1 133 := diskm.go:132 move
  refine WL.v (by first | exact r_move (v := .int _ _) rfl | exact r_move rfl) rfl rfl rfl ?_
  -- R45.2 134 := diskm.go:132 binOp
  refine WL.v (by first | exact r_lss rfl rfl (decide_eq_true (by omega)) | exact r_lss rfl rfl (decide_eq_false (by omega)) | exact r_lss rfl rfl rfl) rfl rfl rfl ?_
  refine WL.fin hK1582 (fun _ _ h => h) ?_
  refine WC.condT rfl rfl ?_
  refine WC.skipF hK1581 (fun _ _ h => h) ?_
  refine WC.seq fun K1583 hK1583 => ?_
  refine WC.block ?_
  refine WC.cut (ι := MZ) (fun _ => [(0, .pointer (some ⟨bq, 0, none⟩)), (3, .pointer (some ⟨b3, 0, none⟩)), (4, .pointer (some ⟨b4, 0, none⟩)), (9, .int .i64 (n : Nat)), (10, .int .i64 (j : Nat))])
    (fun y w' => MI w0 (destP Pj) y ∧ S0 w0 ((b4, Row 37 2 (nth [.int .i64 0, .slice none 0 0])) :: opI b3 o :: mds bq (destP Pj) y l) w') ?_ ?_
  rotate_left
  · intro KC hKC
    by_cases hfl : Pj.pend.length = Pj.lim
    rotate_left
    · have ed : destP Pj = Pj := if_neg hfl
      refine WC.seq fun K1584 hK1584 => ?_
      -- region 47 (draws)
      refine WC.quietS st ty_mixed (by kernel_rfl) fun Kq hKq => ?_
      -- R47.0 137 := diskm.go:133 move
      refine QL.v (fun w st => by first | exact r_move (v := .pointer _) rfl | exact r_move rfl) rfl rfl rfl ?_
      -- R47.1 138 := diskm.go:133 nilCheck
      refine QL.v (fun w st => by exact r_nilCheck rfl) rfl rfl rfl ?_
      -- R47.2 139 := diskm.go:133 fieldAddr
      refine QL.v (fun w st => by exact r_field ty_fld48_3 rfl) rfl rfl rfl ?_
      -- R47.3 140 := diskm.go:133 load
      refine QL.v (fun w st => by exact r_load1 ty_one46 rfl (by first | assumption | exact st.c0 (by first | decide | omega) | exact st.c1 (by first | decide | omega) | exact st.c2 (by first | decide | omega) | exact st.c3 (by first | decide | omega) | exact st.c4 (by first | decide | omega) | exact st.c5 (by first | decide | omega) | exact st.c6 (by first | decide | omega) | exact st.c7 (by first | decide | omega) | exact st.c8 (by first | decide | omega))) rfl rfl rfl ?_
      -- R47.4 141 := diskm.go:133 call
      refine QL.v (fun w st => by exact r_len ty_usl46 rfl) rfl rfl rfl ?_
      -- R47.5 142 := diskm.go:133 move
      refine QL.v (fun w st => by first | exact r_move (v := .pointer _) rfl | exact r_move rfl) rfl rfl rfl ?_
      -- R47.6 143 := diskm.go:133 nilCheck
      refine QL.v (fun w st => by exact r_nilCheck rfl) rfl rfl rfl ?_
      -- R47.7 144 := diskm.go:133 fieldAddr
      refine QL.v (fun w st => by exact r_field ty_fld48_1 rfl) rfl rfl rfl ?_
      -- R47.8 145 := diskm.go:133 load
      refine QL.v (fun w st => by exact r_load1 ty_one2 rfl (by first | assumption | exact st.c0 (by first | decide | omega) | exact st.c1 (by first | decide | omega) | exact st.c2 (by first | decide | omega) | exact st.c3 (by first | decide | omega) | exact st.c4 (by first | decide | omega) | exact st.c5 (by first | decide | omega) | exact st.c6 (by first | decide | omega) | exact st.c7 (by first | decide | omega) | exact st.c8 (by first | decide | omega))) rfl rfl rfl ?_
      -- R47.9 146 := diskm.go:133 binOp
      refine QL.v (fun w st => by exact r_eql rfl rfl (decide_eq_false (by omega))) rfl rfl rfl ?_
      refine QL.wl hKq fun w st => ?_
      refine WL.fin hK1584 (fun _ _ h => h) ?_
      refine WC.condF rfl rfl ?_
      refine WC.skipJ hKC (fun _ _ h => h) ⟨bm, NS, _, XW, f, K, sv, t, tb⟩ (by rw [ed]; exact ⟨⟨hbk, hown, hso, hsl, hsr, harm⟩, st⟩) (by repeat (first | exact sub_nil _ | refine sub_cons rfl rfl ?_))
    obtain ⟨p, pl, hpp⟩ : ∃ p pl, Pj.pend = p :: pl := by
      cases hq : Pj.pend with
      | nil => rw [hq] at hfl; simp at hfl; omega
      | cons p pl => exact ⟨p, pl, rfl⟩
    have ed : destP Pj = { Pj with pc := stP Pj.pc p.1 512 p.2, pend := pl } := by
      unfold destP; rw [if_pos hfl, hpp]; rfl
    obtain ⟨hps, hpr⟩ := hpj.psec p (by rw [hpp]; exact List.mem_cons_self)
    have hpl : Pj.pend.length = pl.length + 1 := by rw [hpp]; rfl
    have hbk0 := hbk
    rw [hpp] at hbk0
    obtain ⟨hp0, hp1⟩ := hbk0.wt 0 p rfl
    rw [hpl] at hown hwrd hwc hwa hfl
    obtain ⟨wa2, wc2, v', hwv, hwc2, hv', hoj'⟩ := hown.tail
    cases hwv
    obtain rfl := hwa (by omega)
    have hp0 : f 0 = .int .i64 (p.1 : Nat) := hp0
    have hp1 : Sees w0 K (f 1) (bytesOf 512 p.2) := hp1
    obtain ⟨va, vc, hvv⟩ := hp1.sl
    rw [bytesOf_len] at hvv
    rw [hvv] at hp1
    rw [hpl] at st
    refine WC.seq fun K1585 hK1585 => ?_
    -- region 47 (draws)
    refine WC.quietS st ty_mixed (by kernel_rfl) fun Kq hKq => ?_
    -- R47.0 137 := diskm.go:133 move
    refine QL.v (fun w st => by first | exact r_move (v := .pointer _) rfl | exact r_move rfl) rfl rfl rfl ?_
    -- R47.1 138 := diskm.go:133 nilCheck
    refine QL.v (fun w st => by exact r_nilCheck rfl) rfl rfl rfl ?_
    -- R47.2 139 := diskm.go:133 fieldAddr
    refine QL.v (fun w st => by exact r_field ty_fld48_3 rfl) rfl rfl rfl ?_
    -- R47.3 140 := diskm.go:133 load
    refine QL.v (fun w st => by exact r_load1 ty_one46 rfl (by first | assumption | exact st.c0 (by first | decide | omega) | exact st.c1 (by first | decide | omega) | exact st.c2 (by first | decide | omega) | exact st.c3 (by first | decide | omega) | exact st.c4 (by first | decide | omega) | exact st.c5 (by first | decide | omega) | exact st.c6 (by first | decide | omega) | exact st.c7 (by first | decide | omega) | exact st.c8 (by first | decide | omega))) rfl rfl rfl ?_
    -- R47.4 141 := diskm.go:133 call
    refine QL.v (fun w st => by exact r_len ty_usl46 rfl) rfl rfl rfl ?_
    -- R47.5 142 := diskm.go:133 move
    refine QL.v (fun w st => by first | exact r_move (v := .pointer _) rfl | exact r_move rfl) rfl rfl rfl ?_
    -- R47.6 143 := diskm.go:133 nilCheck
    refine QL.v (fun w st => by exact r_nilCheck rfl) rfl rfl rfl ?_
    -- R47.7 144 := diskm.go:133 fieldAddr
    refine QL.v (fun w st => by exact r_field ty_fld48_1 rfl) rfl rfl rfl ?_
    -- R47.8 145 := diskm.go:133 load
    refine QL.v (fun w st => by exact r_load1 ty_one2 rfl (by first | assumption | exact st.c0 (by first | decide | omega) | exact st.c1 (by first | decide | omega) | exact st.c2 (by first | decide | omega) | exact st.c3 (by first | decide | omega) | exact st.c4 (by first | decide | omega) | exact st.c5 (by first | decide | omega) | exact st.c6 (by first | decide | omega) | exact st.c7 (by first | decide | omega) | exact st.c8 (by first | decide | omega))) rfl rfl rfl ?_
    -- R47.9 146 := diskm.go:133 binOp
    refine QL.v (fun w st => by exact r_eql rfl rfl (decide_eq_true (by omega))) rfl rfl rfl ?_
    refine QL.wl hKq fun w st => ?_
    refine WL.fin hK1585 (fun _ _ h => h) ?_
    refine WC.condT rfl rfl ?_
    refine WC.seq fun K1586 hK1586 => ?_
    -- region 48
    refine WC.region ?_
    -- R48.0 147 := diskm.go:134 move
    refine WL.v (by first | exact r_move (v := .pointer _) rfl | exact r_move rfl) rfl rfl rfl ?_
    -- R48.1 148 := diskm.go:134 move
    refine WL.v (by first | exact r_move (v := .pointer _) rfl | exact r_move rfl) rfl rfl rfl ?_
    -- R48.2 149 := diskm.go:134 nilCheck
    refine WL.v (by exact r_nilCheck rfl) rfl rfl rfl ?_
    -- R48.3 150 := diskm.go:134 fieldAddr
    refine WL.v (by exact r_field ty_fld48_3 rfl) rfl rfl rfl ?_
    -- R48.4 151 := diskm.go:134 load
    refine WL.v (by exact r_load1 ty_one46 rfl (by first | assumption | exact st.c0 (by first | decide | omega) | exact st.c1 (by first | decide | omega) | exact st.c2 (by first | decide | omega) | exact st.c3 (by first | decide | omega) | exact st.c4 (by first | decide | omega) | exact st.c5 (by first | decide | omega) | exact st.c6 (by first | decide | omega) | exact st.c7 (by first | decide | omega) | exact st.c8 (by first | decide | omega))) rfl rfl rfl ?_
    -- R48.5 152 := diskm.go:134 indexAddr
    refine WL.v (by exact r_indexS (j := 0) ty_sl46 rfl rfl rfl (by omega)) rfl rfl rfl ?_
    -- R48.6 153 := diskm.go:134 load
    have g0 := hwrd st (fun x hx => List.mem_cons_of_mem _ (List.mem_cons_of_mem _ (List.mem_cons_of_mem _ (List.mem_cons_of_mem _ (List.mem_append_left _ hx))))) 0 (by omega)
    have g1 := hwrd st (fun x hx => List.mem_cons_of_mem _ (List.mem_cons_of_mem _ (List.mem_cons_of_mem _ (List.mem_cons_of_mem _ (List.mem_append_left _ hx))))) 1 (by omega)
    rw [hp0] at g0
    rw [hvv] at g1
    refine WL.v (v := .agg #[.int .i64 (p.1 : Nat), .slice va 512 vc]) (by exact r_loadL (vs := [_, _]) ty_agg63 rfl ⟨by rw [show wo + 0 * 2 + 0 = wo + 0 by omega]; exact g0, by rw [show wo + 0 * 2 + 1 = wo + 1 by omega]; exact g1, trivial⟩) rfl rfl rfl ?_
    -- R48.7 154 := diskm.go:134 call
    refine WL.call (r_call ty_call45 rfl) rfl rfl rfl (settleM_ok (P := Pj) (n := 512) hbk hps (by omega) hp1 (Nat.le_refl _) (fun x hx => List.mem_cons_of_mem _ (List.mem_cons_of_mem _ (List.mem_append_right _ (List.mem_append_left _ hx)))) (st.perm (List.perm_append_comm_assoc [_, _] [_, _] _))) ?_
    rintro _ w ⟨b, rfl, st⟩
    have st := st_w1 st
    refine WL.fin hK1586 (fun _ _ h => h) ?_
    -- region 49
    refine WC.region ?_
    -- R49.0 155 := diskm.go:135 move
    refine WL.v (by first | exact r_move (v := .pointer _) rfl | exact r_move rfl) rfl rfl rfl ?_
    -- R49.1 156 := diskm.go:135 move
    refine WL.v (by first | exact r_move (v := .pointer _) rfl | exact r_move rfl) rfl rfl rfl ?_
    -- R49.2 157 := diskm.go:135 nilCheck
    refine WL.v (by exact r_nilCheck rfl) rfl rfl rfl ?_
    -- R49.3 158 := diskm.go:135 fieldAddr
    refine WL.v (by exact r_field ty_fld48_3 rfl) rfl rfl rfl ?_
    -- R49.4 159 := diskm.go:135 load
    refine WL.v (by exact r_load1 ty_one46 rfl (by first | assumption | exact st.c0 (by first | decide | omega) | exact st.c1 (by first | decide | omega) | exact st.c2 (by first | decide | omega) | exact st.c3 (by first | decide | omega) | exact st.c4 (by first | decide | omega) | exact st.c5 (by first | decide | omega) | exact st.c6 (by first | decide | omega) | exact st.c7 (by first | decide | omega) | exact st.c8 (by first | decide | omega))) rfl rfl rfl ?_
    -- R49.5 160 := diskm.go:135 slice
    refine WL.v (v := .slice (slA (some ⟨wb, wo, none⟩) 1 wc 2) pl.length (wc - 1)) (by exact r_slLoS (l := 1) ty_sl46 rfl ⟨_, rfl⟩ (by omega) (by omega) (by omega) rfl) rfl rfl rfl ?_
    -- R49.6 161 := diskm.go:135 nilCheck
    refine WL.v (by exact r_nilCheck rfl) rfl rfl rfl ?_
    -- R49.7 162 := diskm.go:135 fieldAddr
    refine WL.v (by exact r_field ty_fld48_3 rfl) rfl rfl rfl ?_
    -- R49.8 None := diskm.go:135 store
    refine WL.store (v := .slice (slA (some ⟨wb, wo, none⟩) 1 wc 2) pl.length (wc - 1)) st.front2 ty_one46 rfl rfl rfl (by decide) rfl rfl ?_
    intro w st
    have st := (st_nrm (L' := [.int .i64 (Pj.sec : Nat), .int .i64 (Pj.lim : Nat), .map (some bm), .slice (slA (some ⟨wb, wo, none⟩) 1 wc 2) pl.length (wc - 1), .bool Pj.down, .bool Pj.armed, .int .i64 Pj.fuse, .slice sv.a sv.bs.length sv.c, .int .i64 t, .int .i64 tb]) rfl st).back2
    have hR := stP_range (s := p.1) (k := 512) hpj.pcr hpr
    have hM := hbk0.more (K' := iI b 512 (stP Pj.pc p.1 512 p.2 p.1) :: K) (fun x hx => List.mem_cons_of_mem _ hx)
    have q1 := hM.set (s := p.1) (v := sl5 b) (f' := fun j => f (2 + j)) ((Sees.img (bb := b) (fun j => hR p.1 j) (by omega)).mono (fun x hx => by rw [List.mem_singleton.1 hx]; exact List.mem_cons_self)) pl (fun i q hq => by
      have := hM.wt (i + 1) q hq
      rw [show (i + 1) * 2 = 2 + i * 2 by omega, show 2 + i * 2 + 1 = 2 + (i * 2 + 1) by omega] at this
      exact this)
    rw [stP_self (Nat.le_refl _)] at q1
    refine WL.join hKC (fun _ _ h => h) ⟨bm, setN NS (p.1 : Int) (sl5 b), .slice (slA (some ⟨wb, wo, none⟩) 1 wc 2) pl.length (wc - 1), XW, fun j => f (2 + j), iI b 512 (stP Pj.pc p.1 512 p.2 p.1) :: K, sv, t, tb⟩ (by rw [ed]; exact ⟨⟨q1, by rw [← hv']; exact hoj', hso, hsl, hsr, harm⟩, st⟩) (by repeat (first | exact sub_nil _ | refine sub_cons rfl rfl ?_))
  rintro ⟨bm, NS, wv, XW, f, K, sv, t, tb⟩ w ⟨⟨hbk, hown, hso, hsl, hsr, harm⟩, st⟩
  dsimp only at hbk hown hso hsl hsr harm st
  have hdl2 : (destP Pj).pend.length ≤ 65536 := by
    unfold destP
    split
    · show (Pj.pend.drop 1).length ≤ _; rw [List.length_drop]; omega
    · omega
  obtain ⟨wa, wc, wb, wo, rfl, hwc, hwa, hwrd⟩ := hown.form
  refine WC.seq fun K1587 hK1587 => ?_
  -- region 50
  refine WC.region ?_
  -- R50.0 163 := diskm.go:137 fieldAddr
  refine WL.v (by exact r_field ty_fld33_4 rfl) rfl rfl rfl ?_
  -- R50.1 164 := diskm.go:137 load
  refine WL.v (by exact r_load1 (v := .slice (some ⟨o.dat.b, o.dat.o, none⟩) o.dat.bs.length o.dat.c) ty_one29 rfl (by rw [← hadr]; exact st.c1 (by decide))) rfl rfl rfl ?_
  -- R50.2 165 := diskm.go:137 move
  refine WL.v (by first | exact r_move (v := .int _ _) rfl | exact r_move rfl) rfl rfl rfl ?_
  -- R50.3 166 := diskm.go:137 binOp
  refine WL.v (by exact r_mul (r := ((j * 512 : Nat) : Int)) rfl rfl ((wi64 (by omega) (by omega)).trans (by omega))) rfl rfl rfl ?_
  -- R50.4 167 := diskm.go:137 move
  refine WL.v (by first | exact r_move (v := .int _ _) rfl | exact r_move rfl) rfl rfl rfl ?_
  -- R50.5 168 := diskm.go:137 binOp
  refine WL.v (by exact r_add (r := ((j + 1 : Nat) : Int)) rfl rfl ((wi64 (by omega) (by omega)).trans (by omega))) rfl rfl rfl ?_
  -- R50.6 169 := diskm.go:137 binOp
  refine WL.v (by exact r_mul (r := (((j + 1) * 512 : Nat) : Int)) rfl rfl ((wi64 (by omega) (by omega)).trans (by omega))) rfl rfl rfl ?_
  -- R50.7 170 := diskm.go:137 slice
  refine WL.v (v := .slice (some ⟨o.dat.b, o.dat.o + j * 512, none⟩) 512 (o.dat.c - j * 512)) (by exact r_slE (l := j * 512) (h := (j + 1) * 512) ty_sl29 rfl ⟨_, rfl⟩ ⟨_, rfl⟩ (by omega) (by omega) (by omega)) rfl rfl rfl ?_
  -- R50.8 171 := diskm.go:137 call
  refine WL.append0 (m := 512) (news := fun k => .int .u8 (cutB o.dat.bs j k)) st ty_mk29 ty_zero5 rfl (by decide) rfl rfl (by decide) (fun k hk => by rw [Nat.add_assoc]; exact sv_old ho.datr st (j * 512 + k) (by omega)) (fun _ _ => rfl) (by decide) (by decide) rfl rfl rfl ?_
  intro b' cap' f' w st hc1 hc2 hf'
  have st := st_w2 st
  -- R50.9 11 := diskm.go:137 assign
  refine WL.v (by first | exact r_assign (v := .slice _ _ _) rfl | exact r_assign rfl) rfl rfl rfl ?_
  refine WL.fin hK1587 (fun _ _ h => h) ?_
  refine WC.seq fun K1588 hK1588 => ?_
  -- region 51 (draws)
  refine WC.mixLS [13, 14, 15] [(0, true), (1, true), (2, true), (3, true), (4, true), (5, true), (6, true), (7, true), (8, true), (9, false), (10, false), (11, false), (12, false), (13, false), (14, false), (15, false)] st (st_p4 st) ty_mixed (by kernel_rfl) fun w st => ?_
  -- R51.0 172 := diskm.go:138 move
  refine MLL.v (fun w st => by first | exact r_move (v := .pointer _) rfl | exact r_move rfl) rfl rfl rfl ?_
  -- R51.1 173 := diskm.go:138 move
  refine MLL.v (fun w st => by first | exact r_move (v := .pointer _) rfl | exact r_move rfl) rfl rfl rfl ?_
  -- R51.2 174 := diskm.go:138 nilCheck
  refine MLL.v (fun w st => by exact r_nilCheck rfl) rfl rfl rfl ?_
  -- R51.3 175 := diskm.go:138 fieldAddr
  refine MLL.v (fun w st => by exact r_field ty_fld48_3 rfl) rfl rfl rfl ?_
  -- R51.4 176 := diskm.go:138 load
  refine MLL.v (fun w st => by exact r_load1 ty_one46 rfl (by first | assumption | exact st.c0 (by first | decide | omega) | exact st.c1 (by first | decide | omega) | exact st.c2 (by first | decide | omega) | exact st.c3 (by first | decide | omega) | exact st.c4 (by first | decide | omega) | exact st.c5 (by first | decide | omega) | exact st.c6 (by first | decide | omega) | exact st.c7 (by first | decide | omega) | exact st.c8 (by first | decide | omega))) rfl rfl rfl ?_
  -- R51.5 177 := diskm.go:138 fieldAddr
  refine MLL.v (fun w st => by exact r_field ty_fld33_1 rfl) rfl rfl rfl ?_
  -- R51.6 178 := diskm.go:138 load
  refine MLL.v (val := .int .i64 (sn : Nat)) (fun w st => by exact r_load1 ty_one2 rfl ((st.c1 (by decide)).trans (show some (Value.int .i64 o.sct) = _ by rw [hsc]))) rfl rfl rfl ?_
  -- R51.7 179 := diskm.go:138 move
  refine MLL.v (fun w st => by first | exact r_move (v := .int _ _) rfl | exact r_move rfl) rfl rfl rfl ?_
  -- R51.8 180 := diskm.go:138 binOp
  refine MLL.v (fun w st => by exact r_add (r := ((sn + j : Nat) : Int)) rfl rfl ((wi64 (by omega) (by omega)).trans (by omega))) rfl rfl rfl ?_
  refine MLL.at ?_
  -- R51.9 181 := diskm.go:138 move
  refine WL.v (by first | exact r_move (v := .slice _ _ _) rfl | exact r_move rfl) rfl rfl rfl ?_
  refine MLL.nxt ((by first | exact st_p4 st | exact st_p4 st.drop)) ?_
  refine MLL.at ?_
  -- R51.10 182 := diskm.go:138 build
  refine WL.v (by exact r_build (ps := [(0, .int _ _), (1, .slice _ _ _)]) (vs := [_, _]) ty_pl63 ty_zero63 rfl (fill_step (pv := [_]) (cs' := [_, _]) rfl rfl rfl rfl (fill_step (pv := [_]) (cs' := [_, _]) rfl rfl rfl rfl (fill_nil)))) rfl rfl rfl ?_
  refine MLL.nxt ((by first | exact st_p4 st | exact st_p4 st.drop)) ?_
  refine MLL.at ?_
  -- R51.11 183 := diskm.go:138 buildSlice
  first | refine WL.mkslice (m := 2) (vs := [.int _ _, .slice _ _ _]) st ty_sl46 ty_zero63 rfl rfl rfl rfl rfl rfl ?_ | refine WL.mkslice (m := 2) (vs := [_, _]) st ty_sl46 ty_zero63 rfl rfl rfl rfl rfl rfl ?_ | refine WL.mkslice st ty_sl46 ty_zero63 rfl rfl rfl rfl rfl rfl ?_
  intro b183 w st
  refine MLL.nxt ((by first | exact st_p4 st | exact st_p4 st.drop)) ?_
  refine MLL.at ?_
  -- R51.12 184 := diskm.go:138 call
  have c0 : ∀ k, k < 2 → w.cell? ⟨b183, 0 + k, none⟩ = some (nth [.int .i64 ((sn + j : Nat) : Int), .slice (some ⟨b', 0, none⟩) 512 cap'] k) := fun k hk => by rw [Nat.zero_add]; exact st.c0 hk
  refine WL.appP (bx := b183) (ox := 0) hown (st_w3 st) ty_mk46 ty_sl46 ty_zero63 rfl (by decide) rfl rfl c0 (fun k hk => by match k, hk with | 0, _ => rfl | 1, _ => rfl) (by omega) (by omega) rfl rfl rfl ?_
  intro v3 X3 f3 w ho3 st hf1 hf2
  have st := st_w4 st
  obtain ⟨va3, vc3, vb3, vo3, rfl, _, _, _⟩ := ho3.form
  refine MLL.nxt ((by first | exact st_p4 st | exact st_p4 st.drop)) ?_
  refine MLL.at ?_
  -- R51.13 185 := diskm.go:138 nilCheck
  refine WL.v (by exact r_nilCheck rfl) rfl rfl rfl ?_
  refine MLL.nxt' rfl ?_
  refine MLL.at ?_
  -- R51.14 186 := diskm.go:138 fieldAddr
  refine WL.v (by exact r_field ty_fld48_3 rfl) rfl rfl rfl ?_
  refine MLL.nxt' rfl ?_
  refine MLL.at ?_
  -- R51.15 None := diskm.go:138 store
  refine WL.store (v := .slice va3 ((destP Pj).pend.length + 1) vc3) st.front2 ty_one46 rfl rfl rfl (by decide) rfl rfl ?_
  intro w st
  have st := (st_nrm (L' := [.int .i64 ((destP Pj).sec : Nat), .int .i64 ((destP Pj).lim : Nat), .map (some bm), .slice va3 ((destP Pj).pend.length + 1) vc3, .bool (destP Pj).down, .bool (destP Pj).armed, .int .i64 (destP Pj).fuse, .slice sv.a sv.bs.length sv.c, .int .i64 t, .int .i64 tb]) rfl st).back2
  refine MLL.nxt' rfl ?_
  refine MLL.wl ?_
  refine WL.fin hK1588 (fun _ _ h => h) ?_
  obtain ⟨P2, hP2⟩ : ∃ P2, P2 = pw Pj (sn + j) (cutB o.dat.bs j) := ⟨_, rfl⟩
  have hsee : Sees w0 ((b', Row 5 (cap' * 1) f') :: K) (.slice (some ⟨b', 0, none⟩) 512 cap') (bytesOf 512 (cutB o.dat.bs j)) :=
    Sees.cells (cutB_range ho.dat.byt j) hc1 hc2 fun l w' hl st k hk => by rw [Nat.zero_add, st.cell (hl List.mem_cons_self) (by omega), hf' k (by omega)]
  have hm3 : MI w0 P2 ⟨bm, NS, .slice va3 ((destP Pj).pend.length + 1) vc3, X3, f3, (b', Row 5 (cap' * 1) f') :: K, sv, t, tb⟩ := by
    rw [hP2]
    exact ⟨(hbk.more (fun x hx => List.mem_cons_of_mem _ hx)).push hsee hf1 (hf2 0 (by decide)) (hf2 1 (by decide)), by (show OwnP _ _ _ ((destP Pj).pend ++ [_]).length X3 f3; rw [List.length_append]; exact ho3), hso, hsl, hsr, harm⟩
  have hpw : PWf P2 := by rw [hP2]; exact pw_wf hpj (by omega) (cutB_range ho.dat.byt j)
  have hs2' : P2.sec = P.sec := by rw [hP2, pw_sec]; exact hsj
  have hA2 : P2.armed = Pj.armed := by rw [hP2]; exact destP_armed
  have hF2 : P2.fuse = Pj.fuse := by rw [hP2]; exact destP_fuse
  have hl2' : P2.pend.length = (destP Pj).pend.length + 1 := by rw [hP2]; show ((destP Pj).pend ++ [_]).length = _; rw [List.length_append]; rfl
  rw [← hA2, ← hF2] at hfj
  have st : S0 w0 ((b4, Row 37 2 (nth [.int .i64 0, .slice none 0 0])) :: opI b3 o :: mds bq P2 ⟨bm, NS, .slice va3 ((destP Pj).pend.length + 1) vc3, X3, f3, (b', Row 5 (cap' * 1) f') :: K, sv, t, tb⟩ l) w := by rw [hP2]; exact st
  rw [← hP2] at hwl
  clear hP2
  rcases hA : P2.armed with _ | _
  · rw [fuse_no hA, if_neg (fun h => Bool.noConfusion h), ← hm2] at hwl
    refine WC.seq fun K1589 hK1589 => ?_
    -- region 52
    refine WC.region ?_
    -- R52.0 187 := diskm.go:139 move
    refine WL.v (by first | exact r_move (v := .pointer _) rfl | exact r_move rfl) rfl rfl rfl ?_
    -- R52.1 188 := diskm.go:139 nilCheck
    refine WL.v (by exact r_nilCheck rfl) rfl rfl rfl ?_
    -- R52.2 189 := diskm.go:139 fieldAddr
    refine WL.v (by exact r_field ty_fld48_5 rfl) rfl rfl rfl ?_
    -- R52.3 190 := diskm.go:139 load
    refine WL.v (by exact r_load1 (v := .bool false) ty_one4 rfl (by rw [← hA]; exact st.c2 (by decide))) rfl rfl rfl ?_
    refine WL.fin hK1589 (fun _ _ h => h) ?_
    refine WC.condF rfl rfl ?_
    refine WC.skipF hK1583 (fun _ _ h => h) ?_
    -- region 46
    refine WC.region ?_
    -- R46.0 135 := diskm.go:132 move
    refine WL.v (by first | exact r_move (v := .int _ _) rfl | exact r_move rfl) rfl rfl rfl ?_
    -- R46.1 136 := diskm.go:132 binOp
    refine WL.v (by exact r_add (r := ((j + 1 : Nat) : Int)) rfl rfl ((wi64 (by omega) (by omega)).trans (by omega))) rfl rfl rfl ?_
    -- R46.2 10 := diskm.go:132 assign
    refine WL.v (by first | exact r_assign (v := .int _ _) rfl | exact r_assign rfl) rfl rfl rfl ?_
    refine WL.next hK1 (fun _ _ h => h) (j + 1, P2, ⟨bm, NS, .slice va3 ((destP Pj).pend.length + 1) vc3, X3, f3, (b', Row 5 (cap' * 1) f') :: K, sv, t, tb⟩) ⟨by show j + 1 ≤ n; omega, hwl, hpw, hs2', (fun h => by rw [hA] at h; cases h), hm3, st⟩ (by show n - (j + 1) < n - j; omega) (by repeat (first | exact sub_nil _ | refine sub_cons rfl rfl ?_))
  obtain ⟨hf1, hf2⟩ := hfj hA
  by_cases hF0 : P2.fuse - 1 = 0
  · rw [fuse_hit hA hF0, if_pos rfl] at hwl
    obtain ⟨a1, a2, a3⟩ := hm3.arm hA
    dsimp only at a1 a2 a3
    rw [← a1, ← a2, ← a3] at hwl
    refine WC.seq fun K1590 hK1590 => ?_
    -- region 52
    refine WC.region ?_
    -- R52.0 187 := diskm.go:139 move
    refine WL.v (by first | exact r_move (v := .pointer _) rfl | exact r_move rfl) rfl rfl rfl ?_
    -- R52.1 188 := diskm.go:139 nilCheck
    refine WL.v (by exact r_nilCheck rfl) rfl rfl rfl ?_
    -- R52.2 189 := diskm.go:139 fieldAddr
    refine WL.v (by exact r_field ty_fld48_5 rfl) rfl rfl rfl ?_
    -- R52.3 190 := diskm.go:139 load
    refine WL.v (by exact r_load1 (v := .bool true) ty_one4 rfl (by rw [← hA]; exact st.c2 (by decide))) rfl rfl rfl ?_
    refine WL.fin hK1590 (fun _ _ h => h) ?_
    refine WC.condT rfl rfl ?_
    refine WC.seq fun K1591 hK1591 => ?_
    -- region 53
    refine WC.region ?_
    -- R53.0 191 := diskm.go:140 move
    refine WL.v (by first | exact r_move (v := .pointer _) rfl | exact r_move rfl) rfl rfl rfl ?_
    -- R53.1 192 := diskm.go:140 nilCheck
    refine WL.v (by exact r_nilCheck rfl) rfl rfl rfl ?_
    -- R53.2 193 := diskm.go:140 fieldAddr
    refine WL.v (by exact r_field ty_fld48_6 rfl) rfl rfl rfl ?_
    -- R53.3 194 := diskm.go:140 load
    refine WL.v (by exact r_load1 ty_one2 rfl (by first | assumption | exact st.c0 (by first | decide | omega) | exact st.c1 (by first | decide | omega) | exact st.c2 (by first | decide | omega) | exact st.c3 (by first | decide | omega) | exact st.c4 (by first | decide | omega) | exact st.c5 (by first | decide | omega) | exact st.c6 (by first | decide | omega) | exact st.c7 (by first | decide | omega) | exact st.c8 (by first | decide | omega))) rfl rfl rfl ?_
    -- R53.4 195 := diskm.go:140 binOp
    refine WL.v (by exact r_sub (r := P2.fuse - 1) rfl rfl (wi64 (by omega) (by omega))) rfl rfl rfl ?_
    -- R53.5 196 := diskm.go:140 nilCheck
    refine WL.v (by exact r_nilCheck rfl) rfl rfl rfl ?_
    -- R53.6 197 := diskm.go:140 fieldAddr
    refine WL.v (by exact r_field ty_fld48_6 rfl) rfl rfl rfl ?_
    -- R53.7 None := diskm.go:140 store
    refine WL.store (v := .int .i64 (P2.fuse - 1)) st.front2 ty_one2 rfl rfl rfl (by decide) rfl rfl ?_
    intro w st
    have st := (st_nrm (L' := [.int .i64 (P2.sec : Nat), .int .i64 (P2.lim : Nat), .map (some bm), .slice va3 ((destP Pj).pend.length + 1) vc3, .bool P2.down, .bool P2.armed, .int .i64 (P2.fuse - 1), .slice sv.a sv.bs.length sv.c, .int .i64 t, .int .i64 tb]) rfl st).back2
    refine WL.fin hK1591 (fun _ _ h => h) ?_
    refine WC.seq fun K1592 hK1592 => ?_
    -- region 54
    refine WC.region ?_
    -- R54.0 198 := diskm.go:141 move
    refine WL.v (by first | exact r_move (v := .pointer _) rfl | exact r_move rfl) rfl rfl rfl ?_
    -- R54.1 199 := diskm.go:141 nilCheck
    refine WL.v (by exact r_nilCheck rfl) rfl rfl rfl ?_
    -- R54.2 200 := diskm.go:141 fieldAddr
    refine WL.v (by exact r_field ty_fld48_6 rfl) rfl rfl rfl ?_
    -- R54.3 201 := diskm.go:141 load
    refine WL.v (by exact r_load1 ty_one2 rfl (by first | assumption | exact st.c0 (by first | decide | omega) | exact st.c1 (by first | decide | omega) | exact st.c2 (by first | decide | omega) | exact st.c3 (by first | decide | omega) | exact st.c4 (by first | decide | omega) | exact st.c5 (by first | decide | omega) | exact st.c6 (by first | decide | omega) | exact st.c7 (by first | decide | omega) | exact st.c8 (by first | decide | omega))) rfl rfl rfl ?_
    -- R54.4 202 := diskm.go:141 binOp
    refine WL.v (by exact r_eql rfl rfl (decide_eq_true (by omega))) rfl rfl rfl ?_
    refine WL.fin hK1592 (fun _ _ h => h) ?_
    refine WC.condT rfl rfl ?_
    refine WC.seq fun K1593 hK1593 => ?_
    -- region 55
    refine WC.region ?_
    -- R55.0 203 := diskm.go:142 move
    refine WL.v (by first | exact r_move (v := .pointer _) rfl | exact r_move rfl) rfl rfl rfl ?_
    -- R55.1 204 := diskm.go:142 move
    refine WL.v (by first | exact r_move (v := .pointer _) rfl | exact r_move rfl) rfl rfl rfl ?_
    -- R55.2 205 := diskm.go:142 nilCheck
    refine WL.v (by exact r_nilCheck rfl) rfl rfl rfl ?_
    -- R55.3 206 := diskm.go:142 fieldAddr
    refine WL.v (by exact r_field ty_fld48_7 rfl) rfl rfl rfl ?_
    -- R55.4 207 := diskm.go:142 load
    refine WL.v (by exact r_loadL (vs := [_, _, _]) ty_agg31 rfl ⟨(by first | assumption | exact st.c0 (by first | decide | omega) | exact st.c1 (by first | decide | omega) | exact st.c2 (by first | decide | omega) | exact st.c3 (by first | decide | omega) | exact st.c4 (by first | decide | omega) | exact st.c5 (by first | decide | omega) | exact st.c6 (by first | decide | omega) | exact st.c7 (by first | decide | omega) | exact st.c8 (by first | decide | omega)), (by first | assumption | exact st.c0 (by first | decide | omega) | exact st.c1 (by first | decide | omega) | exact st.c2 (by first | decide | omega) | exact st.c3 (by first | decide | omega) | exact st.c4 (by first | decide | omega) | exact st.c5 (by first | decide | omega) | exact st.c6 (by first | decide | omega) | exact st.c7 (by first | decide | omega) | exact st.c8 (by first | decide | omega)), (by first | assumption | exact st.c0 (by first | decide | omega) | exact st.c1 (by first | decide | omega) | exact st.c2 (by first | decide | omega) | exact st.c3 (by first | decide | omega) | exact st.c4 (by first | decide | omega) | exact st.c5 (by first | decide | omega) | exact st.c6 (by first | decide | omega) | exact st.c7 (by first | decide | omega) | exact st.c8 (by first | decide | omega)), trivial⟩) rfl rfl rfl ?_
    -- R55.5 208 := diskm.go:142 call
    refine WL.call (r_call ty_call46 rfl) rfl rfl rfl (crashMM_ok (P := { P2 with fuse := P2.fuse - 1 }) (XW := X3) sv t tb hm3.bk hm3.own (hpw.same ⟨rfl, rfl, rfl, rfl⟩) hso hsl hsr (fun x hx => List.mem_cons_of_mem _ (List.mem_cons_of_mem _ (List.mem_append_right _ (List.mem_append_left _ hx)))) (fun x hx => List.mem_cons_of_mem _ (List.mem_cons_of_mem _ (List.mem_append_left _ hx))) (st.perm (List.perm_append_comm_assoc [_, _] [_, _] _))) ?_
    rintro _ w ⟨NS', KN, rfl, hbk', st⟩
    have st := st_co st
    refine WL.fin hK1593 (fun _ _ h => h) ?_
    refine WC.seq fun K1594 hK1594 => ?_
    -- region 56
    refine WC.region ?_
    -- R56.0 209 := diskm.go:143 build
    refine WL.v (by exact r_build (ps := [(0, .int _ _)]) (vs := [_, _]) ty_pl37 ty_zero37 rfl (fill_step (pv := [_]) (cs' := [_, _]) rfl rfl rfl rfl (fill_nil))) rfl rfl rfl ?_
    -- R56.1 None := diskm.go:143 store
    first | refine WL.storeW (vs := [_, _]) st ty_agg37 rfl rfl rfl rfl rfl rfl ?_ | refine WL.storeL (vs := [_, _]) st ty_agg37 rfl rfl rfl rfl (by first | decide | omega) rfl rfl ?_ | refine WL.storeW (vs := [_, _]) st.front1 ty_agg37 rfl rfl rfl rfl rfl rfl ?_ | refine WL.storeL (vs := [_, _]) st.front1 ty_agg37 rfl rfl rfl rfl (by first | decide | omega) rfl rfl ?_ | refine WL.storeW (vs := [_, _]) st.front2 ty_agg37 rfl rfl rfl rfl rfl rfl ?_ | refine WL.storeL (vs := [_, _]) st.front2 ty_agg37 rfl rfl rfl rfl (by first | decide | omega) rfl rfl ?_ | refine WL.storeW (vs := [_, _]) st.front3 ty_agg37 rfl rfl rfl rfl rfl rfl ?_ | refine WL.storeL (vs := [_, _]) st.front3 ty_agg37 rfl rfl rfl rfl (by first | decide | omega) rfl rfl ?_ | refine WL.storeW (vs := [_, _]) st.front4 ty_agg37 rfl rfl rfl rfl rfl rfl ?_ | refine WL.storeL (vs := [_, _]) st.front4 ty_agg37 rfl rfl rfl rfl (by first | decide | omega) rfl rfl ?_ | refine WL.storeW (vs := [_, _]) st.front5 ty_agg37 rfl rfl rfl rfl rfl rfl ?_ | refine WL.storeL (vs := [_, _]) st.front5 ty_agg37 rfl rfl rfl rfl (by first | decide | omega) rfl rfl ?_ | refine WL.storeW (vs := [_, _]) st.front6 ty_agg37 rfl rfl rfl rfl rfl rfl ?_ | refine WL.storeL (vs := [_, _]) st.front6 ty_agg37 rfl rfl rfl rfl (by first | decide | omega) rfl rfl ?_ | refine WL.storeW (vs := [_, _]) st.front7 ty_agg37 rfl rfl rfl rfl rfl rfl ?_ | refine WL.storeL (vs := [_, _]) st.front7 ty_agg37 rfl rfl rfl rfl (by first | decide | omega) rfl rfl ?_ | refine WL.storeW (vs := [_, _]) st.front8 ty_agg37 rfl rfl rfl rfl rfl rfl ?_ | refine WL.storeL (vs := [_, _]) st.front8 ty_agg37 rfl rfl rfl rfl (by first | decide | omega) rfl rfl ?_
    intro w st
    refine WL.fin hK1594 (fun _ _ h => h) ?_
    refine WC.retC (vs := [_, _]) Tryd.results15 (fun _ _ h => h) rfl ty_agg37 rfl ⟨(by first | assumption | exact st.c0 (by first | decide | omega) | exact st.c1 (by first | decide | omega) | exact st.c2 (by first | decide | omega) | exact st.c3 (by first | decide | omega) | exact st.c4 (by first | decide | omega) | exact st.c5 (by first | decide | omega) | exact st.c6 (by first | decide | omega) | exact st.c7 (by first | decide | omega) | exact st.c8 (by first | decide | omega)), (by first | assumption | exact st.c0 (by first | decide | omega) | exact st.c1 (by first | decide | omega) | exact st.c2 (by first | decide | omega) | exact st.c3 (by first | decide | omega) | exact st.c4 (by first | decide | omega) | exact st.c5 (by first | decide | omega) | exact st.c6 (by first | decide | omega) | exact st.c7 (by first | decide | omega) | exact st.c8 (by first | decide | omega)), trivial⟩ ?_
    exact ⟨_, rfl, MPost.none hwl (.inr (by decide)) (.inr (by decide)) (z' := ⟨bm, NS', .slice none 0 0, [], f3, KN ++ ((b', Row 5 (cap' * 1) f') :: K), sv, t, tb⟩) ⟨hbk', OwnP.nil _ _ _, hso, hsl, hsr, (fun h => by cases h)⟩ rfl (st_cr st)⟩
  · rw [fuse_dec hA hF0, if_neg (fun h => Bool.noConfusion h), ← hm2] at hwl
    refine WC.seq fun K1595 hK1595 => ?_
    -- region 52
    refine WC.region ?_
    -- R52.0 187 := diskm.go:139 move
    refine WL.v (by first | exact r_move (v := .pointer _) rfl | exact r_move rfl) rfl rfl rfl ?_
    -- R52.1 188 := diskm.go:139 nilCheck
    refine WL.v (by exact r_nilCheck rfl) rfl rfl rfl ?_
    -- R52.2 189 := diskm.go:139 fieldAddr
    refine WL.v (by exact r_field ty_fld48_5 rfl) rfl rfl rfl ?_
    -- R52.3 190 := diskm.go:139 load
    refine WL.v (by exact r_load1 (v := .bool true) ty_one4 rfl (by rw [← hA]; exact st.c2 (by decide))) rfl rfl rfl ?_
    refine WL.fin hK1595 (fun _ _ h => h) ?_
    refine WC.condT rfl rfl ?_
    refine WC.seq fun K1596 hK1596 => ?_
    -- region 53
    refine WC.region ?_
    -- R53.0 191 := diskm.go:140 move
    refine WL.v (by first | exact r_move (v := .pointer _) rfl | exact r_move rfl) rfl rfl rfl ?_
    -- R53.1 192 := diskm.go:140 nilCheck
    refine WL.v (by exact r_nilCheck rfl) rfl rfl rfl ?_
    -- R53.2 193 := diskm.go:140 fieldAddr
    refine WL.v (by exact r_field ty_fld48_6 rfl) rfl rfl rfl ?_
    -- R53.3 194 := diskm.go:140 load
    refine WL.v (by exact r_load1 ty_one2 rfl (by first | assumption | exact st.c0 (by first | decide | omega) | exact st.c1 (by first | decide | omega) | exact st.c2 (by first | decide | omega) | exact st.c3 (by first | decide | omega) | exact st.c4 (by first | decide | omega) | exact st.c5 (by first | decide | omega) | exact st.c6 (by first | decide | omega) | exact st.c7 (by first | decide | omega) | exact st.c8 (by first | decide | omega))) rfl rfl rfl ?_
    -- R53.4 195 := diskm.go:140 binOp
    refine WL.v (by exact r_sub (r := P2.fuse - 1) rfl rfl (wi64 (by omega) (by omega))) rfl rfl rfl ?_
    -- R53.5 196 := diskm.go:140 nilCheck
    refine WL.v (by exact r_nilCheck rfl) rfl rfl rfl ?_
    -- R53.6 197 := diskm.go:140 fieldAddr
    refine WL.v (by exact r_field ty_fld48_6 rfl) rfl rfl rfl ?_
    -- R53.7 None := diskm.go:140 store
    refine WL.store (v := .int .i64 (P2.fuse - 1)) st.front2 ty_one2 rfl rfl rfl (by decide) rfl rfl ?_
    intro w st
    have st := (st_nrm (L' := [.int .i64 (P2.sec : Nat), .int .i64 (P2.lim : Nat), .map (some bm), .slice va3 ((destP Pj).pend.length + 1) vc3, .bool P2.down, .bool P2.armed, .int .i64 (P2.fuse - 1), .slice sv.a sv.bs.length sv.c, .int .i64 t, .int .i64 tb]) rfl st).back2
    refine WL.fin hK1596 (fun _ _ h => h) ?_
    refine WC.seq fun K1597 hK1597 => ?_
    -- region 54
    refine WC.region ?_
    -- R54.0 198 := diskm.go:141 move
    refine WL.v (by first | exact r_move (v := .pointer _) rfl | exact r_move rfl) rfl rfl rfl ?_
    -- R54.1 199 := diskm.go:141 nilCheck
    refine WL.v (by exact r_nilCheck rfl) rfl rfl rfl ?_
    -- R54.2 200 := diskm.go:141 fieldAddr
    refine WL.v (by exact r_field ty_fld48_6 rfl) rfl rfl rfl ?_
    -- R54.3 201 := diskm.go:141 load
    refine WL.v (by exact r_load1 ty_one2 rfl (by first | assumption | exact st.c0 (by first | decide | omega) | exact st.c1 (by first | decide | omega) | exact st.c2 (by first | decide | omega) | exact st.c3 (by first | decide | omega) | exact st.c4 (by first | decide | omega) | exact st.c5 (by first | decide | omega) | exact st.c6 (by first | decide | omega) | exact st.c7 (by first | decide | omega) | exact st.c8 (by first | decide | omega))) rfl rfl rfl ?_
    -- R54.4 202 := diskm.go:141 binOp
    refine WL.v (by exact r_eql rfl rfl (decide_eq_false (by omega))) rfl rfl rfl ?_
    refine WL.fin hK1597 (fun _ _ h => h) ?_
    refine WC.condF rfl rfl ?_
    refine WC.skipF hK1583 (fun _ _ h => h) ?_
    -- region 46
    refine WC.region ?_
    -- R46.0 135 := diskm.go:132 move
    refine WL.v (by first | exact r_move (v := .int _ _) rfl | exact r_move rfl) rfl rfl rfl ?_
    -- R46.1 136 := diskm.go:132 binOp
    refine WL.v (by exact r_add (r := ((j + 1 : Nat) : Int)) rfl rfl ((wi64 (by omega) (by omega)).trans (by omega))) rfl rfl rfl ?_
    -- R46.2 10 := diskm.go:132 assign
    refine WL.v (by first | exact r_assign (v := .int _ _) rfl | exact r_assign rfl) rfl rfl rfl ?_
    refine WL.next hK1 (fun _ _ h => h) (j + 1, { P2 with fuse := P2.fuse - 1 }, ⟨bm, NS, .slice va3 ((destP Pj).pend.length + 1) vc3, X3, f3, (b', Row 5 (cap' * 1) f') :: K, sv, t, tb⟩) ⟨by show j + 1 ≤ n; omega, hwl, hpw.same ⟨rfl, rfl, rfl, rfl⟩, hs2', (fun h => by show -1000000001000 - ((j + 1 : Nat) : Int) ≤ P2.fuse - 1 ∧ P2.fuse - 1 ≤ 9223372036854775807; omega), hm3.plain ⟨rfl, rfl, rfl, rfl⟩ (fun h => ⟨h, rfl, rfl, rfl⟩), st⟩ (by show n - (j + 1) < n - j; omega) (by repeat (first | exact sub_nil _ | refine sub_cons rfl rfl ?_))
end Go.Proofs.Qxb6500837aDoor

