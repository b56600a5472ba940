import Derived.Test.Qxb6500837aDoorD36
set_option linter.unusedVariables false
set_option linter.unusedSimpArgs false
set_option maxRecDepth 20000
namespace Go.Proofs.Qxb6500837aDoor
open Go.RowKit Go.E1 Go.Disk
variable {w0 : World} {L L' l I J K K' : List HI} {w : World} {D : DK} {m : Int} {P : PD} {q : Obj → Prop} {NS : Int → Option Value} {f : Nat → Value}
variable {bq bm : Nat} {wv kv : Value} {t tb : Int} {pc : Nat → Nat → Int} {pend : List (Nat × (Nat → Int))}


theorem MI.fresh0 {sec lim bm' : Nat} {K : List HI} : MI w0 (newP sec lim) ⟨bm', fun _ => Option.none, .slice .none 0 0, [], fun _ => undef, K, SV.nil, 0, 0⟩ :=
  ⟨Bk.zero, OwnP.nil _ _ _, SV.nil_ok, Nat.zero_le _, SV.nil_rd _, (fun h => by cases h)⟩

set_option maxHeartbeats 8000000 in
theorem stepM_fmt {o : OP} {z : MZ} (h : MI w0 P z) (hk : o.kind = 0) (st : S0 w0 (mds bq P z l) w) :
    Calls Tryd.prog 15 #[.pointer (some ⟨bq, 0, none⟩), o.v] w (Ret (MPost w0 bq l P o)) := by
  unfold OP.v
  obtain ⟨s, hs⟩ : ∃ s, s = orD o.cnt 4096 := ⟨_, rfl⟩
  obtain ⟨c, hc⟩ : ∃ c, c = orD o.cache 8192 := ⟨_, rfl⟩
  have ef : fmtP o.cnt o.cache = if s < 0 ∨ 65536 < s then none else if c < 0 ∨ 65536 < c then none else some (newP s.toNat c.toNat) := by unfold fmtP; rw [hs, hc]
  refine enter [.pointer (some ⟨bq, 0, none⟩), .agg #[.int .i64 o.kind, .int .i64 o.sct, .int .i64 o.cnt, .int .i64 o.cache, .slice o.dat.a o.dat.bs.length o.dat.c, .int .i64 o.after, .slice o.kp.a o.kp.bs.length o.kp.c, .int .i64 o.tear, .int .i64 o.tb]] Tryd.func15 rfl Tryd.ntmps15 rfl ?_
  show WC _ _ _ 292 [] [(0, .pointer (some ⟨bq, 0, none⟩)), (1, .agg #[.int .i64 o.kind, .int .i64 o.sct, .int .i64 o.cnt, .int .i64 o.cache, .slice o.dat.a o.dat.bs.length o.dat.c, .int .i64 o.after, .slice o.kp.a o.kp.bs.length o.kp.c, .int .i64 o.tear, .int .i64 o.tb])] _
  refine WC.seq fun K1363 hK1363 => ?_
  -- region 0
  refine WC.region ?_
  -- R0.0 3 := diskm.go:83 box
  first | refine WL.box (m := 9) (vs := [.int _ _, .int _ _, .int _ _, .int _ _, .slice _ _ _, .int _ _, .slice _ _ _, .int _ _, .int _ _]) st rfl rfl rfl rfl rfl rfl ?_ | refine WL.box (m := 9) (vs := [_, _, _, _, _, _, _, _, _]) st rfl rfl rfl rfl rfl rfl ?_ | refine WL.box st rfl rfl rfl rfl rfl rfl ?_
  intro b3 w st
  -- R0.1 4 := diskm.go:83 alloc
  refine WL.alloc (m := 2) st ty_zero37 rfl rfl rfl ?_
  intro b4 w st
  refine WL.fin hK1363 (fun _ _ h => h) ?_
  refine WC.seq fun K1364 hK1364 => ?_
  refine WC.seq fun K1365 hK1365 => ?_
  -- region 1
  refine WC.region ?_
  -- R1.0 16 := diskm.go:84 fieldAddr
  refine WL.v (by exact r_field ty_fld33_0 rfl) rfl rfl rfl ?_
  -- R1.1 17 := diskm.go:84 load
  refine WL.v (by exact r_load1 ty_one28 rfl (by first | assumption | exact st.c0 (by first | decide | omega) | exact st.c1 (by first | decide | omega) | exact st.c2 (by first | decide | omega) | exact st.c3 (by first | decide | omega) | exact st.c4 (by first | decide | omega) | exact st.c5 (by first | decide | omega) | exact st.c6 (by first | decide | omega) | exact st.c7 (by first | decide | omega) | exact st.c8 (by first | decide | omega))) rfl rfl rfl ?_
  refine WL.fin hK1365 (fun _ _ h => h) ?_
  refine WC.block ?_
  refine WC.seq fun K1366 hK1366 => ?_
  -- region 3
  refine WC.region ?_
  -- R3.0 20 := diskm.go:85 binOp
  refine WL.v (by first | exact r_eql rfl rfl (decide_eq_true (by omega)) | exact r_eql rfl rfl (decide_eq_false (by omega)) | exact r_eql rfl rfl rfl) rfl rfl rfl ?_
  -- R3.1 19 := diskm.go:85 assign
  refine WL.v (by first | exact r_assign (v := .bool _) rfl | exact r_assign rfl) rfl rfl rfl ?_
  refine WL.fin hK1366 (fun _ _ h => h) ?_
  refine WC.condT rfl rfl ?_
  refine WC.seq fun K1367 hK1367 => ?_
  -- region 4 (draws)
  refine WC.quietS st ty_mixed (by kernel_rfl) fun Kq hKq => ?_
  -- R4.0 21 := diskm.go:86 fieldAddr
  refine QL.v (fun w st => by exact r_field ty_fld33_2 rfl) rfl rfl rfl ?_
  -- R4.1 22 := diskm.go:86 load
  refine QL.v (fun w st => by exact r_load1 ty_one2 rfl (by first | assumption | exact st.c0 (by first | decide | omega) | exact st.c1 (by first | decide | omega) | exact st.c2 (by first | decide | omega) | exact st.c3 (by first | decide | omega) | exact st.c4 (by first | decide | omega) | exact st.c5 (by first | decide | omega) | exact st.c6 (by first | decide | omega) | exact st.c7 (by first | decide | omega) | exact st.c8 (by first | decide | omega))) rfl rfl rfl ?_
  -- R4.2 23 := diskm.go:86 fieldAddr
  refine QL.v (fun w st => by exact r_field ty_fld33_3 rfl) rfl rfl rfl ?_
  -- R4.3 24 := diskm.go:86 load
  refine QL.v (fun w st => by exact r_load1 ty_one2 rfl (by first | assumption | exact st.c0 (by first | decide | omega) | exact st.c1 (by first | decide | omega) | exact st.c2 (by first | decide | omega) | exact st.c3 (by first | decide | omega) | exact st.c4 (by first | decide | omega) | exact st.c5 (by first | decide | omega) | exact st.c6 (by first | decide | omega) | exact st.c7 (by first | decide | omega) | exact st.c8 (by first | decide | omega))) rfl rfl rfl ?_
  -- R4.4 5 := diskm.go:86 assign
  refine QL.v (fun w st => by first | exact r_assign (v := .int _ _) rfl | exact r_assign rfl) rfl rfl rfl ?_
  -- R4.5 6 := diskm.go:86 assign
  refine QL.v (fun w st => by first | exact r_assign (v := .int _ _) rfl | exact r_assign rfl) rfl rfl rfl ?_
  refine QL.wl hKq fun w st => ?_
  refine WL.fin hK1367 (fun _ _ h => h) ?_
  refine WC.cut (ι := Unit) (fun _ => [(0, .pointer (some ⟨bq, 0, none⟩)), (4, .pointer (some ⟨b4, 0, none⟩)), (5, .int .i64 s), (6, .int .i64 o.cache)]) (fun _ w' => S0 w0 ((b4, Row 37 2 (nth [.int .i64 0, .slice none 0 0])) :: opI b3 o :: mds bq P z l) w') ?_ ?_
  rotate_left
  · intro KC hKC
    by_cases h0 : o.cnt = 0
    · have hs' : s = 4096 := by rw [hs]; unfold orD; rw [if_pos h0]; rfl
      rw [hs'] at hKC
      refine WC.seq fun K1368 hK1368 => ?_
      -- region 5
      refine WC.region ?_
      -- R5.0 25 := diskm.go:87 move
      refine WL.v (by first | exact r_move (v := .int _ _) rfl | exact r_move rfl) rfl rfl rfl ?_
      -- R5.1 26 := diskm.go:87 binOp
      refine WL.v (by first | exact r_eql rfl rfl (decide_eq_true (by omega)) | exact r_eql rfl rfl (decide_eq_false (by omega)) | exact r_eql rfl rfl rfl) rfl rfl rfl ?_
      refine WL.fin hK1368 (fun _ _ h => h) ?_
      refine WC.condT rfl rfl ?_
      -- region 6
      refine WC.region ?_
      -- R6.0 5 := diskm.go:88 assign
      refine WL.v (by first | exact r_assign (v := .int _ _) rfl | exact r_assign rfl) rfl rfl rfl ?_
      refine WL.join hKC (fun _ _ h => h) () st (by repeat (first | exact sub_nil _ | refine sub_cons rfl rfl ?_))
    · have hs' : s = o.cnt := by rw [hs]; unfold orD; rw [if_neg h0]
      rw [hs'] at hKC
      refine WC.seq fun K1369 hK1369 => ?_
      -- region 5
      refine WC.region ?_
      -- R5.0 25 := diskm.go:87 move
      refine WL.v (by first | exact r_move (v := .int _ _) rfl | exact r_move rfl) rfl rfl rfl ?_
      -- R5.1 26 := diskm.go:87 binOp
      refine WL.v (by first | exact r_eql rfl rfl (decide_eq_true (by omega)) | exact r_eql rfl rfl (decide_eq_false (by omega)) | exact r_eql rfl rfl rfl) rfl rfl rfl ?_
      refine WL.fin hK1369 (fun _ _ h => h) ?_
      refine WC.condF rfl rfl ?_
      refine WC.skipJ hKC (fun _ _ h => h) () st (by repeat (first | exact sub_nil _ | refine sub_cons rfl rfl ?_))
  rintro _ w st
  refine WC.cut (ι := Unit) (fun _ => [(0, .pointer (some ⟨bq, 0, none⟩)), (4, .pointer (some ⟨b4, 0, none⟩)), (5, .int .i64 s), (6, .int .i64 c)]) (fun _ w' => S0 w0 ((b4, Row 37 2 (nth [.int .i64 0, .slice none 0 0])) :: opI b3 o :: mds bq P z l) w') ?_ ?_
  rotate_left
  · intro KC hKC
    by_cases h0 : o.cache = 0
    · have hc' : c = 8192 := by rw [hc]; unfold orD; rw [if_pos h0]; rfl
      rw [hc'] at hKC
      refine WC.seq fun K1370 hK1370 => ?_
      -- region 7
      refine WC.region ?_
      -- R7.0 27 := diskm.go:90 move
      refine WL.v (by first | exact r_move (v := .int _ _) rfl | exact r_move rfl) rfl rfl rfl ?_
      -- R7.1 28 := diskm.go:90 binOp
      refine WL.v (by first | exact r_eql rfl rfl (decide_eq_true (by omega)) | exact r_eql rfl rfl (decide_eq_false (by omega)) | exact r_eql rfl rfl rfl) rfl rfl rfl ?_
      refine WL.fin hK1370 (fun _ _ h => h) ?_
      refine WC.condT rfl rfl ?_
      -- region 8
      refine WC.region ?_
      -- R8.0 6 := diskm.go:91 assign
      refine WL.v (by first | exact r_assign (v := .int _ _) rfl | exact r_assign rfl) rfl rfl rfl ?_
      refine WL.join hKC (fun _ _ h => h) () st (by repeat (first | exact sub_nil _ | refine sub_cons rfl rfl ?_))
    · have hc' : c = o.cache := by rw [hc]; unfold orD; rw [if_neg h0]
      rw [hc'] at hKC
      refine WC.seq fun K1371 hK1371 => ?_
      -- region 7
      refine WC.region ?_
      -- R7.0 27 := diskm.go:90 move
      refine WL.v (by first | exact r_move (v := .int _ _) rfl | exact r_move rfl) rfl rfl rfl ?_
      -- R7.1 28 := diskm.go:90 binOp
      refine WL.v (by first | exact r_eql rfl rfl (decide_eq_true (by omega)) | exact r_eql rfl rfl (decide_eq_false (by omega)) | exact r_eql rfl rfl rfl) rfl rfl rfl ?_
      refine WL.fin hK1371 (fun _ _ h => h) ?_
      refine WC.condF rfl rfl ?_
      refine WC.skipJ hKC (fun _ _ h => h) () st (by repeat (first | exact sub_nil _ | refine sub_cons rfl rfl ?_))
  rintro _ w st
  by_cases h1 : s < 0
  · skip
    have e : stepP P o = (P, 1) := by unfold stepP; rw [if_pos hk]; unfold fmtS; rw [ef]; simp [h1]
    refine WC.seq fun K1372 hK1372 => ?_
    refine WC.seq fun K1373 hK1373 => ?_
    -- region 9
    refine WC.region ?_
    -- R9.0 29 := diskm.go:93 move
    refine WL.v (by first | exact r_move (v := .int _ _) rfl | exact r_move rfl) rfl rfl rfl ?_
    -- R9.1 30 := diskm.go:93 binOp
    refine WL.v (by first | exact r_lss rfl rfl (decide_eq_true (by omega)) | exact r_lss rfl rfl (decide_eq_false (by omega)) | exact r_lss rfl rfl rfl) rfl rfl rfl ?_
    -- R9.2 31 := diskm.go:93 move
    refine WL.v (by first | exact r_move (v := .bool _) rfl | exact r_move rfl) rfl rfl rfl ?_
    -- R9.3 32 := diskm.go:93 move
    refine WL.no rfl rfl ?_
    -- R9.4 33 := diskm.go:93 binOp
    refine WL.no rfl rfl ?_
    -- R9.5 34 := diskm.go:93 pick
    refine WL.v (by first | exact r_pickT (v := .bool _) rfl rfl | exact r_pickF (v := .bool _) rfl rfl) rfl rfl rfl ?_
    -- R9.6 35 := diskm.go:93 move
    refine WL.v (by first | exact r_move (v := .bool _) rfl | exact r_move rfl) rfl rfl rfl ?_
    -- R9.7 36 := diskm.go:93 move
    refine WL.no rfl rfl ?_
    -- R9.8 37 := diskm.go:93 binOp
    refine WL.no rfl rfl ?_
    -- R9.9 38 := diskm.go:93 pick
    refine WL.v (by first | exact r_pickT (v := .bool _) rfl rfl | exact r_pickF (v := .bool _) rfl rfl) rfl rfl rfl ?_
    -- R9.10 39 := diskm.go:93 move
    refine WL.v (by first | exact r_move (v := .bool _) rfl | exact r_move rfl) rfl rfl rfl ?_
    -- R9.11 40 := diskm.go:93 move
    refine WL.no rfl rfl ?_
    -- R9.12 41 := diskm.go:93 binOp
    refine WL.no rfl rfl ?_
    -- R9.13 42 := diskm.go:93 pick
    refine WL.v (by first | exact r_pickT (v := .bool _) rfl rfl | exact r_pickF (v := .bool _) rfl rfl) rfl rfl rfl ?_
    refine WL.fin hK1373 (fun _ _ h => h) ?_
    refine WC.condT rfl rfl ?_
    refine WC.seq fun K1374 hK1374 => ?_
    -- region 10
    refine WC.region ?_
    -- R10.0 43 := diskm.go:94 build
    refine WL.v (by exact r_build (ps := [(0, .int _ _)]) (vs := [_, _]) ty_pl37 ty_zero37 rfl (fill_step (pv := [_]) (cs' := [_, _]) rfl rfl rfl rfl (fill_nil))) rfl rfl rfl ?_
    -- R10.1 None := diskm.go:94 store
    first | refine WL.storeW (vs := [_, _]) st ty_agg37 rfl rfl rfl rfl rfl rfl ?_ | refine WL.storeL (vs := [_, _]) st ty_agg37 rfl rfl rfl rfl (by first | decide | omega) rfl rfl ?_ | refine WL.storeW (vs := [_, _]) st.front1 ty_agg37 rfl rfl rfl rfl rfl rfl ?_ | refine WL.storeL (vs := [_, _]) st.front1 ty_agg37 rfl rfl rfl rfl (by first | decide | omega) rfl rfl ?_ | refine WL.storeW (vs := [_, _]) st.front2 ty_agg37 rfl rfl rfl rfl rfl rfl ?_ | refine WL.storeL (vs := [_, _]) st.front2 ty_agg37 rfl rfl rfl rfl (by first | decide | omega) rfl rfl ?_ | refine WL.storeW (vs := [_, _]) st.front3 ty_agg37 rfl rfl rfl rfl rfl rfl ?_ | refine WL.storeL (vs := [_, _]) st.front3 ty_agg37 rfl rfl rfl rfl (by first | decide | omega) rfl rfl ?_ | refine WL.storeW (vs := [_, _]) st.front4 ty_agg37 rfl rfl rfl rfl rfl rfl ?_ | refine WL.storeL (vs := [_, _]) st.front4 ty_agg37 rfl rfl rfl rfl (by first | decide | omega) rfl rfl ?_ | refine WL.storeW (vs := [_, _]) st.front5 ty_agg37 rfl rfl rfl rfl rfl rfl ?_ | refine WL.storeL (vs := [_, _]) st.front5 ty_agg37 rfl rfl rfl rfl (by first | decide | omega) rfl rfl ?_ | refine WL.storeW (vs := [_, _]) st.front6 ty_agg37 rfl rfl rfl rfl rfl rfl ?_ | refine WL.storeL (vs := [_, _]) st.front6 ty_agg37 rfl rfl rfl rfl (by first | decide | omega) rfl rfl ?_ | refine WL.storeW (vs := [_, _]) st.front7 ty_agg37 rfl rfl rfl rfl rfl rfl ?_ | refine WL.storeL (vs := [_, _]) st.front7 ty_agg37 rfl rfl rfl rfl (by first | decide | omega) rfl rfl ?_ | refine WL.storeW (vs := [_, _]) st.front8 ty_agg37 rfl rfl rfl rfl rfl rfl ?_ | refine WL.storeL (vs := [_, _]) st.front8 ty_agg37 rfl rfl rfl rfl (by first | decide | omega) rfl rfl ?_
    intro w st
    refine WL.fin hK1374 (fun _ _ h => h) ?_
    refine WC.retC (vs := [_, _]) Tryd.results15 (fun _ _ h => h) rfl ty_agg37 rfl ⟨(by first | assumption | exact st.c0 (by first | decide | omega) | exact st.c1 (by first | decide | omega) | exact st.c2 (by first | decide | omega) | exact st.c3 (by first | decide | omega) | exact st.c4 (by first | decide | omega) | exact st.c5 (by first | decide | omega) | exact st.c6 (by first | decide | omega) | exact st.c7 (by first | decide | omega) | exact st.c8 (by first | decide | omega)), (by first | assumption | exact st.c0 (by first | decide | omega) | exact st.c1 (by first | decide | omega) | exact st.c2 (by first | decide | omega) | exact st.c3 (by first | decide | omega) | exact st.c4 (by first | decide | omega) | exact st.c5 (by first | decide | omega) | exact st.c6 (by first | decide | omega) | exact st.c7 (by first | decide | omega) | exact st.c8 (by first | decide | omega)), trivial⟩ ?_
    exact ⟨_, rfl, MPost.none e (.inr (by decide)) (.inr (by decide)) h rfl (st_ms st)⟩
  by_cases h2 : 65536 < s
  · skip
    have e : stepP P o = (P, 1) := by unfold stepP; rw [if_pos hk]; unfold fmtS; rw [ef]; simp [h2]
    refine WC.seq fun K1375 hK1375 => ?_
    refine WC.seq fun K1376 hK1376 => ?_
    -- region 9
    refine WC.region ?_
    -- R9.0 29 := diskm.go:93 move
    refine WL.v (by first | exact r_move (v := .int _ _) rfl | exact r_move rfl) rfl rfl rfl ?_
    -- R9.1 30 := diskm.go:93 binOp
    refine WL.v (by first | exact r_lss rfl rfl (decide_eq_true (by omega)) | exact r_lss rfl rfl (decide_eq_false (by omega)) | exact r_lss rfl rfl rfl) rfl rfl rfl ?_
    -- R9.2 31 := diskm.go:93 move
    refine WL.v (by first | exact r_move (v := .bool _) rfl | exact r_move rfl) rfl rfl rfl ?_
    -- R9.3 32 := diskm.go:93 move
    refine WL.v (by first | exact r_move (v := .int _ _) rfl | exact r_move rfl) rfl rfl rfl ?_
    -- R9.4 33 := diskm.go:93 binOp
    refine WL.v (by first | exact r_gtr rfl rfl (decide_eq_true (by omega)) | exact r_gtr rfl rfl (decide_eq_false (by omega)) | exact r_gtr rfl rfl rfl) rfl rfl rfl ?_
    -- R9.5 34 := diskm.go:93 pick
    refine WL.v (by first | exact r_pickT (v := .bool _) rfl rfl | exact r_pickF (v := .bool _) rfl rfl) rfl rfl rfl ?_
    -- R9.6 35 := diskm.go:93 move
    refine WL.v (by first | exact r_move (v := .bool _) rfl | exact r_move rfl) rfl rfl rfl ?_
    -- R9.7 36 := diskm.go:93 move
    refine WL.no rfl rfl ?_
    -- R9.8 37 := diskm.go:93 binOp
    refine WL.no rfl rfl ?_
    -- R9.9 38 := diskm.go:93 pick
    refine WL.v (by first | exact r_pickT (v := .bool _) rfl rfl | exact r_pickF (v := .bool _) rfl rfl) rfl rfl rfl ?_
    -- R9.10 39 := diskm.go:93 move
    refine WL.v (by first | exact r_move (v := .bool _) rfl | exact r_move rfl) rfl rfl rfl ?_
    -- R9.11 40 := diskm.go:93 move
    refine WL.no rfl rfl ?_
    -- R9.12 41 := diskm.go:93 binOp
    refine WL.no rfl rfl ?_
    -- R9.13 42 := diskm.go:93 pick
    refine WL.v (by first | exact r_pickT (v := .bool _) rfl rfl | exact r_pickF (v := .bool _) rfl rfl) rfl rfl rfl ?_
    refine WL.fin hK1376 (fun _ _ h => h) ?_
    refine WC.condT rfl rfl ?_
    refine WC.seq fun K1377 hK1377 => ?_
    -- region 10
    refine WC.region ?_
    -- R10.0 43 := diskm.go:94 build
    refine WL.v (by exact r_build (ps := [(0, .int _ _)]) (vs := [_, _]) ty_pl37 ty_zero37 rfl (fill_step (pv := [_]) (cs' := [_, _]) rfl rfl rfl rfl (fill_nil))) rfl rfl rfl ?_
    -- R10.1 None := diskm.go:94 store
    first | refine WL.storeW (vs := [_, _]) st ty_agg37 rfl rfl rfl rfl rfl rfl ?_ | refine WL.storeL (vs := [_, _]) st ty_agg37 rfl rfl rfl rfl (by first | decide | omega) rfl rfl ?_ | refine WL.storeW (vs := [_, _]) st.front1 ty_agg37 rfl rfl rfl rfl rfl rfl ?_ | refine WL.storeL (vs := [_, _]) st.front1 ty_agg37 rfl rfl rfl rfl (by first | decide | omega) rfl rfl ?_ | refine WL.storeW (vs := [_, _]) st.front2 ty_agg37 rfl rfl rfl rfl rfl rfl ?_ | refine WL.storeL (vs := [_, _]) st.front2 ty_agg37 rfl rfl rfl rfl (by first | decide | omega) rfl rfl ?_ | refine WL.storeW (vs := [_, _]) st.front3 ty_agg37 rfl rfl rfl rfl rfl rfl ?_ | refine WL.storeL (vs := [_, _]) st.front3 ty_agg37 rfl rfl rfl rfl (by first | decide | omega) rfl rfl ?_ | refine WL.storeW (vs := [_, _]) st.front4 ty_agg37 rfl rfl rfl rfl rfl rfl ?_ | refine WL.storeL (vs := [_, _]) st.front4 ty_agg37 rfl rfl rfl rfl (by first | decide | omega) rfl rfl ?_ | refine WL.storeW (vs := [_, _]) st.front5 ty_agg37 rfl rfl rfl rfl rfl rfl ?_ | refine WL.storeL (vs := [_, _]) st.front5 ty_agg37 rfl rfl rfl rfl (by first | decide | omega) rfl rfl ?_ | refine WL.storeW (vs := [_, _]) st.front6 ty_agg37 rfl rfl rfl rfl rfl rfl ?_ | refine WL.storeL (vs := [_, _]) st.front6 ty_agg37 rfl rfl rfl rfl (by first | decide | omega) rfl rfl ?_ | refine WL.storeW (vs := [_, _]) st.front7 ty_agg37 rfl rfl rfl rfl rfl rfl ?_ | refine WL.storeL (vs := [_, _]) st.front7 ty_agg37 rfl rfl rfl rfl (by first | decide | omega) rfl rfl ?_ | refine WL.storeW (vs := [_, _]) st.front8 ty_agg37 rfl rfl rfl rfl rfl rfl ?_ | refine WL.storeL (vs := [_, _]) st.front8 ty_agg37 rfl rfl rfl rfl (by first | decide | omega) rfl rfl ?_
    intro w st
    refine WL.fin hK1377 (fun _ _ h => h) ?_
    refine WC.retC (vs := [_, _]) Tryd.results15 (fun _ _ h => h) rfl ty_agg37 rfl ⟨(by first | assumption | exact st.c0 (by first | decide | omega) | exact st.c1 (by first | decide | omega) | exact st.c2 (by first | decide | omega) | exact st.c3 (by first | decide | omega) | exact st.c4 (by first | decide | omega) | exact st.c5 (by first | decide | omega) | exact st.c6 (by first | decide | omega) | exact st.c7 (by first | decide | omega) | exact st.c8 (by first | decide | omega)), (by first | assumption | exact st.c0 (by first | decide | omega) | exact st.c1 (by first | decide | omega) | exact st.c2 (by first | decide | omega) | exact st.c3 (by first | decide | omega) | exact st.c4 (by first | decide | omega) | exact st.c5 (by first | decide | omega) | exact st.c6 (by first | decide | omega) | exact st.c7 (by first | decide | omega) | exact st.c8 (by first | decide | omega)), trivial⟩ ?_
    exact ⟨_, rfl, MPost.none e (.inr (by decide)) (.inr (by decide)) h rfl (st_ms st)⟩
  by_cases h3 : c < 0
  · skip
    have e : stepP P o = (P, 1) := by unfold stepP; rw [if_pos hk]; unfold fmtS; rw [ef]; simp [h3]
    refine WC.seq fun K1378 hK1378 => ?_
    refine WC.seq fun K1379 hK1379 => ?_
    -- region 9
    refine WC.region ?_
    -- R9.0 29 := diskm.go:93 move
    refine WL.v (by first | exact r_move (v := .int _ _) rfl | exact r_move rfl) rfl rfl rfl ?_
    -- R9.1 30 := diskm.go:93 binOp
    refine WL.v (by first | exact r_lss rfl rfl (decide_eq_true (by omega)) | exact r_lss rfl rfl (decide_eq_false (by omega)) | exact r_lss rfl rfl rfl) rfl rfl rfl ?_
    -- R9.2 31 := diskm.go:93 move
    refine WL.v (by first | exact r_move (v := .bool _) rfl | exact r_move rfl) rfl rfl rfl ?_
    -- R9.3 32 := diskm.go:93 move
    refine WL.v (by first | exact r_move (v := .int _ _) rfl | exact r_move rfl) rfl rfl rfl ?_
    -- R9.4 33 := diskm.go:93 binOp
    refine WL.v (by first | exact r_gtr rfl rfl (decide_eq_true (by omega)) | exact r_gtr rfl rfl (decide_eq_false (by omega)) | exact r_gtr rfl rfl rfl) rfl rfl rfl ?_
    -- R9.5 34 := diskm.go:93 pick
    refine WL.v (by first | exact r_pickT (v := .bool _) rfl rfl | exact r_pickF (v := .bool _) rfl rfl) rfl rfl rfl ?_
    -- R9.6 35 := diskm.go:93 move
    refine WL.v (by first | exact r_move (v := .bool _) rfl | exact r_move rfl) rfl rfl rfl ?_
    -- R9.7 36 := diskm.go:93 move
    refine WL.v (by first | exact r_move (v := .int _ _) rfl | exact r_move rfl) rfl rfl rfl ?_
    -- R9.8 37 := diskm.go:93 binOp
    refine WL.v (by first | exact r_lss rfl rfl (decide_eq_true (by omega)) | exact r_lss rfl rfl (decide_eq_false (by omega)) | exact r_lss rfl rfl rfl) rfl rfl rfl ?_
    -- R9.9 38 := diskm.go:93 pick
    refine WL.v (by first | exact r_pickT (v := .bool _) rfl rfl | exact r_pickF (v := .bool _) rfl rfl) rfl rfl rfl ?_
    -- R9.10 39 := diskm.go:93 move
    refine WL.v (by first | exact r_move (v := .bool _) rfl | exact r_move rfl) rfl rfl rfl ?_
    -- R9.11 40 := diskm.go:93 move
    refine WL.no rfl rfl ?_
    -- R9.12 41 := diskm.go:93 binOp
    refine WL.no rfl rfl ?_
    -- R9.13 42 := diskm.go:93 pick
    refine WL.v (by first | exact r_pickT (v := .bool _) rfl rfl | exact r_pickF (v := .bool _) rfl rfl) rfl rfl rfl ?_
    refine WL.fin hK1379 (fun _ _ h => h) ?_
    refine WC.condT rfl rfl ?_
    refine WC.seq fun K1380 hK1380 => ?_
    -- region 10
    refine WC.region ?_
    -- R10.0 43 := diskm.go:94 build
    refine WL.v (by exact r_build (ps := [(0, .int _ _)]) (vs := [_, _]) ty_pl37 ty_zero37 rfl (fill_step (pv := [_]) (cs' := [_, _]) rfl rfl rfl rfl (fill_nil))) rfl rfl rfl ?_
    -- R10.1 None := diskm.go:94 store
    first | refine WL.storeW (vs := [_, _]) st ty_agg37 rfl rfl rfl rfl rfl rfl ?_ | refine WL.storeL (vs := [_, _]) st ty_agg37 rfl rfl rfl rfl (by first | decide | omega) rfl rfl ?_ | refine WL.storeW (vs := [_, _]) st.front1 ty_agg37 rfl rfl rfl rfl rfl rfl ?_ | refine WL.storeL (vs := [_, _]) st.front1 ty_agg37 rfl rfl rfl rfl (by first | decide | omega) rfl rfl ?_ | refine WL.storeW (vs := [_, _]) st.front2 ty_agg37 rfl rfl rfl rfl rfl rfl ?_ | refine WL.storeL (vs := [_, _]) st.front2 ty_agg37 rfl rfl rfl rfl (by first | decide | omega) rfl rfl ?_ | refine WL.storeW (vs := [_, _]) st.front3 ty_agg37 rfl rfl rfl rfl rfl rfl ?_ | refine WL.storeL (vs := [_, _]) st.front3 ty_agg37 rfl rfl rfl rfl (by first | decide | omega) rfl rfl ?_ | refine WL.storeW (vs := [_, _]) st.front4 ty_agg37 rfl rfl rfl rfl rfl rfl ?_ | refine WL.storeL (vs := [_, _]) st.front4 ty_agg37 rfl rfl rfl rfl (by first | decide | omega) rfl rfl ?_ | refine WL.storeW (vs := [_, _]) st.front5 ty_agg37 rfl rfl rfl rfl rfl rfl ?_ | refine WL.storeL (vs := [_, _]) st.front5 ty_agg37 rfl rfl rfl rfl (by first | decide | omega) rfl rfl ?_ | refine WL.storeW (vs := [_, _]) st.front6 ty_agg37 rfl rfl rfl rfl rfl rfl ?_ | refine WL.storeL (vs := [_, _]) st.front6 ty_agg37 rfl rfl rfl rfl (by first | decide | omega) rfl rfl ?_ | refine WL.storeW (vs := [_, _]) st.front7 ty_agg37 rfl rfl rfl rfl rfl rfl ?_ | refine WL.storeL (vs := [_, _]) st.front7 ty_agg37 rfl rfl rfl rfl (by first | decide | omega) rfl rfl ?_ | refine WL.storeW (vs := [_, _]) st.front8 ty_agg37 rfl rfl rfl rfl rfl rfl ?_ | refine WL.storeL (vs := [_, _]) st.front8 ty_agg37 rfl rfl rfl rfl (by first | decide | omega) rfl rfl ?_
    intro w st
    refine WL.fin hK1380 (fun _ _ h => h) ?_
    refine WC.retC (vs := [_, _]) Tryd.results15 (fun _ _ h => h) rfl ty_agg37 rfl ⟨(by first | assumption | exact st.c0 (by first | decide | omega) | exact st.c1 (by first | decide | omega) | exact st.c2 (by first | decide | omega) | exact st.c3 (by first | decide | omega) | exact st.c4 (by first | decide | omega) | exact st.c5 (by first | decide | omega) | exact st.c6 (by first | decide | omega) | exact st.c7 (by first | decide | omega) | exact st.c8 (by first | decide | omega)), (by first | assumption | exact st.c0 (by first | decide | omega) | exact st.c1 (by first | decide | omega) | exact st.c2 (by first | decide | omega) | exact st.c3 (by first | decide | omega) | exact st.c4 (by first | decide | omega) | exact st.c5 (by first | decide | omega) | exact st.c6 (by first | decide | omega) | exact st.c7 (by first | decide | omega) | exact st.c8 (by first | decide | omega)), trivial⟩ ?_
    exact ⟨_, rfl, MPost.none e (.inr (by decide)) (.inr (by decide)) h rfl (st_ms st)⟩
  by_cases h4 : 65536 < c
  · have e : stepP P o = (P, 1) := by unfold stepP; rw [if_pos hk]; unfold fmtS; rw [ef]; simp [h4]
    refine WC.seq fun K1381 hK1381 => ?_
    refine WC.seq fun K1382 hK1382 => ?_
    -- region 9
    refine WC.region ?_
    -- R9.0 29 := diskm.go:93 move
    refine WL.v (by first | exact r_move (v := .int _ _) rfl | exact r_move rfl) rfl rfl rfl ?_
    -- R9.1 30 := diskm.go:93 binOp
    refine WL.v (by first | exact r_lss rfl rfl (decide_eq_true (by omega)) | exact r_lss rfl rfl (decide_eq_false (by omega)) | exact r_lss rfl rfl rfl) rfl rfl rfl ?_
    -- R9.2 31 := diskm.go:93 move
    refine WL.v (by first | exact r_move (v := .bool _) rfl | exact r_move rfl) rfl rfl rfl ?_
    -- R9.3 32 := diskm.go:93 move
    refine WL.v (by first | exact r_move (v := .int _ _) rfl | exact r_move rfl) rfl rfl rfl ?_
    -- R9.4 33 := diskm.go:93 binOp
    refine WL.v (by first | exact r_gtr rfl rfl (decide_eq_true (by omega)) | exact r_gtr rfl rfl (decide_eq_false (by omega)) | exact r_gtr rfl rfl rfl) rfl rfl rfl ?_
    -- R9.5 34 := diskm.go:93 pick
    refine WL.v (by first | exact r_pickT (v := .bool _) rfl rfl | exact r_pickF (v := .bool _) rfl rfl) rfl rfl rfl ?_
    -- R9.6 35 := diskm.go:93 move
    refine WL.v (by first | exact r_move (v := .bool _) rfl | exact r_move rfl) rfl rfl rfl ?_
    -- R9.7 36 := diskm.go:93 move
    refine WL.v (by first | exact r_move (v := .int _ _) rfl | exact r_move rfl) rfl rfl rfl ?_
    -- R9.8 37 := diskm.go:93 binOp
    refine WL.v (by first | exact r_lss rfl rfl (decide_eq_true (by omega)) | exact r_lss rfl rfl (decide_eq_false (by omega)) | exact r_lss rfl rfl rfl) rfl rfl rfl ?_
    -- R9.9 38 := diskm.go:93 pick
    refine WL.v (by first | exact r_pickT (v := .bool _) rfl rfl | exact r_pickF (v := .bool _) rfl rfl) rfl rfl rfl ?_
    -- R9.10 39 := diskm.go:93 move
    refine WL.v (by first | exact r_move (v := .bool _) rfl | exact r_move rfl) rfl rfl rfl ?_
    -- R9.11 40 := diskm.go:93 move
    refine WL.v (by first | exact r_move (v := .int _ _) rfl | exact r_move rfl) rfl rfl rfl ?_
    -- R9.12 41 := diskm.go:93 binOp
    refine WL.v (by first | exact r_gtr rfl rfl (decide_eq_true (by omega)) | exact r_gtr rfl rfl (decide_eq_false (by omega)) | exact r_gtr rfl rfl rfl) rfl rfl rfl ?_
    -- R9.13 42 := diskm.go:93 pick
    refine WL.v (by first | exact r_pickT (v := .bool _) rfl rfl | exact r_pickF (v := .bool _) rfl rfl) rfl rfl rfl ?_
    refine WL.fin hK1382 (fun _ _ h => h) ?_
    refine WC.condT rfl rfl ?_
    refine WC.seq fun K1383 hK1383 => ?_
    -- region 10
    refine WC.region ?_
    -- R10.0 43 := diskm.go:94 build
    refine WL.v (by exact r_build (ps := [(0, .int _ _)]) (vs := [_, _]) ty_pl37 ty_zero37 rfl (fill_step (pv := [_]) (cs' := [_, _]) rfl rfl rfl rfl (fill_nil))) rfl rfl rfl ?_
    -- R10.1 None := diskm.go:94 store
    first | refine WL.storeW (vs := [_, _]) st ty_agg37 rfl rfl rfl rfl rfl rfl ?_ | refine WL.storeL (vs := [_, _]) st ty_agg37 rfl rfl rfl rfl (by first | decide | omega) rfl rfl ?_ | refine WL.storeW (vs := [_, _]) st.front1 ty_agg37 rfl rfl rfl rfl rfl rfl ?_ | refine WL.storeL (vs := [_, _]) st.front1 ty_agg37 rfl rfl rfl rfl (by first | decide | omega) rfl rfl ?_ | refine WL.storeW (vs := [_, _]) st.front2 ty_agg37 rfl rfl rfl rfl rfl rfl ?_ | refine WL.storeL (vs := [_, _]) st.front2 ty_agg37 rfl rfl rfl rfl (by first | decide | omega) rfl rfl ?_ | refine WL.storeW (vs := [_, _]) st.front3 ty_agg37 rfl rfl rfl rfl rfl rfl ?_ | refine WL.storeL (vs := [_, _]) st.front3 ty_agg37 rfl rfl rfl rfl (by first | decide | omega) rfl rfl ?_ | refine WL.storeW (vs := [_, _]) st.front4 ty_agg37 rfl rfl rfl rfl rfl rfl ?_ | refine WL.storeL (vs := [_, _]) st.front4 ty_agg37 rfl rfl rfl rfl (by first | decide | omega) rfl rfl ?_ | refine WL.storeW (vs := [_, _]) st.front5 ty_agg37 rfl rfl rfl rfl rfl rfl ?_ | refine WL.storeL (vs := [_, _]) st.front5 ty_agg37 rfl rfl rfl rfl (by first | decide | omega) rfl rfl ?_ | refine WL.storeW (vs := [_, _]) st.front6 ty_agg37 rfl rfl rfl rfl rfl rfl ?_ | refine WL.storeL (vs := [_, _]) st.front6 ty_agg37 rfl rfl rfl rfl (by first | decide | omega) rfl rfl ?_ | refine WL.storeW (vs := [_, _]) st.front7 ty_agg37 rfl rfl rfl rfl rfl rfl ?_ | refine WL.storeL (vs := [_, _]) st.front7 ty_agg37 rfl rfl rfl rfl (by first | decide | omega) rfl rfl ?_ | refine WL.storeW (vs := [_, _]) st.front8 ty_agg37 rfl rfl rfl rfl rfl rfl ?_ | refine WL.storeL (vs := [_, _]) st.front8 ty_agg37 rfl rfl rfl rfl (by first | decide | omega) rfl rfl ?_
    intro w st
    refine WL.fin hK1383 (fun _ _ h => h) ?_
    refine WC.retC (vs := [_, _]) Tryd.results15 (fun _ _ h => h) rfl ty_agg37 rfl ⟨(by first | assumption | exact st.c0 (by first | decide | omega) | exact st.c1 (by first | decide | omega) | exact st.c2 (by first | decide | omega) | exact st.c3 (by first | decide | omega) | exact st.c4 (by first | decide | omega) | exact st.c5 (by first | decide | omega) | exact st.c6 (by first | decide | omega) | exact st.c7 (by first | decide | omega) | exact st.c8 (by first | decide | omega)), (by first | assumption | exact st.c0 (by first | decide | omega) | exact st.c1 (by first | decide | omega) | exact st.c2 (by first | decide | omega) | exact st.c3 (by first | decide | omega) | exact st.c4 (by first | decide | omega) | exact st.c5 (by first | decide | omega) | exact st.c6 (by first | decide | omega) | exact st.c7 (by first | decide | omega) | exact st.c8 (by first | decide | omega)), trivial⟩ ?_
    exact ⟨_, rfl, MPost.none e (.inr (by decide)) (.inr (by decide)) h rfl (st_ms st)⟩
  have e : stepP P o = (newP s.toNat c.toNat, 0) := by unfold stepP; rw [if_pos hk]; unfold fmtS; rw [ef, if_neg (by omega), if_neg (by omega)]
  refine WC.seq fun K1384 hK1384 => ?_
  refine WC.seq fun K1385 hK1385 => ?_
  -- region 9
  refine WC.region ?_
  -- R9.0 29 := diskm.go:93 move
  refine WL.v (by first | exact r_move (v := .int _ _) rfl | exact r_move rfl) rfl rfl rfl ?_
  -- R9.1 30 := diskm.go:93 binOp
  refine WL.v (by first | exact r_lss rfl rfl (decide_eq_true (by omega)) | exact r_lss rfl rfl (decide_eq_false (by omega)) | exact r_lss rfl rfl rfl) rfl rfl rfl ?_
  -- R9.2 31 := diskm.go:93 move
  refine WL.v (by first | exact r_move (v := .bool _) rfl | exact r_move rfl) rfl rfl rfl ?_
  -- R9.3 32 := diskm.go:93 move
  refine WL.v (by first | exact r_move (v := .int _ _) rfl | exact r_move rfl) rfl rfl rfl ?_
  -- R9.4 33 := diskm.go:93 binOp
  refine WL.v (by first | exact r_gtr rfl rfl (decide_eq_true (by omega)) | exact r_gtr rfl rfl (decide_eq_false (by omega)) | exact r_gtr rfl rfl rfl) rfl rfl rfl ?_
  -- R9.5 34 := diskm.go:93 pick
  refine WL.v (by first | exact r_pickT (v := .bool _) rfl rfl | exact r_pickF (v := .bool _) rfl rfl) rfl rfl rfl ?_
  -- R9.6 35 := diskm.go:93 move
  refine WL.v (by first | exact r_move (v := .bool _) rfl | exact r_move rfl) rfl rfl rfl ?_
  -- R9.7 36 := diskm.go:93 move
  refine WL.v (by first | exact r_move (v := .int _ _) rfl | exact r_move rfl) rfl rfl rfl ?_
  -- R9.8 37 := diskm.go:93 binOp
  refine WL.v (by first | exact r_lss rfl rfl (decide_eq_true (by omega)) | exact r_lss rfl rfl (decide_eq_false (by omega)) | exact r_lss rfl rfl rfl) rfl rfl rfl ?_
  -- R9.9 38 := diskm.go:93 pick
  refine WL.v (by first | exact r_pickT (v := .bool _) rfl rfl | exact r_pickF (v := .bool _) rfl rfl) rfl rfl rfl ?_
  -- R9.10 39 := diskm.go:93 move
  refine WL.v (by first | exact r_move (v := .bool _) rfl | exact r_move rfl) rfl rfl rfl ?_
  -- R9.11 40 := diskm.go:93 move
  refine WL.v (by first | exact r_move (v := .int _ _) rfl | exact r_move rfl) rfl rfl rfl ?_
  -- R9.12 41 := diskm.go:93 binOp
  refine WL.v (by first | exact r_gtr rfl rfl (decide_eq_true (by omega)) | exact r_gtr rfl rfl (decide_eq_false (by omega)) | exact r_gtr rfl rfl rfl) rfl rfl rfl ?_
  -- R9.13 42 := diskm.go:93 pick
  refine WL.v (by first | exact r_pickT (v := .bool _) rfl rfl | exact r_pickF (v := .bool _) rfl rfl) rfl rfl rfl ?_
  refine WL.fin hK1385 (fun _ _ h => h) ?_
  refine WC.condF rfl rfl ?_
  refine WC.skipF hK1384 (fun _ _ h => h) ?_
  refine WC.seq fun K1386 hK1386 => ?_
  -- region 11
  refine WC.region ?_
  -- R11.0 44 := diskm.go:96 move
  refine WL.v (by first | exact r_move (v := .pointer _) rfl | exact r_move rfl) rfl rfl rfl ?_
  -- R11.1 45 := diskm.go:96 move
  refine WL.v (by first | exact r_move (v := .int _ _) rfl | exact r_move rfl) rfl rfl rfl ?_
  -- R11.2 46 := diskm.go:96 move
  refine WL.v (by first | exact r_move (v := .int _ _) rfl | exact r_move rfl) rfl rfl rfl ?_
  -- R11.3 47 := diskm.go:96 makeMap
  refine WL.mkmap (keyGood Tryd.prog 2) st rfl rfl ?_
  intro b47 w st
  -- R11.4 48 := diskm.go:96 build
  refine WL.v (by exact r_build (ps := [(0, .int _ _), (1, .int _ _), (2, .map _)]) (vs := [_, _, _, _, _, _, _, _, _, _]) ty_pl48 ty_zero48 rfl (fill_step (pv := [_]) (cs' := [_, _, _, _, _, _, _, _, _, _]) rfl rfl rfl rfl (fill_step (pv := [_]) (cs' := [_, _, _, _, _, _, _, _, _, _]) rfl rfl rfl rfl (fill_step (pv := [_]) (cs' := [_, _, _, _, _, _, _, _, _, _]) rfl rfl rfl rfl (fill_nil))))) rfl rfl rfl ?_
  -- R11.5 49 := diskm.go:96 nilCheck
  refine WL.v (by exact r_nilCheck rfl) rfl rfl rfl ?_
  -- R11.6 None := diskm.go:96 store
  first | refine WL.storeW (vs := [_, _, _, _, _, _, _, _, _, _]) st ty_agg48 rfl rfl rfl rfl rfl rfl ?_ | refine WL.storeL (vs := [_, _, _, _, _, _, _, _, _, _]) st ty_agg48 rfl rfl rfl rfl (by first | decide | omega) rfl rfl ?_ | refine WL.storeW (vs := [_, _, _, _, _, _, _, _, _, _]) st.front1 ty_agg48 rfl rfl rfl rfl rfl rfl ?_ | refine WL.storeL (vs := [_, _, _, _, _, _, _, _, _, _]) st.front1 ty_agg48 rfl rfl rfl rfl (by first | decide | omega) rfl rfl ?_ | refine WL.storeW (vs := [_, _, _, _, _, _, _, _, _, _]) st.front2 ty_agg48 rfl rfl rfl rfl rfl rfl ?_ | refine WL.storeL (vs := [_, _, _, _, _, _, _, _, _, _]) st.front2 ty_agg48 rfl rfl rfl rfl (by first | decide | omega) rfl rfl ?_ | refine WL.storeW (vs := [_, _, _, _, _, _, _, _, _, _]) st.front3 ty_agg48 rfl rfl rfl rfl rfl rfl ?_ | refine WL.storeL (vs := [_, _, _, _, _, _, _, _, _, _]) st.front3 ty_agg48 rfl rfl rfl rfl (by first | decide | omega) rfl rfl ?_ | refine WL.storeW (vs := [_, _, _, _, _, _, _, _, _, _]) st.front4 ty_agg48 rfl rfl rfl rfl rfl rfl ?_ | refine WL.storeL (vs := [_, _, _, _, _, _, _, _, _, _]) st.front4 ty_agg48 rfl rfl rfl rfl (by first | decide | omega) rfl rfl ?_ | refine WL.storeW (vs := [_, _, _, _, _, _, _, _, _, _]) st.front5 ty_agg48 rfl rfl rfl rfl rfl rfl ?_ | refine WL.storeL (vs := [_, _, _, _, _, _, _, _, _, _]) st.front5 ty_agg48 rfl rfl rfl rfl (by first | decide | omega) rfl rfl ?_ | refine WL.storeW (vs := [_, _, _, _, _, _, _, _, _, _]) st.front6 ty_agg48 rfl rfl rfl rfl rfl rfl ?_ | refine WL.storeL (vs := [_, _, _, _, _, _, _, _, _, _]) st.front6 ty_agg48 rfl rfl rfl rfl (by first | decide | omega) rfl rfl ?_ | refine WL.storeW (vs := [_, _, _, _, _, _, _, _, _, _]) st.front7 ty_agg48 rfl rfl rfl rfl rfl rfl ?_ | refine WL.storeL (vs := [_, _, _, _, _, _, _, _, _, _]) st.front7 ty_agg48 rfl rfl rfl rfl (by first | decide | omega) rfl rfl ?_ | refine WL.storeW (vs := [_, _, _, _, _, _, _, _, _, _]) st.front8 ty_agg48 rfl rfl rfl rfl rfl rfl ?_ | refine WL.storeL (vs := [_, _, _, _, _, _, _, _, _, _]) st.front8 ty_agg48 rfl rfl rfl rfl (by first | decide | omega) rfl rfl ?_
  intro w st
  refine WL.fin hK1386 (fun _ _ h => h) ?_
  refine WC.seq fun K1387 hK1387 => ?_
  -- region 12
  refine WC.region ?_
  -- R12.0 50 := diskm.go:97 build
  refine WL.v (by exact r_build (ps := []) (vs := [_, _]) ty_pl37 ty_zero37 rfl (fill_nil)) rfl rfl rfl ?_
  -- R12.1 None := diskm.go:97 store
  first | refine WL.storeW (vs := [_, _]) st ty_agg37 rfl rfl rfl rfl rfl rfl ?_ | refine WL.storeL (vs := [_, _]) st ty_agg37 rfl rfl rfl rfl (by first | decide | omega) rfl rfl ?_ | refine WL.storeW (vs := [_, _]) st.front1 ty_agg37 rfl rfl rfl rfl rfl rfl ?_ | refine WL.storeL (vs := [_, _]) st.front1 ty_agg37 rfl rfl rfl rfl (by first | decide | omega) rfl rfl ?_ | refine WL.storeW (vs := [_, _]) st.front2 ty_agg37 rfl rfl rfl rfl rfl rfl ?_ | refine WL.storeL (vs := [_, _]) st.front2 ty_agg37 rfl rfl rfl rfl (by first | decide | omega) rfl rfl ?_ | refine WL.storeW (vs := [_, _]) st.front3 ty_agg37 rfl rfl rfl rfl rfl rfl ?_ | refine WL.storeL (vs := [_, _]) st.front3 ty_agg37 rfl rfl rfl rfl (by first | decide | omega) rfl rfl ?_ | refine WL.storeW (vs := [_, _]) st.front4 ty_agg37 rfl rfl rfl rfl rfl rfl ?_ | refine WL.storeL (vs := [_, _]) st.front4 ty_agg37 rfl rfl rfl rfl (by first | decide | omega) rfl rfl ?_ | refine WL.storeW (vs := [_, _]) st.front5 ty_agg37 rfl rfl rfl rfl rfl rfl ?_ | refine WL.storeL (vs := [_, _]) st.front5 ty_agg37 rfl rfl rfl rfl (by first | decide | omega) rfl rfl ?_ | refine WL.storeW (vs := [_, _]) st.front6 ty_agg37 rfl rfl rfl rfl rfl rfl ?_ | refine WL.storeL (vs := [_, _]) st.front6 ty_agg37 rfl rfl rfl rfl (by first | decide | omega) rfl rfl ?_ | refine WL.storeW (vs := [_, _]) st.front7 ty_agg37 rfl rfl rfl rfl rfl rfl ?_ | refine WL.storeL (vs := [_, _]) st.front7 ty_agg37 rfl rfl rfl rfl (by first | decide | omega) rfl rfl ?_ | refine WL.storeW (vs := [_, _]) st.front8 ty_agg37 rfl rfl rfl rfl rfl rfl ?_ | refine WL.storeL (vs := [_, _]) st.front8 ty_agg37 rfl rfl rfl rfl (by first | decide | omega) rfl rfl ?_
  intro w st
  refine WL.fin hK1387 (fun _ _ h => h) ?_
  refine WC.retC (vs := [_, _]) Tryd.results15 (fun _ _ h => h) rfl ty_agg37 rfl ⟨(by first | assumption | exact st.c0 (by first | decide | omega) | exact st.c1 (by first | decide | omega) | exact st.c2 (by first | decide | omega) | exact st.c3 (by first | decide | omega) | exact st.c4 (by first | decide | omega) | exact st.c5 (by first | decide | omega) | exact st.c6 (by first | decide | omega) | exact st.c7 (by first | decide | omega) | exact st.c8 (by first | decide | omega)), (by first | assumption | exact st.c0 (by first | decide | omega) | exact st.c1 (by first | decide | omega) | exact st.c2 (by first | decide | omega) | exact st.c3 (by first | decide | omega) | exact st.c4 (by first | decide | omega) | exact st.c5 (by first | decide | omega) | exact st.c6 (by first | decide | omega) | exact st.c7 (by first | decide | omega) | exact st.c8 (by first | decide | omega)), trivial⟩ ?_
  refine ⟨_, rfl, MPost.none e (.inl (by omega)) (.inl (by omega)) (z' := ⟨b47, fun _ => none, .slice none 0 0, [], fun _ => undef, z.K, SV.nil, 0, 0⟩) MI.fresh0 rfl ?_⟩
  have es : s = ((s.toNat : Nat) : Int) := by omega
  have ec : c = ((c.toNat : Nat) : Int) := by omega
  have st := st.drop
  unfold mds mpI
  rw [gOf_none]
  rw [es, ec] at st
  exact st.sublist (.cons_cons _ (.cons_cons _ (((List.sublist_append_right _ _).cons _).cons _)))
--MARK

theorem bytesOf_app {n m : Nat} {F : Nat → Int} : bytesOf n F ++ bytesOf m (fun k => F (n + k)) = bytesOf (n + m) F := by
  unfold bytesOf; rw [List.range_add, List.map_append, List.map_map]; rfl
theorem st_ap1 {i a b x y : HI} {XI r : List HI} (st : S0 w0 (i :: x :: y :: a :: b :: (XI ++ r)) w) : S0 w0 (XI ++ (i :: x :: y :: a :: b :: r)) w := st.perm (List.perm_append_comm_assoc [_, _, _, _, _] XI r)
theorem st_ap2 {i a b x y : HI} {XI r : List HI} (st : S0 w0 (XI ++ (i :: x :: y :: a :: b :: r)) w) : S0 w0 (a :: b :: x :: y :: (XI ++ r)) w := ((st.perm (List.perm_append_comm_assoc XI [i, x, y, a, b] r)).drop).perm (List.perm_append_comm_assoc [_, _] [_, _] _)
theorem st_ap3 {a b x y : HI} {XI XW K l : List HI} (st : S0 w0 (a :: b :: x :: y :: (XI ++ (XW ++ (K ++ l)))) w) : S0 w0 (x :: y :: (XW ++ ((XI ++ K) ++ l))) w := st.drop.drop.perm (.cons _ (.cons _ (by rw [List.append_assoc]; exact List.perm_append_comm_assoc XI XW _)))
theorem br_sees {el : Nat} {v : Value} {bs : List Int} {XI : List HI} (h : BR el v bs XI) : Sees w0 XI v bs := by
  obtain ⟨s, h1, h2, h3, h4⟩ := h.bo.sv
  exact ⟨s, h1, h2, h3, fun l w' hl st => h4 st hl⟩
theorem span_in {sec : Nat} {s c : Int} (hc : 1 ≤ c) (h : insideB sec s c = true) : bufC sec c = c.toNat ∧ spanC sec s (bufC sec c * 512) = 0 ∧ 0 ≤ s ∧ s + c.toNat ≤ sec := by
  unfold insideB at h
  have h := of_decide_eq_true h
  have e : bufC sec c = c.toNat := by unfold bufC; rw [if_neg (by omega), if_neg (by omega)]
  refine ⟨e, ?_, h.1, by omega⟩
  unfold spanC
  rw [e, if_neg (by omega), if_neg (by omega)]
theorem span_out {sec : Nat} {s c : Int} (hc : 1 ≤ c) (h : insideB sec s c = false) : spanC sec s (bufC sec c * 512) = 2 := by
  unfold insideB at h
  have h := of_decide_eq_false h
  have e : (c ≤ (sec : Int) + 1 ∧ bufC sec c = c.toNat) ∨ bufC sec c = sec + 1 := by
    unfold bufC
    rw [if_neg (by omega)]
    by_cases h2 : (sec : Int) + 1 < c
    · exact .inr (if_pos h2)
    · exact .inl ⟨by omega, if_neg h2⟩
  unfold spanC
  rw [if_neg (by omega), if_pos (by omega)]
theorem span_bad {sec : Nat} {s c : Int} (hc : c < 1) : spanC sec s (bufC sec c * 512) = 1 := by
  have e : bufC sec c = 0 := by
    unfold bufC
    by_cases h : c < 0
    · rw [if_pos h]
    · rw [if_neg h, if_neg (by omega)]; omega
  unfold spanC
  rw [e, if_pos (.inl rfl)]
theorem fp (F : Nat → Nat → Int) {s j k : Nat} (hk : k < 512) : F (s + (j * 512 + k) / 512) ((j * 512 + k) % 512) = F (s + j) k := by
  rw [show (j * 512 + k) / 512 = j by omega, show (j * 512 + k) % 512 = k by omega]

set_option maxHeartbeats 16000000 in
theorem stepM_peek {o : OP} {z : MZ} (hp : PWf P) (h : MI w0 P z) (ho : o.ok w0) (hk : o.kind = 8) (st : S0 w0 (mds bq P z l) w) :
    Calls Tryd.prog 15 #[.pointer (some ⟨bq, 0, none⟩), o.v] w (Ret (MPost w0 bq l P o)) := by
  have hs2 := hp.s2
  have e : stepP P o = (P, spanC P.sec o.sct (bufC P.sec o.cnt * 512)) := by unfold stepP; rw [if_neg (by omega), if_neg (by omega), if_neg (by omega), if_pos hk]
  unfold OP.v
  by_cases hc1 : o.cnt < 1
  · rw [span_bad hc1] at e
    refine enter [.pointer (some ⟨bq, 0, none⟩), .agg #[.int .i64 o.kind, .int .i64 o.sct, .int .i64 o.cnt, .int .i64 o.cache, .slice o.dat.a o.dat.bs.length o.dat.c, .int .i64 o.after, .slice o.kp.a o.kp.bs.length o.kp.c, .int .i64 o.tear, .int .i64 o.tb]] Tryd.func15 rfl Tryd.ntmps15 rfl ?_
    show WC _ _ _ 292 [] [(0, .pointer (some ⟨bq, 0, none⟩)), (1, .agg #[.int .i64 o.kind, .int .i64 o.sct, .int .i64 o.cnt, .int .i64 o.cache, .slice o.dat.a o.dat.bs.length o.dat.c, .int .i64 o.after, .slice o.kp.a o.kp.bs.length o.kp.c, .int .i64 o.tear, .int .i64 o.tb])] _
    refine WC.seq fun K1388 hK1388 => ?_
    -- region 0
    refine WC.region ?_
    -- R0.0 3 := diskm.go:83 box
    first | refine WL.box (m := 9) (vs := [.int _ _, .int _ _, .int _ _, .int _ _, .slice _ _ _, .int _ _, .slice _ _ _, .int _ _, .int _ _]) st rfl rfl rfl rfl rfl rfl ?_ | refine WL.box (m := 9) (vs := [_, _, _, _, _, _, _, _, _]) st rfl rfl rfl rfl rfl rfl ?_ | refine WL.box st rfl rfl rfl rfl rfl rfl ?_
    intro b3 w st
    -- R0.1 4 := diskm.go:83 alloc
    refine WL.alloc (m := 2) st ty_zero37 rfl rfl rfl ?_
    intro b4 w st
    refine WL.fin hK1388 (fun _ _ h => h) ?_
    refine WC.seq fun K1389 hK1389 => ?_
    refine WC.seq fun K1390 hK1390 => ?_
    -- region 1
    refine WC.region ?_
    -- R1.0 16 := diskm.go:84 fieldAddr
    refine WL.v (by exact r_field ty_fld33_0 rfl) rfl rfl rfl ?_
    -- R1.1 17 := diskm.go:84 load
    refine WL.v (by exact r_load1 ty_one28 rfl (by first | assumption | exact st.c0 (by first | decide | omega) | exact st.c1 (by first | decide | omega) | exact st.c2 (by first | decide | omega) | exact st.c3 (by first | decide | omega) | exact st.c4 (by first | decide | omega) | exact st.c5 (by first | decide | omega) | exact st.c6 (by first | decide | omega) | exact st.c7 (by first | decide | omega) | exact st.c8 (by first | decide | omega))) rfl rfl rfl ?_
    refine WL.fin hK1390 (fun _ _ h => h) ?_
    refine WC.block ?_
    refine WC.seq fun K1391 hK1391 => ?_
    -- region 3
    refine WC.region ?_
    -- R3.0 20 := diskm.go:85 binOp
    refine WL.v (by first | exact r_eql rfl rfl (decide_eq_true (by omega)) | exact r_eql rfl rfl (decide_eq_false (by omega)) | exact r_eql rfl rfl rfl) rfl rfl rfl ?_
    -- R3.1 19 := diskm.go:85 assign
    refine WL.v (by first | exact r_assign (v := .bool _) rfl | exact r_assign rfl) rfl rfl rfl ?_
    refine WL.fin hK1391 (fun _ _ h => h) ?_
    refine WC.condF rfl rfl ?_
    refine WC.seq fun K1392 hK1392 => ?_
    -- region 13
    refine WC.region ?_
    -- R13.0 52 := diskm.go:98 binOp
    refine WL.v (by first | exact r_eql rfl rfl (decide_eq_true (by omega)) | exact r_eql rfl rfl (decide_eq_false (by omega)) | exact r_eql rfl rfl rfl) rfl rfl rfl ?_
    -- R13.1 51 := diskm.go:98 assign
    refine WL.v (by first | exact r_assign (v := .bool _) rfl | exact r_assign rfl) rfl rfl rfl ?_
    refine WL.fin hK1392 (fun _ _ h => h) ?_
    refine WC.condT rfl rfl ?_
    refine WC.seq fun K1393 hK1393 => ?_
    refine WC.seq fun K1394 hK1394 => ?_
    -- region 14
    refine WC.region ?_
    -- R14.0 53 := diskm.go:99 fieldAddr
    refine WL.v (by exact r_field ty_fld33_2 rfl) rfl rfl rfl ?_
    -- R14.1 54 := diskm.go:99 load
    refine WL.v (by exact r_load1 ty_one2 rfl (by first | assumption | exact st.c0 (by first | decide | omega) | exact st.c1 (by first | decide | omega) | exact st.c2 (by first | decide | omega) | exact st.c3 (by first | decide | omega) | exact st.c4 (by first | decide | omega) | exact st.c5 (by first | decide | omega) | exact st.c6 (by first | decide | omega) | exact st.c7 (by first | decide | omega) | exact st.c8 (by first | decide | omega))) rfl rfl rfl ?_
    -- R14.2 55 := diskm.go:99 binOp
    refine WL.v (by first | exact r_lss rfl rfl (decide_eq_true (by omega)) | exact r_lss rfl rfl (decide_eq_false (by omega)) | exact r_lss rfl rfl rfl) rfl rfl rfl ?_
    refine WL.fin hK1394 (fun _ _ h => h) ?_
    refine WC.condT rfl rfl ?_
    refine WC.seq fun K1395 hK1395 => ?_
    -- region 15
    refine WC.region ?_
    -- R15.0 56 := diskm.go:100 build
    refine WL.v (by exact r_build (ps := [(0, .int _ _)]) (vs := [_, _]) ty_pl37 ty_zero37 rfl (fill_step (pv := [_]) (cs' := [_, _]) rfl rfl rfl rfl (fill_nil))) rfl rfl rfl ?_
    -- R15.1 None := diskm.go:100 store
    first | refine WL.storeW (vs := [_, _]) st ty_agg37 rfl rfl rfl rfl rfl rfl ?_ | refine WL.storeL (vs := [_, _]) st ty_agg37 rfl rfl rfl rfl (by first | decide | omega) rfl rfl ?_ | refine WL.storeW (vs := [_, _]) st.front1 ty_agg37 rfl rfl rfl rfl rfl rfl ?_ | refine WL.storeL (vs := [_, _]) st.front1 ty_agg37 rfl rfl rfl rfl (by first | decide | omega) rfl rfl ?_ | refine WL.storeW (vs := [_, _]) st.front2 ty_agg37 rfl rfl rfl rfl rfl rfl ?_ | refine WL.storeL (vs := [_, _]) st.front2 ty_agg37 rfl rfl rfl rfl (by first | decide | omega) rfl rfl ?_ | refine WL.storeW (vs := [_, _]) st.front3 ty_agg37 rfl rfl rfl rfl rfl rfl ?_ | refine WL.storeL (vs := [_, _]) st.front3 ty_agg37 rfl rfl rfl rfl (by first | decide | omega) rfl rfl ?_ | refine WL.storeW (vs := [_, _]) st.front4 ty_agg37 rfl rfl rfl rfl rfl rfl ?_ | refine WL.storeL (vs := [_, _]) st.front4 ty_agg37 rfl rfl rfl rfl (by first | decide | omega) rfl rfl ?_ | refine WL.storeW (vs := [_, _]) st.front5 ty_agg37 rfl rfl rfl rfl rfl rfl ?_ | refine WL.storeL (vs := [_, _]) st.front5 ty_agg37 rfl rfl rfl rfl (by first | decide | omega) rfl rfl ?_ | refine WL.storeW (vs := [_, _]) st.front6 ty_agg37 rfl rfl rfl rfl rfl rfl ?_ | refine WL.storeL (vs := [_, _]) st.front6 ty_agg37 rfl rfl rfl rfl (by first | decide | omega) rfl rfl ?_ | refine WL.storeW (vs := [_, _]) st.front7 ty_agg37 rfl rfl rfl rfl rfl rfl ?_ | refine WL.storeL (vs := [_, _]) st.front7 ty_agg37 rfl rfl rfl rfl (by first | decide | omega) rfl rfl ?_ | refine WL.storeW (vs := [_, _]) st.front8 ty_agg37 rfl rfl rfl rfl rfl rfl ?_ | refine WL.storeL (vs := [_, _]) st.front8 ty_agg37 rfl rfl rfl rfl (by first | decide | omega) rfl rfl ?_
    intro w st
    refine WL.fin hK1395 (fun _ _ h => h) ?_
    refine WC.retC (vs := [_, _]) Tryd.results15 (fun _ _ h => h) rfl ty_agg37 rfl ⟨(by first | assumption | exact st.c0 (by first | decide | omega) | exact st.c1 (by first | decide | omega) | exact st.c2 (by first | decide | omega) | exact st.c3 (by first | decide | omega) | exact st.c4 (by first | decide | omega) | exact st.c5 (by first | decide | omega) | exact st.c6 (by first | decide | omega) | exact st.c7 (by first | decide | omega) | exact st.c8 (by first | decide | omega)), (by first | assumption | exact st.c0 (by first | decide | omega) | exact st.c1 (by first | decide | omega) | exact st.c2 (by first | decide | omega) | exact st.c3 (by first | decide | omega) | exact st.c4 (by first | decide | omega) | exact st.c5 (by first | decide | omega) | exact st.c6 (by first | decide | omega) | exact st.c7 (by first | decide | omega) | exact st.c8 (by first | decide | omega)), trivial⟩ ?_
    exact ⟨_, rfl, MPost.none e (.inr (by decide)) (.inr (by decide)) h rfl (st_ms st)⟩
  rcases hb : insideB P.sec o.sct o.cnt with _ | _
  · rw [span_out (by omega) hb] at e
    refine enter [.pointer (some ⟨bq, 0, none⟩), .agg #[.int .i64 o.kind, .int .i64 o.sct, .int .i64 o.cnt, .int .i64 o.cache, .slice o.dat.a o.dat.bs.length o.dat.c, .int .i64 o.after, .slice o.kp.a o.kp.bs.length o.kp.c, .int .i64 o.tear, .int .i64 o.tb]] Tryd.func15 rfl Tryd.ntmps15 rfl ?_
    show WC _ _ _ 292 [] [(0, .pointer (some ⟨bq, 0, none⟩)), (1, .agg #[.int .i64 o.kind, .int .i64 o.sct, .int .i64 o.cnt, .int .i64 o.cache, .slice o.dat.a o.dat.bs.length o.dat.c, .int .i64 o.after, .slice o.kp.a o.kp.bs.length o.kp.c, .int .i64 o.tear, .int .i64 o.tb])] _
    refine WC.seq fun K1396 hK1396 => ?_
    -- region 0
    refine WC.region ?_
    -- R0.0 3 := diskm.go:83 box
    first | refine WL.box (m := 9) (vs := [.int _ _, .int _ _, .int _ _, .int _ _, .slice _ _ _, .int _ _, .slice _ _ _, .int _ _, .int _ _]) st rfl rfl rfl rfl rfl rfl ?_ | refine WL.box (m := 9) (vs := [_, _, _, _, _, _, _, _, _]) st rfl rfl rfl rfl rfl rfl ?_ | refine WL.box st rfl rfl rfl rfl rfl rfl ?_
    intro b3 w st
    -- R0.1 4 := diskm.go:83 alloc
    refine WL.alloc (m := 2) st ty_zero37 rfl rfl rfl ?_
    intro b4 w st
    refine WL.fin hK1396 (fun _ _ h => h) ?_
    refine WC.seq fun K1397 hK1397 => ?_
    refine WC.seq fun K1398 hK1398 => ?_
    -- region 1
    refine WC.region ?_
    -- R1.0 16 := diskm.go:84 fieldAddr
    refine WL.v (by exact r_field ty_fld33_0 rfl) rfl rfl rfl ?_
    -- R1.1 17 := diskm.go:84 load
    refine WL.v (by exact r_load1 ty_one28 rfl (by first | assumption | exact st.c0 (by first | decide | omega) | exact st.c1 (by first | decide | omega) | exact st.c2 (by first | decide | omega) | exact st.c3 (by first | decide | omega) | exact st.c4 (by first | decide | omega) | exact st.c5 (by first | decide | omega) | exact st.c6 (by first | decide | omega) | exact st.c7 (by first | decide | omega) | exact st.c8 (by first | decide | omega))) rfl rfl rfl ?_
    refine WL.fin hK1398 (fun _ _ h => h) ?_
    refine WC.block ?_
    refine WC.seq fun K1399 hK1399 => ?_
    -- region 3
    refine WC.region ?_
    -- R3.0 20 := diskm.go:85 binOp
    refine WL.v (by first | exact r_eql rfl rfl (decide_eq_true (by omega)) | exact r_eql rfl rfl (decide_eq_false (by omega)) | exact r_eql rfl rfl rfl) rfl rfl rfl ?_
    -- R3.1 19 := diskm.go:85 assign
    refine WL.v (by first | exact r_assign (v := .bool _) rfl | exact r_assign rfl) rfl rfl rfl ?_
    refine WL.fin hK1399 (fun _ _ h => h) ?_
    refine WC.condF rfl rfl ?_
    refine WC.seq fun K1400 hK1400 => ?_
    -- region 13
    refine WC.region ?_
    -- R13.0 52 := diskm.go:98 binOp
    refine WL.v (by first | exact r_eql rfl rfl (decide_eq_true (by omega)) | exact r_eql rfl rfl (decide_eq_false (by omega)) | exact r_eql rfl rfl rfl) rfl rfl rfl ?_
    -- R13.1 51 := diskm.go:98 assign
    refine WL.v (by first | exact r_assign (v := .bool _) rfl | exact r_assign rfl) rfl rfl rfl ?_
    refine WL.fin hK1400 (fun _ _ h => h) ?_
    refine WC.condT rfl rfl ?_
    refine WC.seq fun K1401 hK1401 => ?_
    refine WC.seq fun K1402 hK1402 => ?_
    -- region 14
    refine WC.region ?_
    -- R14.0 53 := diskm.go:99 fieldAddr
    refine WL.v (by exact r_field ty_fld33_2 rfl) rfl rfl rfl ?_
    -- R14.1 54 := diskm.go:99 load
    refine WL.v (by exact r_load1 ty_one2 rfl (by first | assumption | exact st.c0 (by first | decide | omega) | exact st.c1 (by first | decide | omega) | exact st.c2 (by first | decide | omega) | exact st.c3 (by first | decide | omega) | exact st.c4 (by first | decide | omega) | exact st.c5 (by first | decide | omega) | exact st.c6 (by first | decide | omega) | exact st.c7 (by first | decide | omega) | exact st.c8 (by first | decide | omega))) rfl rfl rfl ?_
    -- R14.2 55 := diskm.go:99 binOp
    refine WL.v (by first | exact r_lss rfl rfl (decide_eq_true (by omega)) | exact r_lss rfl rfl (decide_eq_false (by omega)) | exact r_lss rfl rfl rfl) rfl rfl rfl ?_
    refine WL.fin hK1402 (fun _ _ h => h) ?_
    refine WC.condF rfl rfl ?_
    refine WC.skipF hK1401 (fun _ _ h => h) ?_
    refine WC.seq fun K1403 hK1403 => ?_
    refine WC.seq fun K1404 hK1404 => ?_
    -- region 16
    refine WC.region ?_
    -- R16.0 57 := diskm.go:102 move
    refine WL.v (by first | exact r_move (v := .pointer _) rfl | exact r_move rfl) rfl rfl rfl ?_
    -- R16.1 58 := diskm.go:102 fieldAddr
    refine WL.v (by exact r_field ty_fld33_1 rfl) rfl rfl rfl ?_
    -- R16.2 59 := diskm.go:102 load
    refine WL.v (by exact r_load1 ty_one2 rfl (by first | assumption | exact st.c0 (by first | decide | omega) | exact st.c1 (by first | decide | omega) | exact st.c2 (by first | decide | omega) | exact st.c3 (by first | decide | omega) | exact st.c4 (by first | decide | omega) | exact st.c5 (by first | decide | omega) | exact st.c6 (by first | decide | omega) | exact st.c7 (by first | decide | omega) | exact st.c8 (by first | decide | omega))) rfl rfl rfl ?_
    -- R16.3 60 := diskm.go:102 fieldAddr
    refine WL.v (by exact r_field ty_fld33_2 rfl) rfl rfl rfl ?_
    -- R16.4 61 := diskm.go:102 load
    refine WL.v (by exact r_load1 ty_one2 rfl (by first | assumption | exact st.c0 (by first | decide | omega) | exact st.c1 (by first | decide | omega) | exact st.c2 (by first | decide | omega) | exact st.c3 (by first | decide | omega) | exact st.c4 (by first | decide | omega) | exact st.c5 (by first | decide | omega) | exact st.c6 (by first | decide | omega) | exact st.c7 (by first | decide | omega) | exact st.c8 (by first | decide | omega))) rfl rfl rfl ?_
    -- R16.5 62 := diskm.go:102 call
    refine WL.call (r_call ty_call44 rfl) rfl rfl rfl (inside_ok (P := P) o.sct o.cnt ho.sct.2 hs2 st.front2) ?_
    rintro _ w ⟨e0, st⟩
    rw [hb] at e0
    subst e0
    have st := st.back2
    -- R16.6 63 := diskm.go:102 unOp
    refine WL.v (by first | exact r_notT rfl | exact r_notF rfl | exact r_not rfl) rfl rfl rfl ?_
    refine WL.fin hK1404 (fun _ _ h => h) ?_
    refine WC.condT rfl rfl ?_
    refine WC.seq fun K1405 hK1405 => ?_
    -- region 17
    refine WC.region ?_
    -- R17.0 64 := diskm.go:103 build
    refine WL.v (by exact r_build (ps := [(0, .int _ _)]) (vs := [_, _]) ty_pl37 ty_zero37 rfl (fill_step (pv := [_]) (cs' := [_, _]) rfl rfl rfl rfl (fill_nil))) rfl rfl rfl ?_
    -- R17.1 None := diskm.go:103 store
    first | refine WL.storeW (vs := [_, _]) st ty_agg37 rfl rfl rfl rfl rfl rfl ?_ | refine WL.storeL (vs := [_, _]) st ty_agg37 rfl rfl rfl rfl (by first | decide | omega) rfl rfl ?_ | refine WL.storeW (vs := [_, _]) st.front1 ty_agg37 rfl rfl rfl rfl rfl rfl ?_ | refine WL.storeL (vs := [_, _]) st.front1 ty_agg37 rfl rfl rfl rfl (by first | decide | omega) rfl rfl ?_ | refine WL.storeW (vs := [_, _]) st.front2 ty_agg37 rfl rfl rfl rfl rfl rfl ?_ | refine WL.storeL (vs := [_, _]) st.front2 ty_agg37 rfl rfl rfl rfl (by first | decide | omega) rfl rfl ?_ | refine WL.storeW (vs := [_, _]) st.front3 ty_agg37 rfl rfl rfl rfl rfl rfl ?_ | refine WL.storeL (vs := [_, _]) st.front3 ty_agg37 rfl rfl rfl rfl (by first | decide | omega) rfl rfl ?_ | refine WL.storeW (vs := [_, _]) st.front4 ty_agg37 rfl rfl rfl rfl rfl rfl ?_ | refine WL.storeL (vs := [_, _]) st.front4 ty_agg37 rfl rfl rfl rfl (by first | decide | omega) rfl rfl ?_ | refine WL.storeW (vs := [_, _]) st.front5 ty_agg37 rfl rfl rfl rfl rfl rfl ?_ | refine WL.storeL (vs := [_, _]) st.front5 ty_agg37 rfl rfl rfl rfl (by first | decide | omega) rfl rfl ?_ | refine WL.storeW (vs := [_, _]) st.front6 ty_agg37 rfl rfl rfl rfl rfl rfl ?_ | refine WL.storeL (vs := [_, _]) st.front6 ty_agg37 rfl rfl rfl rfl (by first | decide | omega) rfl rfl ?_ | refine WL.storeW (vs := [_, _]) st.front7 ty_agg37 rfl rfl rfl rfl rfl rfl ?_ | refine WL.storeL (vs := [_, _]) st.front7 ty_agg37 rfl rfl rfl rfl (by first | decide | omega) rfl rfl ?_ | refine WL.storeW (vs := [_, _]) st.front8 ty_agg37 rfl rfl rfl rfl rfl rfl ?_ | refine WL.storeL (vs := [_, _]) st.front8 ty_agg37 rfl rfl rfl rfl (by first | decide | omega) rfl rfl ?_
    intro w st
    refine WL.fin hK1405 (fun _ _ h => h) ?_
    refine WC.retC (vs := [_, _]) Tryd.results15 (fun _ _ h => h) rfl ty_agg37 rfl ⟨(by first | assumption | exact st.c0 (by first | decide | omega) | exact st.c1 (by first | decide | omega) | exact st.c2 (by first | decide | omega) | exact st.c3 (by first | decide | omega) | exact st.c4 (by first | decide | omega) | exact st.c5 (by first | decide | omega) | exact st.c6 (by first | decide | omega) | exact st.c7 (by first | decide | omega) | exact st.c8 (by first | decide | omega)), (by first | assumption | exact st.c0 (by first | decide | omega) | exact st.c1 (by first | decide | omega) | exact st.c2 (by first | decide | omega) | exact st.c3 (by first | decide | omega) | exact st.c4 (by first | decide | omega) | exact st.c5 (by first | decide | omega) | exact st.c6 (by first | decide | omega) | exact st.c7 (by first | decide | omega) | exact st.c8 (by first | decide | omega)), trivial⟩ ?_
    exact ⟨_, rfl, MPost.none e (.inr (by decide)) (.inr (by decide)) h rfl (st_ms st)⟩
  obtain ⟨hb1, hb2, hb3, hb4⟩ := span_in (by omega) hb
  rw [hb2] at e
  obtain ⟨n, hn⟩ : ∃ n, n = o.cnt.toNat := ⟨_, rfl⟩
  obtain ⟨sn, hsn⟩ : ∃ sn, sn = o.sct.toNat := ⟨_, rfl⟩
  have hcn : o.cnt = (n : Int) := by omega
  have hsc : o.sct = (sn : Int) := by omega
  rw [← hn] at hb1 hb4
  obtain ⟨F, hF⟩ : ∃ F : Nat → Int, F = fun j => P.pc (sn + j / 512) (j % 512) := ⟨_, rfl⟩
  have hrd : datB P o = bytesOf (n * 512) F := by
    have e2 : rdP P o = some (n * 512, F) := by unfold rdP; rw [if_neg (fun h => by have := h.1; omega), e, if_pos ⟨hk, rfl⟩, hb1]; rw [hF, hsn]
    unfold datB; rw [e2]
  refine enter [.pointer (some ⟨bq, 0, none⟩), .agg #[.int .i64 o.kind, .int .i64 o.sct, .int .i64 o.cnt, .int .i64 o.cache, .slice o.dat.a o.dat.bs.length o.dat.c, .int .i64 o.after, .slice o.kp.a o.kp.bs.length o.kp.c, .int .i64 o.tear, .int .i64 o.tb]] Tryd.func15 rfl Tryd.ntmps15 rfl ?_
  show WC _ _ _ 292 [] [(0, .pointer (some ⟨bq, 0, none⟩)), (1, .agg #[.int .i64 o.kind, .int .i64 o.sct, .int .i64 o.cnt, .int .i64 o.cache, .slice o.dat.a o.dat.bs.length o.dat.c, .int .i64 o.after, .slice o.kp.a o.kp.bs.length o.kp.c, .int .i64 o.tear, .int .i64 o.tb])] _
  refine WC.seq fun K1406 hK1406 => ?_
  -- region 0
  refine WC.region ?_
  -- R0.0 3 := diskm.go:83 box
  first | refine WL.box (m := 9) (vs := [.int _ _, .int _ _, .int _ _, .int _ _, .slice _ _ _, .int _ _, .slice _ _ _, .int _ _, .int _ _]) st rfl rfl rfl rfl rfl rfl ?_ | refine WL.box (m := 9) (vs := [_, _, _, _, _, _, _, _, _]) st rfl rfl rfl rfl rfl rfl ?_ | refine WL.box st rfl rfl rfl rfl rfl rfl ?_
  intro b3 w st
  -- R0.1 4 := diskm.go:83 alloc
  refine WL.alloc (m := 2) st ty_zero37 rfl rfl rfl ?_
  intro b4 w st
  refine WL.fin hK1406 (fun _ _ h => h) ?_
  refine WC.seq fun K1407 hK1407 => ?_
  refine WC.seq fun K1408 hK1408 => ?_
  -- region 1
  refine WC.region ?_
  -- R1.0 16 := diskm.go:84 fieldAddr
  refine WL.v (by exact r_field ty_fld33_0 rfl) rfl rfl rfl ?_
  -- R1.1 17 := diskm.go:84 load
  refine WL.v (by exact r_load1 ty_one28 rfl (by first | assumption | exact st.c0 (by first | decide | omega) | exact st.c1 (by first | decide | omega) | exact st.c2 (by first | decide | omega) | exact st.c3 (by first | decide | omega) | exact st.c4 (by first | decide | omega) | exact st.c5 (by first | decide | omega) | exact st.c6 (by first | decide | omega) | exact st.c7 (by first | decide | omega) | exact st.c8 (by first | decide | omega))) rfl rfl rfl ?_
  refine WL.fin hK1408 (fun _ _ h => h) ?_
  refine WC.block ?_
  refine WC.seq fun K1409 hK1409 => ?_
  -- region 3
  refine WC.region ?_
  -- R3.0 20 := diskm.go:85 binOp
  refine WL.v (by first | exact r_eql rfl rfl (decide_eq_true (by omega)) | exact r_eql rfl rfl (decide_eq_false (by omega)) | exact r_eql rfl rfl rfl) rfl rfl rfl ?_
  -- R3.1 19 := diskm.go:85 assign
  refine WL.v (by first | exact r_assign (v := .bool _) rfl | exact r_assign rfl) rfl rfl rfl ?_
  refine WL.fin hK1409 (fun _ _ h => h) ?_
  refine WC.condF rfl rfl ?_
  refine WC.seq fun K1410 hK1410 => ?_
  -- region 13
  refine WC.region ?_
  -- R13.0 52 := diskm.go:98 binOp
  refine WL.v (by first | exact r_eql rfl rfl (decide_eq_true (by omega)) | exact r_eql rfl rfl (decide_eq_false (by omega)) | exact r_eql rfl rfl rfl) rfl rfl rfl ?_
  -- R13.1 51 := diskm.go:98 assign
  refine WL.v (by first | exact r_assign (v := .bool _) rfl | exact r_assign rfl) rfl rfl rfl ?_
  refine WL.fin hK1410 (fun _ _ h => h) ?_
  refine WC.condT rfl rfl ?_
  refine WC.seq fun K1411 hK1411 => ?_
  refine WC.seq fun K1412 hK1412 => ?_
  -- region 14
  refine WC.region ?_
  -- R14.0 53 := diskm.go:99 fieldAddr
  refine WL.v (by exact r_field ty_fld33_2 rfl) rfl rfl rfl ?_
  -- R14.1 54 := diskm.go:99 load
  refine WL.v (by exact r_load1 ty_one2 rfl (by first | assumption | exact st.c0 (by first | decide | omega) | exact st.c1 (by first | decide | omega) | exact st.c2 (by first | decide | omega) | exact st.c3 (by first | decide | omega) | exact st.c4 (by first | decide | omega) | exact st.c5 (by first | decide | omega) | exact st.c6 (by first | decide | omega) | exact st.c7 (by first | decide | omega) | exact st.c8 (by first | decide | omega))) rfl rfl rfl ?_
  -- R14.2 55 := diskm.go:99 binOp
  refine WL.v (by first | exact r_lss rfl rfl (decide_eq_true (by omega)) | exact r_lss rfl rfl (decide_eq_false (by omega)) | exact r_lss rfl rfl rfl) rfl rfl rfl ?_
  refine WL.fin hK1412 (fun _ _ h => h) ?_
  refine WC.condF rfl rfl ?_
  refine WC.skipF hK1411 (fun _ _ h => h) ?_
  refine WC.seq fun K1413 hK1413 => ?_
  refine WC.seq fun K1414 hK1414 => ?_
  -- region 16
  refine WC.region ?_
  -- R16.0 57 := diskm.go:102 move
  refine WL.v (by first | exact r_move (v := .pointer _) rfl | exact r_move rfl) rfl rfl rfl ?_
  -- R16.1 58 := diskm.go:102 fieldAddr
  refine WL.v (by exact r_field ty_fld33_1 rfl) rfl rfl rfl ?_
  -- R16.2 59 := diskm.go:102 load
  refine WL.v (by exact r_load1 ty_one2 rfl (by first | assumption | exact st.c0 (by first | decide | omega) | exact st.c1 (by first | decide | omega) | exact st.c2 (by first | decide | omega) | exact st.c3 (by first | decide | omega) | exact st.c4 (by first | decide | omega) | exact st.c5 (by first | decide | omega) | exact st.c6 (by first | decide | omega) | exact st.c7 (by first | decide | omega) | exact st.c8 (by first | decide | omega))) rfl rfl rfl ?_
  -- R16.3 60 := diskm.go:102 fieldAddr
  refine WL.v (by exact r_field ty_fld33_2 rfl) rfl rfl rfl ?_
  -- R16.4 61 := diskm.go:102 load
  refine WL.v (by exact r_load1 ty_one2 rfl (by first | assumption | exact st.c0 (by first | decide | omega) | exact st.c1 (by first | decide | omega) | exact st.c2 (by first | decide | omega) | exact st.c3 (by first | decide | omega) | exact st.c4 (by first | decide | omega) | exact st.c5 (by first | decide | omega) | exact st.c6 (by first | decide | omega) | exact st.c7 (by first | decide | omega) | exact st.c8 (by first | decide | omega))) rfl rfl rfl ?_
  -- R16.5 62 := diskm.go:102 call
  refine WL.call (r_call ty_call44 rfl) rfl rfl rfl (inside_ok (P := P) o.sct o.cnt ho.sct.2 hs2 st.front2) ?_
  rintro _ w ⟨e0, st⟩
  rw [hb] at e0
  subst e0
  have st := st.back2
  -- R16.6 63 := diskm.go:102 unOp
  refine WL.v (by first | exact r_notT rfl | exact r_notF rfl | exact r_not rfl) rfl rfl rfl ?_
  refine WL.fin hK1414 (fun _ _ h => h) ?_
  refine WC.condF rfl rfl ?_
  refine WC.skipF hK1413 (fun _ _ h => h) ?_
  refine WC.seq fun K1415 hK1415 => ?_
  -- region 18
  refine WC.region ?_
  -- R18.0 7 := diskm.go:105 assign
  refine WL.v (by first | exact r_assign (v := .slice _ _ _) rfl | exact r_assign rfl) rfl rfl rfl ?_
  refine WL.fin hK1415 (fun _ _ h => h) ?_
  refine WC.seq fun K1416 hK1416 => ?_
  refine WC.seq fun K1417 hK1417 => ?_
  -- region 19
  refine WC.region ?_
  -- R19.0 8 := diskm.go:106 assign
  refine WL.v (by first | exact r_assign (v := .int _ _) rfl | exact r_assign rfl) rfl rfl rfl ?_
  refine WL.fin hK1417 (fun _ _ h => h) ?_
  refine WC.block ?_
  refine WC.loop (ι := Nat × Value × List HI) (fun y => [(0, .pointer (some ⟨bq, 0, none⟩)), (3, .pointer (some ⟨b3, 0, none⟩)), (4, .pointer (some ⟨b4, 0, none⟩)), (7, y.2.1), (8, .int .i64 (y.1 : Nat))])
    (fun y w' => y.1 ≤ n ∧ BR 5 y.2.1 (bytesOf (y.1 * 512) F) y.2.2 ∧ S0 w0 ((b4, Row 37 2 (nth [.int .i64 0, .slice none 0 0])) :: opI b3 o :: mdI bq z.bm P z.wv (.slice z.sv.a z.sv.bs.length z.sv.c) z.t z.tb :: mpI z.bm z.NS :: (y.2.2 ++ (z.XW ++ (z.K ++ l)))) w') (fun y => n - y.1) (0, .slice none 0 0, []) ⟨Nat.zero_le _, by show BR _ _ (bytesOf (0 * 512) F) _; exact BR.nil _, st⟩ ?_ ?_
  · skip
    repeat (first | exact sub_nil _ | refine sub_cons rfl rfl ?_)
  rintro ⟨j, v, XI⟩ w ⟨hj, hbr, st⟩ K1 hK1
  dsimp only at hj hbr st ⊢
  by_cases hjl : ¬ j < n
  · obtain ⟨va, vc, rfl⟩ := (br_sees (w0 := w0) hbr).sl
    obtain rfl : n = j := by omega
    refine WC.seq fun K1418 hK1418 => ?_
    refine WC.seq fun K1419 hK1419 => ?_
    -- region 20
    refine WC.region ?_
    -- R20.0 65 := diskm.go:106 move
    refine WL.v (by first | exact r_move (v := .int _ _) rfl | exact r_move rfl) rfl rfl rfl ?_
    -- R20.1 66 := diskm.go:106 fieldAddr
    refine WL.v (by exact r_field ty_fld33_2 rfl) rfl rfl rfl ?_
    -- R20.2 67 := diskm.go:106 load
    refine WL.v (by exact r_load1 (v := .int .i64 (n : Nat)) ty_one2 rfl (by rw [← hcn]; exact st.c1 (by decide))) rfl rfl rfl ?_
    -- R20.3 68 := diskm.go:106 binOp
    refine WL.v (by first | exact r_lss rfl rfl (decide_eq_true (by omega)) | exact r_lss rfl rfl (decide_eq_false (by omega)) | exact r_lss rfl rfl rfl) rfl rfl rfl ?_
    refine WL.fin hK1419 (fun _ _ h => h) ?_
    refine WC.condF rfl rfl ?_
    refine WC.exitF hK1416 (fun _ _ h => h) ?_
    refine WC.seq fun K1420 hK1420 => ?_
    -- region 23
    refine WC.region ?_
    -- R23.0 79 := diskm.go:109 move
    refine WL.v (by first | exact r_move (v := .slice _ _ _) rfl | exact r_move rfl) rfl rfl rfl ?_
    -- R23.1 80 := diskm.go:109 build
    refine WL.v (by exact r_build (ps := [(1, .slice _ _ _)]) (vs := [_, _]) ty_pl37 ty_zero37 rfl (fill_step (pv := [_]) (cs' := [_, _]) rfl rfl rfl rfl (fill_nil))) rfl rfl rfl ?_
    -- R23.2 None := diskm.go:109 store
    first | refine WL.storeW (vs := [_, _]) st ty_agg37 rfl rfl rfl rfl rfl rfl ?_ | refine WL.storeL (vs := [_, _]) st ty_agg37 rfl rfl rfl rfl (by first | decide | omega) rfl rfl ?_ | refine WL.storeW (vs := [_, _]) st.front1 ty_agg37 rfl rfl rfl rfl rfl rfl ?_ | refine WL.storeL (vs := [_, _]) st.front1 ty_agg37 rfl rfl rfl rfl (by first | decide | omega) rfl rfl ?_ | refine WL.storeW (vs := [_, _]) st.front2 ty_agg37 rfl rfl rfl rfl rfl rfl ?_ | refine WL.storeL (vs := [_, _]) st.front2 ty_agg37 rfl rfl rfl rfl (by first | decide | omega) rfl rfl ?_ | refine WL.storeW (vs := [_, _]) st.front3 ty_agg37 rfl rfl rfl rfl rfl rfl ?_ | refine WL.storeL (vs := [_, _]) st.front3 ty_agg37 rfl rfl rfl rfl (by first | decide | omega) rfl rfl ?_ | refine WL.storeW (vs := [_, _]) st.front4 ty_agg37 rfl rfl rfl rfl rfl rfl ?_ | refine WL.storeL (vs := [_, _]) st.front4 ty_agg37 rfl rfl rfl rfl (by first | decide | omega) rfl rfl ?_ | refine WL.storeW (vs := [_, _]) st.front5 ty_agg37 rfl rfl rfl rfl rfl rfl ?_ | refine WL.storeL (vs := [_, _]) st.front5 ty_agg37 rfl rfl rfl rfl (by first | decide | omega) rfl rfl ?_ | refine WL.storeW (vs := [_, _]) st.front6 ty_agg37 rfl rfl rfl rfl rfl rfl ?_ | refine WL.storeL (vs := [_, _]) st.front6 ty_agg37 rfl rfl rfl rfl (by first | decide | omega) rfl rfl ?_ | refine WL.storeW (vs := [_, _]) st.front7 ty_agg37 rfl rfl rfl rfl rfl rfl ?_ | refine WL.storeL (vs := [_, _]) st.front7 ty_agg37 rfl rfl rfl rfl (by first | decide | omega) rfl rfl ?_ | refine WL.storeW (vs := [_, _]) st.front8 ty_agg37 rfl rfl rfl rfl rfl rfl ?_ | refine WL.storeL (vs := [_, _]) st.front8 ty_agg37 rfl rfl rfl rfl (by first | decide | omega) rfl rfl ?_
    intro w st
    refine WL.fin hK1420 (fun _ _ h => h) ?_
    refine WC.retC (vs := [_, _]) Tryd.results15 (fun _ _ h => h) rfl ty_agg37 rfl ⟨(by first | assumption | exact st.c0 (by first | decide | omega) | exact st.c1 (by first | decide | omega) | exact st.c2 (by first | decide | omega) | exact st.c3 (by first | decide | omega) | exact st.c4 (by first | decide | omega) | exact st.c5 (by first | decide | omega) | exact st.c6 (by first | decide | omega) | exact st.c7 (by first | decide | omega) | exact st.c8 (by first | decide | omega)), (by first | assumption | exact st.c0 (by first | decide | omega) | exact st.c1 (by first | decide | omega) | exact st.c2 (by first | decide | omega) | exact st.c3 (by first | decide | omega) | exact st.c4 (by first | decide | omega) | exact st.c5 (by first | decide | omega) | exact st.c6 (by first | decide | omega) | exact st.c7 (by first | decide | omega) | exact st.c8 (by first | decide | omega)), trivial⟩ ?_
    refine ⟨_, rfl, { z with K := XI ++ z.K }, _, by rw [e]; exact ⟨h.bk.more (List.subset_append_right _ _), h.own, h.svo, h.svl, h.svr, h.arm⟩, by rw [e]; rfl, by rw [hrd]; exact (br_sees hbr).mono (List.subset_append_left _ _), ?_⟩
    rw [e]; exact st_ap3 st
  have hjl : j < n := by omega
  have hsj : sn + j < P.sec := by omega
  have hrg : ∀ k, 0 ≤ P.pc (sn + j) k ∧ P.pc (sn + j) k < 256 := fun k => hp.pcr _ _
  refine WC.seq fun K1421 hK1421 => ?_
  refine WC.seq fun K1422 hK1422 => ?_
  -- region 20
  refine WC.region ?_
  -- R20.0 65 := diskm.go:106 move
  refine WL.v (by first | exact r_move (v := .int _ _) rfl | exact r_move rfl) rfl rfl rfl ?_
  -- R20.1 66 := diskm.go:106 fieldAddr
  refine WL.v (by exact r_field ty_fld33_2 rfl) rfl rfl rfl ?_
  -- R20.2 67 := diskm.go:106 load
  refine WL.v (by exact r_load1 (v := .int .i64 (n : Nat)) ty_one2 rfl (by rw [← hcn]; exact st.c1 (by decide))) rfl rfl rfl ?_
  -- R20.3 68 := diskm.go:106 binOp
  refine WL.v (by first | exact r_lss rfl rfl (decide_eq_true (by omega)) | exact r_lss rfl rfl (decide_eq_false (by omega)) | exact r_lss rfl rfl rfl) rfl rfl rfl ?_
  refine WL.fin hK1422 (fun _ _ h => h) ?_
  refine WC.condT rfl rfl ?_
  refine WC.skipF hK1421 (fun _ _ h => h) ?_
  refine WC.seq fun K1423 hK1423 => ?_
  refine WC.block ?_
  -- region 22
  refine WC.region ?_
  -- R22.0 71 := diskm.go:107 move
  refine WL.v (by first | exact r_move (v := .slice _ _ _) rfl | exact r_move rfl) rfl rfl rfl ?_
  -- R22.1 72 := diskm.go:107 move
  refine WL.v (by first | exact r_move (v := .pointer _) rfl | exact r_move rfl) rfl rfl rfl ?_
  -- R22.2 73 := diskm.go:107 fieldAddr
  refine WL.v (by exact r_field ty_fld33_1 rfl) rfl rfl rfl ?_
  -- R22.3 74 := diskm.go:107 load
  refine WL.v (by exact r_load1 (v := .int .i64 (sn : Nat)) ty_one2 rfl (by rw [← hsc]; exact st.c1 (by decide))) rfl rfl rfl ?_
  -- R22.4 75 := diskm.go:107 move
  refine WL.v (by first | exact r_move (v := .int _ _) rfl | exact r_move rfl) rfl rfl rfl ?_
  -- R22.5 76 := diskm.go:107 binOp
  refine WL.v (by exact r_add (r := ((sn + j : Nat) : Int)) rfl rfl ((wi64 (by omega) (by omega)).trans (by omega))) rfl rfl rfl ?_
  -- R22.6 77 := diskm.go:107 call
  refine WL.call (r_call ty_call24 rfl) rfl rfl rfl (onPlatter_ok h.bk hsj hs2 (fun x hx => List.mem_cons_of_mem _ (List.mem_cons_of_mem _ (List.mem_append_right _ (List.mem_append_right _ (List.mem_append_left _ hx))))) (st.perm (List.perm_append_comm_assoc [_, _] [_, _] _))) ?_
  rintro _ w ⟨b, rfl, st⟩
  -- R22.7 78 := diskm.go:107 call
  obtain ⟨sp, q1, q2, q3, q4⟩ := Sees.img (w0 := w0) (bb := b) (n := 512) hrg (by omega)
  refine WL.appW (s := sp) hbr q3 (q4 _ _ (fun x hx => by rw [List.mem_singleton.1 hx]; exact List.mem_cons_self) st) (st_ap1 st) ty_mk29 ty_sl29 ty_zero5 rfl rfl q1.symm (by rw [q2, bytesOf_len, bytesOf_len]; omega) (by rw [q2, bytesOf_len, bytesOf_len]; omega) rfl rfl rfl ?_
  intro v' XI' w hbr st
  have st := st_ap2 st
  -- R22.8 7 := diskm.go:107 assign
  refine WL.v (by first | exact r_assign (v := .slice _ _ _) rfl | exact r_assign rfl) rfl rfl rfl ?_
  refine WL.fin hK1423 (fun _ _ h => h) ?_
  -- region 21
  refine WC.region ?_
  -- R21.0 69 := diskm.go:106 move
  refine WL.v (by first | exact r_move (v := .int _ _) rfl | exact r_move rfl) rfl rfl rfl ?_
  -- R21.1 70 := diskm.go:106 binOp
  refine WL.v (by exact r_add (r := ((j + 1 : Nat) : Int)) rfl rfl ((wi64 (by omega) (by omega)).trans (by omega))) rfl rfl rfl ?_
  -- R21.2 8 := diskm.go:106 assign
  refine WL.v (by first | exact r_assign (v := .int _ _) rfl | exact r_assign rfl) rfl rfl rfl ?_
  have eB : bytesOf (j * 512) F ++ sp.bs = bytesOf ((j + 1) * 512) F := by
    rw [q2, Nat.succ_mul, ← bytesOf_app]
    congr 1
    exact bytesOf_congr fun k hk => by rw [hF]; exact (fp (P.pc) hk).symm
  rw [eB] at hbr
  refine WL.next hK1 (fun _ _ h => h) (j + 1, v', XI') ⟨by show j + 1 ≤ n; omega, hbr, st⟩ (by show n - (j + 1) < n - j; omega) (by repeat (first | exact sub_nil _ | refine sub_cons rfl rfl ?_))

set_option maxHeartbeats 16000000 in
theorem stepM_read {o : OP} {z : MZ} (hp : PWf P) (h : MI w0 P z) (ho : o.ok w0) (hk : o.kind = 2) (hd : P.down = false) (st : S0 w0 (mds bq P z l) w) :
    Calls Tryd.prog 15 #[.pointer (some ⟨bq, 0, none⟩), o.v] w (Ret (MPost w0 bq l P o)) := by
  have hs2 := hp.s2
  have e : stepP P o = (P, spanC P.sec o.sct (bufC P.sec o.cnt * 512)) := by unfold stepP; rw [if_neg (by omega), if_neg (by omega), if_pos hk]; unfold readC; rw [hd]; rfl
  unfold OP.v
  by_cases hc1 : o.cnt < 1
  · rw [span_bad hc1] at e
    refine enter [.pointer (some ⟨bq, 0, none⟩), .agg #[.int .i64 o.kind, .int .i64 o.sct, .int .i64 o.cnt, .int .i64 o.cache, .slice o.dat.a o.dat.bs.length o.dat.c, .int .i64 o.after, .slice o.kp.a o.kp.bs.length o.kp.c, .int .i64 o.tear, .int .i64 o.tb]] Tryd.func15 rfl Tryd.ntmps15 rfl ?_
    show WC _ _ _ 292 [] [(0, .pointer (some ⟨bq, 0, none⟩)), (1, .agg #[.int .i64 o.kind, .int .i64 o.sct, .int .i64 o.cnt, .int .i64 o.cache, .slice o.dat.a o.dat.bs.length o.dat.c, .int .i64 o.after, .slice o.kp.a o.kp.bs.length o.kp.c, .int .i64 o.tear, .int .i64 o.tb])] _
    refine WC.seq fun K1424 hK1424 => ?_
    -- region 0
    refine WC.region ?_
    -- R0.0 3 := diskm.go:83 box
    first | refine WL.box (m := 9) (vs := [.int _ _, .int _ _, .int _ _, .int _ _, .slice _ _ _, .int _ _, .slice _ _ _, .int _ _, .int _ _]) st rfl rfl rfl rfl rfl rfl ?_ | refine WL.box (m := 9) (vs := [_, _, _, _, _, _, _, _, _]) st rfl rfl rfl rfl rfl rfl ?_ | refine WL.box st rfl rfl rfl rfl rfl rfl ?_
    intro b3 w st
    -- R0.1 4 := diskm.go:83 alloc
    refine WL.alloc (m := 2) st ty_zero37 rfl rfl rfl ?_
    intro b4 w st
    refine WL.fin hK1424 (fun _ _ h => h) ?_
    refine WC.seq fun K1425 hK1425 => ?_
    refine WC.seq fun K1426 hK1426 => ?_
    -- region 1
    refine WC.region ?_
    -- R1.0 16 := diskm.go:84 fieldAddr
    refine WL.v (by exact r_field ty_fld33_0 rfl) rfl rfl rfl ?_
    -- R1.1 17 := diskm.go:84 load
    refine WL.v (by exact r_load1 ty_one28 rfl (by first | assumption | exact st.c0 (by first | decide | omega) | exact st.c1 (by first | decide | omega) | exact st.c2 (by first | decide | omega) | exact st.c3 (by first | decide | omega) | exact st.c4 (by first | decide | omega) | exact st.c5 (by first | decide | omega) | exact st.c6 (by first | decide | omega) | exact st.c7 (by first | decide | omega) | exact st.c8 (by first | decide | omega))) rfl rfl rfl ?_
    refine WL.fin hK1426 (fun _ _ h => h) ?_
    refine WC.block ?_
    refine WC.seq fun K1427 hK1427 => ?_
    -- region 3
    refine WC.region ?_
    -- R3.0 20 := diskm.go:85 binOp
    refine WL.v (by first | exact r_eql rfl rfl (decide_eq_true (by omega)) | exact r_eql rfl rfl (decide_eq_false (by omega)) | exact r_eql rfl rfl rfl) rfl rfl rfl ?_
    -- R3.1 19 := diskm.go:85 assign
    refine WL.v (by first | exact r_assign (v := .bool _) rfl | exact r_assign rfl) rfl rfl rfl ?_
    refine WL.fin hK1427 (fun _ _ h => h) ?_
    refine WC.condF rfl rfl ?_
    refine WC.seq fun K1428 hK1428 => ?_
    -- region 13
    refine WC.region ?_
    -- R13.0 52 := diskm.go:98 binOp
    refine WL.v (by first | exact r_eql rfl rfl (decide_eq_true (by omega)) | exact r_eql rfl rfl (decide_eq_false (by omega)) | exact r_eql rfl rfl rfl) rfl rfl rfl ?_
    -- R13.1 51 := diskm.go:98 assign
    refine WL.v (by first | exact r_assign (v := .bool _) rfl | exact r_assign rfl) rfl rfl rfl ?_
    refine WL.fin hK1428 (fun _ _ h => h) ?_
    refine WC.condF rfl rfl ?_
    refine WC.seq fun K1429 hK1429 => ?_
    -- region 24
    refine WC.region ?_
    -- R24.0 82 := diskm.go:110 binOp
    refine WL.v (by first | exact r_eql rfl rfl (decide_eq_true (by omega)) | exact r_eql rfl rfl (decide_eq_false (by omega)) | exact r_eql rfl rfl rfl) rfl rfl rfl ?_
    -- R24.1 81 := diskm.go:110 assign
    refine WL.v (by first | exact r_assign (v := .bool _) rfl | exact r_assign rfl) rfl rfl rfl ?_
    refine WL.fin hK1429 (fun _ _ h => h) ?_
    refine WC.condF rfl rfl ?_
    refine WC.seq fun K1430 hK1430 => ?_
    refine WC.seq fun K1431 hK1431 => ?_
    -- region 29
    refine WC.region ?_
    -- R29.0 94 := diskm.go:116 binOp
    refine WL.v (by first | exact r_eql rfl rfl (decide_eq_true (by omega)) | exact r_eql rfl rfl (decide_eq_false (by omega)) | exact r_eql rfl rfl rfl) rfl rfl rfl ?_
    -- R29.1 93 := diskm.go:116 assign
    refine WL.v (by first | exact r_assign (v := .bool _) rfl | exact r_assign rfl) rfl rfl rfl ?_
    refine WL.fin hK1431 (fun _ _ h => h) ?_
    refine WC.condF rfl rfl ?_
    refine WC.seq fun K1432 hK1432 => ?_
    -- region 30
    refine WC.region ?_
    -- R30.0 95 := diskm.go:116 binOp
    refine WL.v (by first | exact r_eql rfl rfl (decide_eq_true (by omega)) | exact r_eql rfl rfl (decide_eq_false (by omega)) | exact r_eql rfl rfl rfl) rfl rfl rfl ?_
    -- R30.1 93 := diskm.go:116 assign
    refine WL.v (by first | exact r_assign (v := .bool _) rfl | exact r_assign rfl) rfl rfl rfl ?_
    refine WL.fin hK1432 (fun _ _ h => h) ?_
    refine WC.condT rfl rfl ?_
    refine WC.skipF hK1430 (fun _ _ h => h) ?_
    refine WC.condT rfl rfl ?_
    refine WC.seq fun K1433 hK1433 => ?_
    -- region 35
    refine WC.region ?_
    -- R35.0 100 := diskm.go:117 move
    refine WL.v (by first | exact r_move (v := .pointer _) rfl | exact r_move rfl) rfl rfl rfl ?_
    -- R35.1 101 := diskm.go:117 nilCheck
    refine WL.v (by exact r_nilCheck rfl) rfl rfl rfl ?_
    -- R35.2 102 := diskm.go:117 fieldAddr
    refine WL.v (by exact r_field ty_fld48_4 rfl) rfl rfl rfl ?_
    -- R35.3 103 := diskm.go:117 load
    refine WL.v (by exact r_load1 (v := .bool false) ty_one4 rfl (by rw [← hd]; exact st.c2 (by decide))) rfl rfl rfl ?_
    refine WL.fin hK1433 (fun _ _ h => h) ?_
    refine WC.condF rfl rfl ?_
    refine WC.skipF hK1425 (fun _ _ h => h) ?_
    refine WC.seq fun K1434 hK1434 => ?_
    refine WC.seq fun K1435 hK1435 => ?_
    -- region 37
    refine WC.region ?_
    -- R37.0 105 := diskm.go:123 fieldAddr
    refine WL.v (by exact r_field ty_fld33_0 rfl) rfl rfl rfl ?_
    -- R37.1 106 := diskm.go:123 load
    refine WL.v (by exact r_load1 ty_one28 rfl (by first | assumption | exact st.c0 (by first | decide | omega) | exact st.c1 (by first | decide | omega) | exact st.c2 (by first | decide | omega) | exact st.c3 (by first | decide | omega) | exact st.c4 (by first | decide | omega) | exact st.c5 (by first | decide | omega) | exact st.c6 (by first | decide | omega) | exact st.c7 (by first | decide | omega) | exact st.c8 (by first | decide | omega))) rfl rfl rfl ?_
    refine WL.fin hK1435 (fun _ _ h => h) ?_
    refine WC.block ?_
    refine WC.seq fun K1436 hK1436 => ?_
    -- region 38
    refine WC.region ?_
    -- R38.0 108 := diskm.go:124 binOp
    refine WL.v (by first | exact r_eql rfl rfl (decide_eq_true (by omega)) | exact r_eql rfl rfl (decide_eq_false (by omega)) | exact r_eql rfl rfl rfl) rfl rfl rfl ?_
    -- R38.1 107 := diskm.go:124 assign
    refine WL.v (by first | exact r_assign (v := .bool _) rfl | exact r_assign rfl) rfl rfl rfl ?_
    refine WL.fin hK1436 (fun _ _ h => h) ?_
    refine WC.condF rfl rfl ?_
    refine WC.seq fun K1437 hK1437 => ?_
    -- region 57
    refine WC.region ?_
    -- R57.0 211 := diskm.go:147 binOp
    refine WL.v (by first | exact r_eql rfl rfl (decide_eq_true (by omega)) | exact r_eql rfl rfl (decide_eq_false (by omega)) | exact r_eql rfl rfl rfl) rfl rfl rfl ?_
    -- R57.1 210 := diskm.go:147 assign
    refine WL.v (by first | exact r_assign (v := .bool _) rfl | exact r_assign rfl) rfl rfl rfl ?_
    refine WL.fin hK1437 (fun _ _ h => h) ?_
    refine WC.condT rfl rfl ?_
    refine WC.seq fun K1438 hK1438 => ?_
    refine WC.seq fun K1439 hK1439 => ?_
    -- region 58
    refine WC.region ?_
    -- R58.0 212 := diskm.go:148 fieldAddr
    refine WL.v (by exact r_field ty_fld33_2 rfl) rfl rfl rfl ?_
    -- R58.1 213 := diskm.go:148 load
    refine WL.v (by exact r_load1 ty_one2 rfl (by first | assumption | exact st.c0 (by first | decide | omega) | exact st.c1 (by first | decide | omega) | exact st.c2 (by first | decide | omega) | exact st.c3 (by first | decide | omega) | exact st.c4 (by first | decide | omega) | exact st.c5 (by first | decide | omega) | exact st.c6 (by first | decide | omega) | exact st.c7 (by first | decide | omega) | exact st.c8 (by first | decide | omega))) rfl rfl rfl ?_
    -- R58.2 214 := diskm.go:148 binOp
    refine WL.v (by first | exact r_lss rfl rfl (decide_eq_true (by omega)) | exact r_lss rfl rfl (decide_eq_false (by omega)) | exact r_lss rfl rfl rfl) rfl rfl rfl ?_
    refine WL.fin hK1439 (fun _ _ h => h) ?_
    refine WC.condT rfl rfl ?_
    refine WC.seq fun K1440 hK1440 => ?_
    -- region 59
    refine WC.region ?_
    -- R59.0 215 := diskm.go:149 build
    refine WL.v (by exact r_build (ps := [(0, .int _ _)]) (vs := [_, _]) ty_pl37 ty_zero37 rfl (fill_step (pv := [_]) (cs' := [_, _]) rfl rfl rfl rfl (fill_nil))) rfl rfl rfl ?_
    -- R59.1 None := diskm.go:149 store
    first | refine WL.storeW (vs := [_, _]) st ty_agg37 rfl rfl rfl rfl rfl rfl ?_ | refine WL.storeL (vs := [_, _]) st ty_agg37 rfl rfl rfl rfl (by first | decide | omega) rfl rfl ?_ | refine WL.storeW (vs := [_, _]) st.front1 ty_agg37 rfl rfl rfl rfl rfl rfl ?_ | refine WL.storeL (vs := [_, _]) st.front1 ty_agg37 rfl rfl rfl rfl (by first | decide | omega) rfl rfl ?_ | refine WL.storeW (vs := [_, _]) st.front2 ty_agg37 rfl rfl rfl rfl rfl rfl ?_ | refine WL.storeL (vs := [_, _]) st.front2 ty_agg37 rfl rfl rfl rfl (by first | decide | omega) rfl rfl ?_ | refine WL.storeW (vs := [_, _]) st.front3 ty_agg37 rfl rfl rfl rfl rfl rfl ?_ | refine WL.storeL (vs := [_, _]) st.front3 ty_agg37 rfl rfl rfl rfl (by first | decide | omega) rfl rfl ?_ | refine WL.storeW (vs := [_, _]) st.front4 ty_agg37 rfl rfl rfl rfl rfl rfl ?_ | refine WL.storeL (vs := [_, _]) st.front4 ty_agg37 rfl rfl rfl rfl (by first | decide | omega) rfl rfl ?_ | refine WL.storeW (vs := [_, _]) st.front5 ty_agg37 rfl rfl rfl rfl rfl rfl ?_ | refine WL.storeL (vs := [_, _]) st.front5 ty_agg37 rfl rfl rfl rfl (by first | decide | omega) rfl rfl ?_ | refine WL.storeW (vs := [_, _]) st.front6 ty_agg37 rfl rfl rfl rfl rfl rfl ?_ | refine WL.storeL (vs := [_, _]) st.front6 ty_agg37 rfl rfl rfl rfl (by first | decide | omega) rfl rfl ?_ | refine WL.storeW (vs := [_, _]) st.front7 ty_agg37 rfl rfl rfl rfl rfl rfl ?_ | refine WL.storeL (vs := [_, _]) st.front7 ty_agg37 rfl rfl rfl rfl (by first | decide | omega) rfl rfl ?_ | refine WL.storeW (vs := [_, _]) st.front8 ty_agg37 rfl rfl rfl rfl rfl rfl ?_ | refine WL.storeL (vs := [_, _]) st.front8 ty_agg37 rfl rfl rfl rfl (by first | decide | omega) rfl rfl ?_
    intro w st
    refine WL.fin hK1440 (fun _ _ h => h) ?_
    refine WC.retC (vs := [_, _]) Tryd.results15 (fun _ _ h => h) rfl ty_agg37 rfl ⟨(by first | assumption | exact st.c0 (by first | decide | omega) | exact st.c1 (by first | decide | omega) | exact st.c2 (by first | decide | omega) | exact st.c3 (by first | decide | omega) | exact st.c4 (by first | decide | omega) | exact st.c5 (by first | decide | omega) | exact st.c6 (by first | decide | omega) | exact st.c7 (by first | decide | omega) | exact st.c8 (by first | decide | omega)), (by first | assumption | exact st.c0 (by first | decide | omega) | exact st.c1 (by first | decide | omega) | exact st.c2 (by first | decide | omega) | exact st.c3 (by first | decide | omega) | exact st.c4 (by first | decide | omega) | exact st.c5 (by first | decide | omega) | exact st.c6 (by first | decide | omega) | exact st.c7 (by first | decide | omega) | exact st.c8 (by first | decide | omega)), trivial⟩ ?_
    exact ⟨_, rfl, MPost.none e (.inr (by decide)) (.inr (by decide)) h rfl (st_ms st)⟩
  rcases hb : insideB P.sec o.sct o.cnt with _ | _
  · rw [span_out (by omega) hb] at e
    refine enter [.pointer (some ⟨bq, 0, none⟩), .agg #[.int .i64 o.kind, .int .i64 o.sct, .int .i64 o.cnt, .int .i64 o.cache, .slice o.dat.a o.dat.bs.length o.dat.c, .int .i64 o.after, .slice o.kp.a o.kp.bs.length o.kp.c, .int .i64 o.tear, .int .i64 o.tb]] Tryd.func15 rfl Tryd.ntmps15 rfl ?_
    show WC _ _ _ 292 [] [(0, .pointer (some ⟨bq, 0, none⟩)), (1, .agg #[.int .i64 o.kind, .int .i64 o.sct, .int .i64 o.cnt, .int .i64 o.cache, .slice o.dat.a o.dat.bs.length o.dat.c, .int .i64 o.after, .slice o.kp.a o.kp.bs.length o.kp.c, .int .i64 o.tear, .int .i64 o.tb])] _
    refine WC.seq fun K1441 hK1441 => ?_
    -- region 0
    refine WC.region ?_
    -- R0.0 3 := diskm.go:83 box
    first | refine WL.box (m := 9) (vs := [.int _ _, .int _ _, .int _ _, .int _ _, .slice _ _ _, .int _ _, .slice _ _ _, .int _ _, .int _ _]) st rfl rfl rfl rfl rfl rfl ?_ | refine WL.box (m := 9) (vs := [_, _, _, _, _, _, _, _, _]) st rfl rfl rfl rfl rfl rfl ?_ | refine WL.box st rfl rfl rfl rfl rfl rfl ?_
    intro b3 w st
    -- R0.1 4 := diskm.go:83 alloc
    refine WL.alloc (m := 2) st ty_zero37 rfl rfl rfl ?_
    intro b4 w st
    refine WL.fin hK1441 (fun _ _ h => h) ?_
    refine WC.seq fun K1442 hK1442 => ?_
    refine WC.seq fun K1443 hK1443 => ?_
    -- region 1
    refine WC.region ?_
    -- R1.0 16 := diskm.go:84 fieldAddr
    refine WL.v (by exact r_field ty_fld33_0 rfl) rfl rfl rfl ?_
    -- R1.1 17 := diskm.go:84 load
    refine WL.v (by exact r_load1 ty_one28 rfl (by first | assumption | exact st.c0 (by first | decide | omega) | exact st.c1 (by first | decide | omega) | exact st.c2 (by first | decide | omega) | exact st.c3 (by first | decide | omega) | exact st.c4 (by first | decide | omega) | exact st.c5 (by first | decide | omega) | exact st.c6 (by first | decide | omega) | exact st.c7 (by first | decide | omega) | exact st.c8 (by first | decide | omega))) rfl rfl rfl ?_
    refine WL.fin hK1443 (fun _ _ h => h) ?_
    refine WC.block ?_
    refine WC.seq fun K1444 hK1444 => ?_
    -- region 3
    refine WC.region ?_
    -- R3.0 20 := diskm.go:85 binOp
    refine WL.v (by first | exact r_eql rfl rfl (decide_eq_true (by omega)) | exact r_eql rfl rfl (decide_eq_false (by omega)) | exact r_eql rfl rfl rfl) rfl rfl rfl ?_
    -- R3.1 19 := diskm.go:85 assign
    refine WL.v (by first | exact r_assign (v := .bool _) rfl | exact r_assign rfl) rfl rfl rfl ?_
    refine WL.fin hK1444 (fun _ _ h => h) ?_
    refine WC.condF rfl rfl ?_
    refine WC.seq fun K1445 hK1445 => ?_
    -- region 13
    refine WC.region ?_
    -- R13.0 52 := diskm.go:98 binOp
    refine WL.v (by first | exact r_eql rfl rfl (decide_eq_true (by omega)) | exact r_eql rfl rfl (decide_eq_false (by omega)) | exact r_eql rfl rfl rfl) rfl rfl rfl ?_
    -- R13.1 51 := diskm.go:98 assign
    refine WL.v (by first | exact r_assign (v := .bool _) rfl | exact r_assign rfl) rfl rfl rfl ?_
    refine WL.fin hK1445 (fun _ _ h => h) ?_
    refine WC.condF rfl rfl ?_
    refine WC.seq fun K1446 hK1446 => ?_
    -- region 24
    refine WC.region ?_
    -- R24.0 82 := diskm.go:110 binOp
    refine WL.v (by first | exact r_eql rfl rfl (decide_eq_true (by omega)) | exact r_eql rfl rfl (decide_eq_false (by omega)) | exact r_eql rfl rfl rfl) rfl rfl rfl ?_
    -- R24.1 81 := diskm.go:110 assign
    refine WL.v (by first | exact r_assign (v := .bool _) rfl | exact r_assign rfl) rfl rfl rfl ?_
    refine WL.fin hK1446 (fun _ _ h => h) ?_
    refine WC.condF rfl rfl ?_
    refine WC.seq fun K1447 hK1447 => ?_
    refine WC.seq fun K1448 hK1448 => ?_
    -- region 29
    refine WC.region ?_
    -- R29.0 94 := diskm.go:116 binOp
    refine WL.v (by first | exact r_eql rfl rfl (decide_eq_true (by omega)) | exact r_eql rfl rfl (decide_eq_false (by omega)) | exact r_eql rfl rfl rfl) rfl rfl rfl ?_
    -- R29.1 93 := diskm.go:116 assign
    refine WL.v (by first | exact r_assign (v := .bool _) rfl | exact r_assign rfl) rfl rfl rfl ?_
    refine WL.fin hK1448 (fun _ _ h => h) ?_
    refine WC.condF rfl rfl ?_
    refine WC.seq fun K1449 hK1449 => ?_
    -- region 30
    refine WC.region ?_
    -- R30.0 95 := diskm.go:116 binOp
    refine WL.v (by first | exact r_eql rfl rfl (decide_eq_true (by omega)) | exact r_eql rfl rfl (decide_eq_false (by omega)) | exact r_eql rfl rfl rfl) rfl rfl rfl ?_
    -- R30.1 93 := diskm.go:116 assign
    refine WL.v (by first | exact r_assign (v := .bool _) rfl | exact r_assign rfl) rfl rfl rfl ?_
    refine WL.fin hK1449 (fun _ _ h => h) ?_
    refine WC.condT rfl rfl ?_
    refine WC.skipF hK1447 (fun _ _ h => h) ?_
    refine WC.condT rfl rfl ?_
    refine WC.seq fun K1450 hK1450 => ?_
    -- region 35
    refine WC.region ?_
    -- R35.0 100 := diskm.go:117 move
    refine WL.v (by first | exact r_move (v := .pointer _) rfl | exact r_move rfl) rfl rfl rfl ?_
    -- R35.1 101 := diskm.go:117 nilCheck
    refine WL.v (by exact r_nilCheck rfl) rfl rfl rfl ?_
    -- R35.2 102 := diskm.go:117 fieldAddr
    refine WL.v (by exact r_field ty_fld48_4 rfl) rfl rfl rfl ?_
    -- R35.3 103 := diskm.go:117 load
    refine WL.v (by exact r_load1 (v := .bool false) ty_one4 rfl (by rw [← hd]; exact st.c2 (by decide))) rfl rfl rfl ?_
    refine WL.fin hK1450 (fun _ _ h => h) ?_
    refine WC.condF rfl rfl ?_
    refine WC.skipF hK1442 (fun _ _ h => h) ?_
    refine WC.seq fun K1451 hK1451 => ?_
    refine WC.seq fun K1452 hK1452 => ?_
    -- region 37
    refine WC.region ?_
    -- R37.0 105 := diskm.go:123 fieldAddr
    refine WL.v (by exact r_field ty_fld33_0 rfl) rfl rfl rfl ?_
    -- R37.1 106 := diskm.go:123 load
    refine WL.v (by exact r_load1 ty_one28 rfl (by first | assumption | exact st.c0 (by first | decide | omega) | exact st.c1 (by first | decide | omega) | exact st.c2 (by first | decide | omega) | exact st.c3 (by first | decide | omega) | exact st.c4 (by first | decide | omega) | exact st.c5 (by first | decide | omega) | exact st.c6 (by first | decide | omega) | exact st.c7 (by first | decide | omega) | exact st.c8 (by first | decide | omega))) rfl rfl rfl ?_
    refine WL.fin hK1452 (fun _ _ h => h) ?_
    refine WC.block ?_
    refine WC.seq fun K1453 hK1453 => ?_
    -- region 38
    refine WC.region ?_
    -- R38.0 108 := diskm.go:124 binOp
    refine WL.v (by first | exact r_eql rfl rfl (decide_eq_true (by omega)) | exact r_eql rfl rfl (decide_eq_false (by omega)) | exact r_eql rfl rfl rfl) rfl rfl rfl ?_
    -- R38.1 107 := diskm.go:124 assign
    refine WL.v (by first | exact r_assign (v := .bool _) rfl | exact r_assign rfl) rfl rfl rfl ?_
    refine WL.fin hK1453 (fun _ _ h => h) ?_
    refine WC.condF rfl rfl ?_
    refine WC.seq fun K1454 hK1454 => ?_
    -- region 57
    refine WC.region ?_
    -- R57.0 211 := diskm.go:147 binOp
    refine WL.v (by first | exact r_eql rfl rfl (decide_eq_true (by omega)) | exact r_eql rfl rfl (decide_eq_false (by omega)) | exact r_eql rfl rfl rfl) rfl rfl rfl ?_
    -- R57.1 210 := diskm.go:147 assign
    refine WL.v (by first | exact r_assign (v := .bool _) rfl | exact r_assign rfl) rfl rfl rfl ?_
    refine WL.fin hK1454 (fun _ _ h => h) ?_
    refine WC.condT rfl rfl ?_
    refine WC.seq fun K1455 hK1455 => ?_
    refine WC.seq fun K1456 hK1456 => ?_
    -- region 58
    refine WC.region ?_
    -- R58.0 212 := diskm.go:148 fieldAddr
    refine WL.v (by exact r_field ty_fld33_2 rfl) rfl rfl rfl ?_
    -- R58.1 213 := diskm.go:148 load
    refine WL.v (by exact r_load1 ty_one2 rfl (by first | assumption | exact st.c0 (by first | decide | omega) | exact st.c1 (by first | decide | omega) | exact st.c2 (by first | decide | omega) | exact st.c3 (by first | decide | omega) | exact st.c4 (by first | decide | omega) | exact st.c5 (by first | decide | omega) | exact st.c6 (by first | decide | omega) | exact st.c7 (by first | decide | omega) | exact st.c8 (by first | decide | omega))) rfl rfl rfl ?_
    -- R58.2 214 := diskm.go:148 binOp
    refine WL.v (by first | exact r_lss rfl rfl (decide_eq_true (by omega)) | exact r_lss rfl rfl (decide_eq_false (by omega)) | exact r_lss rfl rfl rfl) rfl rfl rfl ?_
    refine WL.fin hK1456 (fun _ _ h => h) ?_
    refine WC.condF rfl rfl ?_
    refine WC.skipF hK1455 (fun _ _ h => h) ?_
    refine WC.seq fun K1457 hK1457 => ?_
    refine WC.seq fun K1458 hK1458 => ?_
    -- region 60
    refine WC.region ?_
    -- R60.0 216 := diskm.go:151 move
    refine WL.v (by first | exact r_move (v := .pointer _) rfl | exact r_move rfl) rfl rfl rfl ?_
    -- R60.1 217 := diskm.go:151 fieldAddr
    refine WL.v (by exact r_field ty_fld33_1 rfl) rfl rfl rfl ?_
    -- R60.2 218 := diskm.go:151 load
    refine WL.v (by exact r_load1 ty_one2 rfl (by first | assumption | exact st.c0 (by first | decide | omega) | exact st.c1 (by first | decide | omega) | exact st.c2 (by first | decide | omega) | exact st.c3 (by first | decide | omega) | exact st.c4 (by first | decide | omega) | exact st.c5 (by first | decide | omega) | exact st.c6 (by first | decide | omega) | exact st.c7 (by first | decide | omega) | exact st.c8 (by first | decide | omega))) rfl rfl rfl ?_
    -- R60.3 219 := diskm.go:151 fieldAddr
    refine WL.v (by exact r_field ty_fld33_2 rfl) rfl rfl rfl ?_
    -- R60.4 220 := diskm.go:151 load
    refine WL.v (by exact r_load1 ty_one2 rfl (by first | assumption | exact st.c0 (by first | decide | omega) | exact st.c1 (by first | decide | omega) | exact st.c2 (by first | decide | omega) | exact st.c3 (by first | decide | omega) | exact st.c4 (by first | decide | omega) | exact st.c5 (by first | decide | omega) | exact st.c6 (by first | decide | omega) | exact st.c7 (by first | decide | omega) | exact st.c8 (by first | decide | omega))) rfl rfl rfl ?_
    -- R60.5 221 := diskm.go:151 call
    refine WL.call (r_call ty_call44 rfl) rfl rfl rfl (inside_ok (P := P) o.sct o.cnt ho.sct.2 hs2 st.front2) ?_
    rintro _ w ⟨e0, st⟩
    rw [hb] at e0
    subst e0
    have st := st.back2
    -- R60.6 222 := diskm.go:151 unOp
    refine WL.v (by first | exact r_notT rfl | exact r_notF rfl | exact r_not rfl) rfl rfl rfl ?_
    refine WL.fin hK1458 (fun _ _ h => h) ?_
    refine WC.condT rfl rfl ?_
    refine WC.seq fun K1459 hK1459 => ?_
    -- region 61
    refine WC.region ?_
    -- R61.0 223 := diskm.go:152 build
    refine WL.v (by exact r_build (ps := [(0, .int _ _)]) (vs := [_, _]) ty_pl37 ty_zero37 rfl (fill_step (pv := [_]) (cs' := [_, _]) rfl rfl rfl rfl (fill_nil))) rfl rfl rfl ?_
    -- R61.1 None := diskm.go:152 store
    first | refine WL.storeW (vs := [_, _]) st ty_agg37 rfl rfl rfl rfl rfl rfl ?_ | refine WL.storeL (vs := [_, _]) st ty_agg37 rfl rfl rfl rfl (by first | decide | omega) rfl rfl ?_ | refine WL.storeW (vs := [_, _]) st.front1 ty_agg37 rfl rfl rfl rfl rfl rfl ?_ | refine WL.storeL (vs := [_, _]) st.front1 ty_agg37 rfl rfl rfl rfl (by first | decide | omega) rfl rfl ?_ | refine WL.storeW (vs := [_, _]) st.front2 ty_agg37 rfl rfl rfl rfl rfl rfl ?_ | refine WL.storeL (vs := [_, _]) st.front2 ty_agg37 rfl rfl rfl rfl (by first | decide | omega) rfl rfl ?_ | refine WL.storeW (vs := [_, _]) st.front3 ty_agg37 rfl rfl rfl rfl rfl rfl ?_ | refine WL.storeL (vs := [_, _]) st.front3 ty_agg37 rfl rfl rfl rfl (by first | decide | omega) rfl rfl ?_ | refine WL.storeW (vs := [_, _]) st.front4 ty_agg37 rfl rfl rfl rfl rfl rfl ?_ | refine WL.storeL (vs := [_, _]) st.front4 ty_agg37 rfl rfl rfl rfl (by first | decide | omega) rfl rfl ?_ | refine WL.storeW (vs := [_, _]) st.front5 ty_agg37 rfl rfl rfl rfl rfl rfl ?_ | refine WL.storeL (vs := [_, _]) st.front5 ty_agg37 rfl rfl rfl rfl (by first | decide | omega) rfl rfl ?_ | refine WL.storeW (vs := [_, _]) st.front6 ty_agg37 rfl rfl rfl rfl rfl rfl ?_ | refine WL.storeL (vs := [_, _]) st.front6 ty_agg37 rfl rfl rfl rfl (by first | decide | omega) rfl rfl ?_ | refine WL.storeW (vs := [_, _]) st.front7 ty_agg37 rfl rfl rfl rfl rfl rfl ?_ | refine WL.storeL (vs := [_, _]) st.front7 ty_agg37 rfl rfl rfl rfl (by first | decide | omega) rfl rfl ?_ | refine WL.storeW (vs := [_, _]) st.front8 ty_agg37 rfl rfl rfl rfl rfl rfl ?_ | refine WL.storeL (vs := [_, _]) st.front8 ty_agg37 rfl rfl rfl rfl (by first | decide | omega) rfl rfl ?_
    intro w st
    refine WL.fin hK1459 (fun _ _ h => h) ?_
    refine WC.retC (vs := [_, _]) Tryd.results15 (fun _ _ h => h) rfl ty_agg37 rfl ⟨(by first | assumption | exact st.c0 (by first | decide | omega) | exact st.c1 (by first | decide | omega) | exact st.c2 (by first | decide | omega) | exact st.c3 (by first | decide | omega) | exact st.c4 (by first | decide | omega) | exact st.c5 (by first | decide | omega) | exact st.c6 (by first | decide | omega) | exact st.c7 (by first | decide | omega) | exact st.c8 (by first | decide | omega)), (by first | assumption | exact st.c0 (by first | decide | omega) | exact st.c1 (by first | decide | omega) | exact st.c2 (by first | decide | omega) | exact st.c3 (by first | decide | omega) | exact st.c4 (by first | decide | omega) | exact st.c5 (by first | decide | omega) | exact st.c6 (by first | decide | omega) | exact st.c7 (by first | decide | omega) | exact st.c8 (by first | decide | omega)), trivial⟩ ?_
    exact ⟨_, rfl, MPost.none e (.inr (by decide)) (.inr (by decide)) h rfl (st_ms st)⟩
  obtain ⟨hb1, hb2, hb3, hb4⟩ := span_in (by omega) hb
  rw [hb2] at e
  obtain ⟨n, hn⟩ : ∃ n, n = o.cnt.toNat := ⟨_, rfl⟩
  obtain ⟨sn, hsn⟩ : ∃ sn, sn = o.sct.toNat := ⟨_, rfl⟩
  have hcn : o.cnt = (n : Int) := by omega
  have hsc : o.sct = (sn : Int) := by omega
  rw [← hn] at hb1 hb4
  obtain ⟨F, hF⟩ : ∃ F : Nat → Int, F = fun j => settle P.pc P.pend (sn + j / 512) (j % 512) := ⟨_, rfl⟩
  have hrd : datB P o = bytesOf (n * 512) F := by
    have e2 : rdP P o = some (n * 512, F) := by unfold rdP; rw [e, if_pos ⟨hk, rfl⟩, hb1]; rw [hF, hsn]
    unfold datB; rw [e2]
  refine enter [.pointer (some ⟨bq, 0, none⟩), .agg #[.int .i64 o.kind, .int .i64 o.sct, .int .i64 o.cnt, .int .i64 o.cache, .slice o.dat.a o.dat.bs.length o.dat.c, .int .i64 o.after, .slice o.kp.a o.kp.bs.length o.kp.c, .int .i64 o.tear, .int .i64 o.tb]] Tryd.func15 rfl Tryd.ntmps15 rfl ?_
  show WC _ _ _ 292 [] [(0, .pointer (some ⟨bq, 0, none⟩)), (1, .agg #[.int .i64 o.kind, .int .i64 o.sct, .int .i64 o.cnt, .int .i64 o.cache, .slice o.dat.a o.dat.bs.length o.dat.c, .int .i64 o.after, .slice o.kp.a o.kp.bs.length o.kp.c, .int .i64 o.tear, .int .i64 o.tb])] _
  refine WC.seq fun K1460 hK1460 => ?_
  -- region 0
  refine WC.region ?_
  -- R0.0 3 := diskm.go:83 box
  first | refine WL.box (m := 9) (vs := [.int _ _, .int _ _, .int _ _, .int _ _, .slice _ _ _, .int _ _, .slice _ _ _, .int _ _, .int _ _]) st rfl rfl rfl rfl rfl rfl ?_ | refine WL.box (m := 9) (vs := [_, _, _, _, _, _, _, _, _]) st rfl rfl rfl rfl rfl rfl ?_ | refine WL.box st rfl rfl rfl rfl rfl rfl ?_
  intro b3 w st
  -- R0.1 4 := diskm.go:83 alloc
  refine WL.alloc (m := 2) st ty_zero37 rfl rfl rfl ?_
  intro b4 w st
  refine WL.fin hK1460 (fun _ _ h => h) ?_
  refine WC.seq fun K1461 hK1461 => ?_
  refine WC.seq fun K1462 hK1462 => ?_
  -- region 1
  refine WC.region ?_
  -- R1.0 16 := diskm.go:84 fieldAddr
  refine WL.v (by exact r_field ty_fld33_0 rfl) rfl rfl rfl ?_
  -- R1.1 17 := diskm.go:84 load
  refine WL.v (by exact r_load1 ty_one28 rfl (by first | assumption | exact st.c0 (by first | decide | omega) | exact st.c1 (by first | decide | omega) | exact st.c2 (by first | decide | omega) | exact st.c3 (by first | decide | omega) | exact st.c4 (by first | decide | omega) | exact st.c5 (by first | decide | omega) | exact st.c6 (by first | decide | omega) | exact st.c7 (by first | decide | omega) | exact st.c8 (by first | decide | omega))) rfl rfl rfl ?_
  refine WL.fin hK1462 (fun _ _ h => h) ?_
  refine WC.block ?_
  refine WC.seq fun K1463 hK1463 => ?_
  -- region 3
  refine WC.region ?_
  -- R3.0 20 := diskm.go:85 binOp
  refine WL.v (by first | exact r_eql rfl rfl (decide_eq_true (by omega)) | exact r_eql rfl rfl (decide_eq_false (by omega)) | exact r_eql rfl rfl rfl) rfl rfl rfl ?_
  -- R3.1 19 := diskm.go:85 assign
  refine WL.v (by first | exact r_assign (v := .bool _) rfl | exact r_assign rfl) rfl rfl rfl ?_
  refine WL.fin hK1463 (fun _ _ h => h) ?_
  refine WC.condF rfl rfl ?_
  refine WC.seq fun K1464 hK1464 => ?_
  -- region 13
  refine WC.region ?_
  -- R13.0 52 := diskm.go:98 binOp
  refine WL.v (by first | exact r_eql rfl rfl (decide_eq_true (by omega)) | exact r_eql rfl rfl (decide_eq_false (by omega)) | exact r_eql rfl rfl rfl) rfl rfl rfl ?_
  -- R13.1 51 := diskm.go:98 assign
  refine WL.v (by first | exact r_assign (v := .bool _) rfl | exact r_assign rfl) rfl rfl rfl ?_
  refine WL.fin hK1464 (fun _ _ h => h) ?_
  refine WC.condF rfl rfl ?_
  refine WC.seq fun K1465 hK1465 => ?_
  -- region 24
  refine WC.region ?_
  -- R24.0 82 := diskm.go:110 binOp
  refine WL.v (by first | exact r_eql rfl rfl (decide_eq_true (by omega)) | exact r_eql rfl rfl (decide_eq_false (by omega)) | exact r_eql rfl rfl rfl) rfl rfl rfl ?_
  -- R24.1 81 := diskm.go:110 assign
  refine WL.v (by first | exact r_assign (v := .bool _) rfl | exact r_assign rfl) rfl rfl rfl ?_
  refine WL.fin hK1465 (fun _ _ h => h) ?_
  refine WC.condF rfl rfl ?_
  refine WC.seq fun K1466 hK1466 => ?_
  refine WC.seq fun K1467 hK1467 => ?_
  -- region 29
  refine WC.region ?_
  -- R29.0 94 := diskm.go:116 binOp
  refine WL.v (by first | exact r_eql rfl rfl (decide_eq_true (by omega)) | exact r_eql rfl rfl (decide_eq_false (by omega)) | exact r_eql rfl rfl rfl) rfl rfl rfl ?_
  -- R29.1 93 := diskm.go:116 assign
  refine WL.v (by first | exact r_assign (v := .bool _) rfl | exact r_assign rfl) rfl rfl rfl ?_
  refine WL.fin hK1467 (fun _ _ h => h) ?_
  refine WC.condF rfl rfl ?_
  refine WC.seq fun K1468 hK1468 => ?_
  -- region 30
  refine WC.region ?_
  -- R30.0 95 := diskm.go:116 binOp
  refine WL.v (by first | exact r_eql rfl rfl (decide_eq_true (by omega)) | exact r_eql rfl rfl (decide_eq_false (by omega)) | exact r_eql rfl rfl rfl) rfl rfl rfl ?_
  -- R30.1 93 := diskm.go:116 assign
  refine WL.v (by first | exact r_assign (v := .bool _) rfl | exact r_assign rfl) rfl rfl rfl ?_
  refine WL.fin hK1468 (fun _ _ h => h) ?_
  refine WC.condT rfl rfl ?_
  refine WC.skipF hK1466 (fun _ _ h => h) ?_
  refine WC.condT rfl rfl ?_
  refine WC.seq fun K1469 hK1469 => ?_
  -- region 35
  refine WC.region ?_
  -- R35.0 100 := diskm.go:117 move
  refine WL.v (by first | exact r_move (v := .pointer _) rfl | exact r_move rfl) rfl rfl rfl ?_
  -- R35.1 101 := diskm.go:117 nilCheck
  refine WL.v (by exact r_nilCheck rfl) rfl rfl rfl ?_
  -- R35.2 102 := diskm.go:117 fieldAddr
  refine WL.v (by exact r_field ty_fld48_4 rfl) rfl rfl rfl ?_
  -- R35.3 103 := diskm.go:117 load
  refine WL.v (by exact r_load1 (v := .bool false) ty_one4 rfl (by rw [← hd]; exact st.c2 (by decide))) rfl rfl rfl ?_
  refine WL.fin hK1469 (fun _ _ h => h) ?_
  refine WC.condF rfl rfl ?_
  refine WC.skipF hK1461 (fun _ _ h => h) ?_
  refine WC.seq fun K1470 hK1470 => ?_
  refine WC.seq fun K1471 hK1471 => ?_
  -- region 37
  refine WC.region ?_
  -- R37.0 105 := diskm.go:123 fieldAddr
  refine WL.v (by exact r_field ty_fld33_0 rfl) rfl rfl rfl ?_
  -- R37.1 106 := diskm.go:123 load
  refine WL.v (by exact r_load1 ty_one28 rfl (by first | assumption | exact st.c0 (by first | decide | omega) | exact st.c1 (by first | decide | omega) | exact st.c2 (by first | decide | omega) | exact st.c3 (by first | decide | omega) | exact st.c4 (by first | decide | omega) | exact st.c5 (by first | decide | omega) | exact st.c6 (by first | decide | omega) | exact st.c7 (by first | decide | omega) | exact st.c8 (by first | decide | omega))) rfl rfl rfl ?_
  refine WL.fin hK1471 (fun _ _ h => h) ?_
  refine WC.block ?_
  refine WC.seq fun K1472 hK1472 => ?_
  -- region 38
  refine WC.region ?_
  -- R38.0 108 := diskm.go:124 binOp
  refine WL.v (by first | exact r_eql rfl rfl (decide_eq_true (by omega)) | exact r_eql rfl rfl (decide_eq_false (by omega)) | exact r_eql rfl rfl rfl) rfl rfl rfl ?_
  -- R38.1 107 := diskm.go:124 assign
  refine WL.v (by first | exact r_assign (v := .bool _) rfl | exact r_assign rfl) rfl rfl rfl ?_
  refine WL.fin hK1472 (fun _ _ h => h) ?_
  refine WC.condF rfl rfl ?_
  refine WC.seq fun K1473 hK1473 => ?_
  -- region 57
  refine WC.region ?_
  -- R57.0 211 := diskm.go:147 binOp
  refine WL.v (by first | exact r_eql rfl rfl (decide_eq_true (by omega)) | exact r_eql rfl rfl (decide_eq_false (by omega)) | exact r_eql rfl rfl rfl) rfl rfl rfl ?_
  -- R57.1 210 := diskm.go:147 assign
  refine WL.v (by first | exact r_assign (v := .bool _) rfl | exact r_assign rfl) rfl rfl rfl ?_
  refine WL.fin hK1473 (fun _ _ h => h) ?_
  refine WC.condT rfl rfl ?_
  refine WC.seq fun K1474 hK1474 => ?_
  refine WC.seq fun K1475 hK1475 => ?_
  -- region 58
  refine WC.region ?_
  -- R58.0 212 := diskm.go:148 fieldAddr
  refine WL.v (by exact r_field ty_fld33_2 rfl) rfl rfl rfl ?_
  -- R58.1 213 := diskm.go:148 load
  refine WL.v (by exact r_load1 ty_one2 rfl (by first | assumption | exact st.c0 (by first | decide | omega) | exact st.c1 (by first | decide | omega) | exact st.c2 (by first | decide | omega) | exact st.c3 (by first | decide | omega) | exact st.c4 (by first | decide | omega) | exact st.c5 (by first | decide | omega) | exact st.c6 (by first | decide | omega) | exact st.c7 (by first | decide | omega) | exact st.c8 (by first | decide | omega))) rfl rfl rfl ?_
  -- R58.2 214 := diskm.go:148 binOp
  refine WL.v (by first | exact r_lss rfl rfl (decide_eq_true (by omega)) | exact r_lss rfl rfl (decide_eq_false (by omega)) | exact r_lss rfl rfl rfl) rfl rfl rfl ?_
  refine WL.fin hK1475 (fun _ _ h => h) ?_
  refine WC.condF rfl rfl ?_
  refine WC.skipF hK1474 (fun _ _ h => h) ?_
  refine WC.seq fun K1476 hK1476 => ?_
  refine WC.seq fun K1477 hK1477 => ?_
  -- region 60
  refine WC.region ?_
  -- R60.0 216 := diskm.go:151 move
  refine WL.v (by first | exact r_move (v := .pointer _) rfl | exact r_move rfl) rfl rfl rfl ?_
  -- R60.1 217 := diskm.go:151 fieldAddr
  refine WL.v (by exact r_field ty_fld33_1 rfl) rfl rfl rfl ?_
  -- R60.2 218 := diskm.go:151 load
  refine WL.v (by exact r_load1 ty_one2 rfl (by first | assumption | exact st.c0 (by first | decide | omega) | exact st.c1 (by first | decide | omega) | exact st.c2 (by first | decide | omega) | exact st.c3 (by first | decide | omega) | exact st.c4 (by first | decide | omega) | exact st.c5 (by first | decide | omega) | exact st.c6 (by first | decide | omega) | exact st.c7 (by first | decide | omega) | exact st.c8 (by first | decide | omega))) rfl rfl rfl ?_
  -- R60.3 219 := diskm.go:151 fieldAddr
  refine WL.v (by exact r_field ty_fld33_2 rfl) rfl rfl rfl ?_
  -- R60.4 220 := diskm.go:151 load
  refine WL.v (by exact r_load1 ty_one2 rfl (by first | assumption | exact st.c0 (by first | decide | omega) | exact st.c1 (by first | decide | omega) | exact st.c2 (by first | decide | omega) | exact st.c3 (by first | decide | omega) | exact st.c4 (by first | decide | omega) | exact st.c5 (by first | decide | omega) | exact st.c6 (by first | decide | omega) | exact st.c7 (by first | decide | omega) | exact st.c8 (by first | decide | omega))) rfl rfl rfl ?_
  -- R60.5 221 := diskm.go:151 call
  refine WL.call (r_call ty_call44 rfl) rfl rfl rfl (inside_ok (P := P) o.sct o.cnt ho.sct.2 hs2 st.front2) ?_
  rintro _ w ⟨e0, st⟩
  rw [hb] at e0
  subst e0
  have st := st.back2
  -- R60.6 222 := diskm.go:151 unOp
  refine WL.v (by first | exact r_notT rfl | exact r_notF rfl | exact r_not rfl) rfl rfl rfl ?_
  refine WL.fin hK1477 (fun _ _ h => h) ?_
  refine WC.condF rfl rfl ?_
  refine WC.skipF hK1476 (fun _ _ h => h) ?_
  refine WC.seq fun K1478 hK1478 => ?_
  -- region 62
  refine WC.region ?_
  -- R62.0 12 := diskm.go:154 assign
  refine WL.v (by first | exact r_assign (v := .slice _ _ _) rfl | exact r_assign rfl) rfl rfl rfl ?_
  refine WL.fin hK1478 (fun _ _ h => h) ?_
  refine WC.seq fun K1479 hK1479 => ?_
  refine WC.seq fun K1480 hK1480 => ?_
  -- region 63
  refine WC.region ?_
  -- R63.0 13 := diskm.go:155 assign
  refine WL.v (by first | exact r_assign (v := .int _ _) rfl | exact r_assign rfl) rfl rfl rfl ?_
  refine WL.fin hK1480 (fun _ _ h => h) ?_
  refine WC.block ?_
  refine WC.loop (ι := Nat × Value × List HI) (fun y => [(0, .pointer (some ⟨bq, 0, none⟩)), (3, .pointer (some ⟨b3, 0, none⟩)), (4, .pointer (some ⟨b4, 0, none⟩)), (12, y.2.1), (13, .int .i64 (y.1 : Nat))])
    (fun y w' => y.1 ≤ n ∧ BR 5 y.2.1 (bytesOf (y.1 * 512) F) y.2.2 ∧ S0 w0 ((b4, Row 37 2 (nth [.int .i64 0, .slice none 0 0])) :: opI b3 o :: mdI bq z.bm P z.wv (.slice z.sv.a z.sv.bs.length z.sv.c) z.t z.tb :: mpI z.bm z.NS :: (y.2.2 ++ (z.XW ++ (z.K ++ l)))) w') (fun y => n - y.1) (0, .slice none 0 0, []) ⟨Nat.zero_le _, by show BR _ _ (bytesOf (0 * 512) F) _; exact BR.nil _, st⟩ ?_ ?_
  · skip
    repeat (first | exact sub_nil _ | refine sub_cons rfl rfl ?_)
  rintro ⟨j, v, XI⟩ w ⟨hj, hbr, st⟩ K1 hK1
  dsimp only at hj hbr st ⊢
  by_cases hjl : ¬ j < n
  · obtain ⟨va, vc, rfl⟩ := (br_sees (w0 := w0) hbr).sl
    obtain rfl : n = j := by omega
    refine WC.seq fun K1481 hK1481 => ?_
    refine WC.seq fun K1482 hK1482 => ?_
    -- region 64
    refine WC.region ?_
    -- R64.0 224 := diskm.go:155 move
    refine WL.v (by first | exact r_move (v := .int _ _) rfl | exact r_move rfl) rfl rfl rfl ?_
    -- R64.1 225 := diskm.go:155 fieldAddr
    refine WL.v (by exact r_field ty_fld33_2 rfl) rfl rfl rfl ?_
    -- R64.2 226 := diskm.go:155 load
    refine WL.v (by exact r_load1 (v := .int .i64 (n : Nat)) ty_one2 rfl (by rw [← hcn]; exact st.c1 (by decide))) rfl rfl rfl ?_
    -- R64.3 227 := diskm.go:155 binOp
    refine WL.v (by first | exact r_lss rfl rfl (decide_eq_true (by omega)) | exact r_lss rfl rfl (decide_eq_false (by omega)) | exact r_lss rfl rfl rfl) rfl rfl rfl ?_
    refine WL.fin hK1482 (fun _ _ h => h) ?_
    refine WC.condF rfl rfl ?_
    refine WC.exitF hK1479 (fun _ _ h => h) ?_
    refine WC.seq fun K1483 hK1483 => ?_
    -- region 67
    refine WC.region ?_
    -- R67.0 238 := diskm.go:158 move
    refine WL.v (by first | exact r_move (v := .slice _ _ _) rfl | exact r_move rfl) rfl rfl rfl ?_
    -- R67.1 239 := diskm.go:158 build
    refine WL.v (by exact r_build (ps := [(1, .slice _ _ _)]) (vs := [_, _]) ty_pl37 ty_zero37 rfl (fill_step (pv := [_]) (cs' := [_, _]) rfl rfl rfl rfl (fill_nil))) rfl rfl rfl ?_
    -- R67.2 None := diskm.go:158 store
    first | refine WL.storeW (vs := [_, _]) st ty_agg37 rfl rfl rfl rfl rfl rfl ?_ | refine WL.storeL (vs := [_, _]) st ty_agg37 rfl rfl rfl rfl (by first | decide | omega) rfl rfl ?_ | refine WL.storeW (vs := [_, _]) st.front1 ty_agg37 rfl rfl rfl rfl rfl rfl ?_ | refine WL.storeL (vs := [_, _]) st.front1 ty_agg37 rfl rfl rfl rfl (by first | decide | omega) rfl rfl ?_ | refine WL.storeW (vs := [_, _]) st.front2 ty_agg37 rfl rfl rfl rfl rfl rfl ?_ | refine WL.storeL (vs := [_, _]) st.front2 ty_agg37 rfl rfl rfl rfl (by first | decide | omega) rfl rfl ?_ | refine WL.storeW (vs := [_, _]) st.front3 ty_agg37 rfl rfl rfl rfl rfl rfl ?_ | refine WL.storeL (vs := [_, _]) st.front3 ty_agg37 rfl rfl rfl rfl (by first | decide | omega) rfl rfl ?_ | refine WL.storeW (vs := [_, _]) st.front4 ty_agg37 rfl rfl rfl rfl rfl rfl ?_ | refine WL.storeL (vs := [_, _]) st.front4 ty_agg37 rfl rfl rfl rfl (by first | decide | omega) rfl rfl ?_ | refine WL.storeW (vs := [_, _]) st.front5 ty_agg37 rfl rfl rfl rfl rfl rfl ?_ | refine WL.storeL (vs := [_, _]) st.front5 ty_agg37 rfl rfl rfl rfl (by first | decide | omega) rfl rfl ?_ | refine WL.storeW (vs := [_, _]) st.front6 ty_agg37 rfl rfl rfl rfl rfl rfl ?_ | refine WL.storeL (vs := [_, _]) st.front6 ty_agg37 rfl rfl rfl rfl (by first | decide | omega) rfl rfl ?_ | refine WL.storeW (vs := [_, _]) st.front7 ty_agg37 rfl rfl rfl rfl rfl rfl ?_ | refine WL.storeL (vs := [_, _]) st.front7 ty_agg37 rfl rfl rfl rfl (by first | decide | omega) rfl rfl ?_ | refine WL.storeW (vs := [_, _]) st.front8 ty_agg37 rfl rfl rfl rfl rfl rfl ?_ | refine WL.storeL (vs := [_, _]) st.front8 ty_agg37 rfl rfl rfl rfl (by first | decide | omega) rfl rfl ?_
    intro w st
    refine WL.fin hK1483 (fun _ _ h => h) ?_
    refine WC.retC (vs := [_, _]) Tryd.results15 (fun _ _ h => h) rfl ty_agg37 rfl ⟨(by first | assumption | exact st.c0 (by first | decide | omega) | exact st.c1 (by first | decide | omega) | exact st.c2 (by first | decide | omega) | exact st.c3 (by first | decide | omega) | exact st.c4 (by first | decide | omega) | exact st.c5 (by first | decide | omega) | exact st.c6 (by first | decide | omega) | exact st.c7 (by first | decide | omega) | exact st.c8 (by first | decide | omega)), (by first | assumption | exact st.c0 (by first | decide | omega) | exact st.c1 (by first | decide | omega) | exact st.c2 (by first | decide | omega) | exact st.c3 (by first | decide | omega) | exact st.c4 (by first | decide | omega) | exact st.c5 (by first | decide | omega) | exact st.c6 (by first | decide | omega) | exact st.c7 (by first | decide | omega) | exact st.c8 (by first | decide | omega)), trivial⟩ ?_
    refine ⟨_, rfl, { z with K := XI ++ z.K }, _, by rw [e]; exact ⟨h.bk.more (List.subset_append_right _ _), h.own, h.svo, h.svl, h.svr, h.arm⟩, by rw [e]; rfl, by rw [hrd]; exact (br_sees hbr).mono (List.subset_append_left _ _), ?_⟩
    rw [e]; exact st_ap3 st
  have hjl : j < n := by omega
  have hsj : sn + j < P.sec := by omega
  have hrg : ∀ k, 0 ≤ settle P.pc P.pend (sn + j) k ∧ settle P.pc P.pend (sn + j) k < 256 := fun k => settle_range hp.pcr (fun p hpp => (hp.psec p hpp).2) _ _
  refine WC.seq fun K1484 hK1484 => ?_
  refine WC.seq fun K1485 hK1485 => ?_
  -- region 64
  refine WC.region ?_
  -- R64.0 224 := diskm.go:155 move
  refine WL.v (by first | exact r_move (v := .int _ _) rfl | exact r_move rfl) rfl rfl rfl ?_
  -- R64.1 225 := diskm.go:155 fieldAddr
  refine WL.v (by exact r_field ty_fld33_2 rfl) rfl rfl rfl ?_
  -- R64.2 226 := diskm.go:155 load
  refine WL.v (by exact r_load1 (v := .int .i64 (n : Nat)) ty_one2 rfl (by rw [← hcn]; exact st.c1 (by decide))) rfl rfl rfl ?_
  -- R64.3 227 := diskm.go:155 binOp
  refine WL.v (by first | exact r_lss rfl rfl (decide_eq_true (by omega)) | exact r_lss rfl rfl (decide_eq_false (by omega)) | exact r_lss rfl rfl rfl) rfl rfl rfl ?_
  refine WL.fin hK1485 (fun _ _ h => h) ?_
  refine WC.condT rfl rfl ?_
  refine WC.skipF hK1484 (fun _ _ h => h) ?_
  refine WC.seq fun K1486 hK1486 => ?_
  refine WC.block ?_
  -- region 66
  refine WC.region ?_
  -- R66.0 230 := diskm.go:156 move
  refine WL.v (by first | exact r_move (v := .slice _ _ _) rfl | exact r_move rfl) rfl rfl rfl ?_
  -- R66.1 231 := diskm.go:156 move
  refine WL.v (by first | exact r_move (v := .pointer _) rfl | exact r_move rfl) rfl rfl rfl ?_
  -- R66.2 232 := diskm.go:156 fieldAddr
  refine WL.v (by exact r_field ty_fld33_1 rfl) rfl rfl rfl ?_
  -- R66.3 233 := diskm.go:156 load
  refine WL.v (by exact r_load1 (v := .int .i64 (sn : Nat)) ty_one2 rfl (by rw [← hsc]; exact st.c1 (by decide))) rfl rfl rfl ?_
  -- R66.4 234 := diskm.go:156 move
  refine WL.v (by first | exact r_move (v := .int _ _) rfl | exact r_move rfl) rfl rfl rfl ?_
  -- R66.5 235 := diskm.go:156 binOp
  refine WL.v (by exact r_add (r := ((sn + j : Nat) : Int)) rfl rfl ((wi64 (by omega) (by omega)).trans (by omega))) rfl rfl rfl ?_
  -- R66.6 236 := diskm.go:156 call
  refine WL.call (r_call ty_call25 rfl) rfl rfl rfl (seenM_ok h.bk h.own (by have := hp.ple; have := hp.l2; omega) hsj hs2 (fun x hx => List.mem_cons_of_mem _ (List.mem_cons_of_mem _ (List.mem_append_right _ (List.mem_append_right _ (List.mem_append_left _ hx))))) (fun x hx => List.mem_cons_of_mem _ (List.mem_cons_of_mem _ (List.mem_append_right _ (List.mem_append_left _ hx)))) (st.perm (List.perm_append_comm_assoc [_, _] [_, _] _))) ?_
  rintro _ w ⟨b, rfl, st⟩
  -- R66.7 237 := diskm.go:156 call
  obtain ⟨sp, q1, q2, q3, q4⟩ := Sees.img (w0 := w0) (bb := b) (n := 512) hrg (by omega)
  refine WL.appW (s := sp) hbr q3 (q4 _ _ (fun x hx => by rw [List.mem_singleton.1 hx]; exact List.mem_cons_self) st) (st_ap1 st) ty_mk29 ty_sl29 ty_zero5 rfl rfl q1.symm (by rw [q2, bytesOf_len, bytesOf_len]; omega) (by rw [q2, bytesOf_len, bytesOf_len]; omega) rfl rfl rfl ?_
  intro v' XI' w hbr st
  have st := st_ap2 st
  -- R66.8 12 := diskm.go:156 assign
  refine WL.v (by first | exact r_assign (v := .slice _ _ _) rfl | exact r_assign rfl) rfl rfl rfl ?_
  refine WL.fin hK1486 (fun _ _ h => h) ?_
  -- region 65
  refine WC.region ?_
  -- R65.0 228 := diskm.go:155 move
  refine WL.v (by first | exact r_move (v := .int _ _) rfl | exact r_move rfl) rfl rfl rfl ?_
  -- R65.1 229 := diskm.go:155 binOp
  refine WL.v (by exact r_add (r := ((j + 1 : Nat) : Int)) rfl rfl ((wi64 (by omega) (by omega)).trans (by omega))) rfl rfl rfl ?_
  -- R65.2 13 := diskm.go:155 assign
  refine WL.v (by first | exact r_assign (v := .int _ _) rfl | exact r_assign rfl) rfl rfl rfl ?_
  have eB : bytesOf (j * 512) F ++ sp.bs = bytesOf ((j + 1) * 512) F := by
    rw [q2, Nat.succ_mul, ← bytesOf_app]
    congr 1
    exact bytesOf_congr fun k hk => by rw [hF]; exact (fp (settle P.pc P.pend) hk).symm
  rw [eB] at hbr
  refine WL.next hK1 (fun _ _ h => h) (j + 1, v', XI') ⟨by show j + 1 ≤ n; omega, hbr, st⟩ (by show n - (j + 1) < n - j; omega) (by repeat (first | exact sub_nil _ | refine sub_cons rfl rfl ?_))
end Go.Proofs.Qxb6500837aDoor

