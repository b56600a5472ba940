import Derived.Test.Qxb6500837aDoorD32
import Derived.Test.Qxb6500837aDoorE27
set_option linter.unusedVariables false
set_option linter.unusedSimpArgs false
set_option maxRecDepth 20000
namespace Go.Proofs.Qxb6500837aDoor
open Go.RowKit Go.E1 Go.Disk
variable {w0 : World} {L L' l I J K K' : List HI} {w : World} {D : DK} {m : Int} {P : PD} {q : Obj → Prop} {NS : Int → Option Value} {f : Nat → Value}

/-! The reference disk in memory. -/
abbrev mdI (bq bm : Nat) (P : PD) (wv kv : Value) (t tb : Int) : HI := (bq, Row 48 10 (nth [.int .i64 (P.sec : Nat), .int .i64 (P.lim : Nat), .map (some bm), wv, .bool P.down, .bool P.armed, .int .i64 P.fuse, kv, .int .i64 t, .int .i64 tb]))
variable {bq bm : Nat} {wv kv : Value} {t tb : Int}

theorem newM_ok (st : S0 w0 l w) :
    Calls Tryd.prog 12 #[] w (Ret fun v w' => ∃ bq bm, v = .pointer (some ⟨bq, 0, none⟩) ∧ S0 w0 (mdI bq bm (newP 4096 8192) (.slice none 0 0) (.slice none 0 0) 0 0 :: mpI bm (fun _ => none) :: l) w') := by
  refine enter [] Tryd.func12 rfl Tryd.ntmps12 rfl ?_
  show WC _ _ _ 4 [] [] _
  refine WC.seq fun K1086 hK1086 => ?_
  -- region 0
  refine WC.region ?_
  -- R0.0 0 := diskm.go:26 assign
  refine WL.v (by first | exact r_assign (v := .pointer _) rfl | exact r_assign rfl) rfl rfl rfl ?_
  refine WL.fin hK1086 (fun _ _ h => h) ?_
  refine WC.seq fun K1087 hK1087 => ?_
  -- region 1
  refine WC.region ?_
  -- R1.0 1 := diskm.go:27 makeMap
  refine WL.mkmap (keyGood Tryd.prog 2) st rfl rfl ?_
  intro b1 w st
  -- R1.1 2 := diskm.go:27 build
  refine WL.v (by exact r_build (ps := [(0, .int _ _), (1, .int _ _), (2, .map _)]) (vs := [_, _, _, _, _, _, _, _, _, _]) ty_pl48 ty_zero48 rfl (fill_step (pv := [_]) (cs' := [_, _, _, _, _, _, _, _, _, _]) rfl rfl rfl rfl (fill_step (pv := [_]) (cs' := [_, _, _, _, _, _, _, _, _, _]) rfl rfl rfl rfl (fill_step (pv := [_]) (cs' := [_, _, _, _, _, _, _, _, _, _]) rfl rfl rfl rfl (fill_nil))))) rfl rfl rfl ?_
  -- R1.2 3 := diskm.go:27 box
  first | refine WL.box (m := 10) (vs := [.int _ _, .int _ _, .map _, .slice _ _ _, .bool _, .bool _, .int _ _, .slice _ _ _, .int _ _, .int _ _]) st rfl rfl rfl rfl rfl rfl ?_ | refine WL.box (m := 10) (vs := [_, _, _, _, _, _, _, _, _, _]) st rfl rfl rfl rfl rfl rfl ?_ | refine WL.box st rfl rfl rfl rfl rfl rfl ?_
  intro b3 w st
  -- R1.3 0 := diskm.go:27 assign
  refine WL.v (by first | exact r_assign (v := .pointer _) rfl | exact r_assign rfl) rfl rfl rfl ?_
  refine WL.fin hK1087 (fun _ _ h => h) ?_
  refine WC.ret1 Tryd.results12 (fun _ _ h => h) rfl ?_
  refine ⟨_, rfl, b3, b1, rfl, ?_⟩
  unfold mpI; rw [gOf_none]; exact st

theorem onPlatter_ok {s : Nat} (hbk : Bk w0 K P.sec P.pc P.pend NS f) (hs : s < P.sec) (hsec : P.sec ≤ 65536) (hKl : K ⊆ l) (st : S0 w0 (mdI bq bm P wv kv t tb :: mpI bm NS :: l) w) :
    Calls Tryd.prog 24 #[.pointer (some ⟨bq, 0, none⟩), .int .i64 (s : Nat)] w (Ret fun v w' => ∃ b, v = .slice (some ⟨b, 0, none⟩) 512 512 ∧ S0 w0 (iI b 512 (P.pc s) :: mdI bq bm P wv kv t tb :: mpI bm NS :: l) w') := by
  rcases hN : NS (s : Int) with _ | v
  · skip
    refine enter [.pointer (some ⟨bq, 0, none⟩), .int .i64 (s : Nat)] Tryd.func24 rfl Tryd.ntmps24 rfl ?_
    show WC _ _ _ 16 [] [(0, .pointer (some ⟨bq, 0, none⟩)), (1, .int .i64 (s : Nat))] _
    refine WC.seq fun K1088 hK1088 => ?_
    -- region 0
    refine WC.region ?_
    -- R0.0 4 := diskm.go:31 assign
    refine WL.v (by first | exact r_assign (v := .slice _ _ _) rfl | exact r_assign rfl) rfl rfl rfl ?_
    refine WL.fin hK1088 (fun _ _ h => h) ?_
    refine WC.seq fun K1089 hK1089 => ?_
    -- region 1
    refine WC.region ?_
    -- R1.0 6 := diskm.go:32 makeSlice
    refine WL.make (len := 512) (cap := 512) st ty_mk29 ty_zero5 rfl rfl (by first | rfl | omega) (by first | rfl | omega) (by omega) (by omega) (by omega) rfl rfl rfl rfl ?_
    intro b6 w st
    -- R1.1 5 := diskm.go:32 assign
    refine WL.v (by first | exact r_assign (v := .slice _ _ _) rfl | exact r_assign rfl) rfl rfl rfl ?_
    refine WL.fin hK1089 (fun _ _ h => h) ?_
    refine WC.seq fun K1090 hK1090 => ?_
    -- region 2
    refine WC.region ?_
    -- R2.0 7 := diskm.go:33 move
    refine WL.v (by first | exact r_move (v := .slice _ _ _) rfl | exact r_move rfl) rfl rfl rfl ?_
    -- R2.1 8 := diskm.go:33 move
    refine WL.v (by first | exact r_move (v := .pointer _) rfl | exact r_move rfl) rfl rfl rfl ?_
    -- R2.2 9 := diskm.go:33 nilCheck
    refine WL.v (by exact r_nilCheck rfl) rfl rfl rfl ?_
    -- R2.3 10 := diskm.go:33 fieldAddr
    refine WL.v (by exact r_field ty_fld48_2 rfl) rfl rfl rfl ?_
    -- R2.4 11 := diskm.go:33 load
    refine WL.v (by exact r_load1 ty_one45 rfl (by first | assumption | exact st.c0 (by first | decide | omega) | exact st.c1 (by first | decide | omega) | exact st.c2 (by first | decide | omega) | exact st.c3 (by first | decide | omega) | exact st.c4 (by first | decide | omega) | exact st.c5 (by first | decide | omega) | exact st.c6 (by first | decide | omega) | exact st.c7 (by first | decide | omega) | exact st.c8 (by first | decide | omega))) rfl rfl rfl ?_
    -- R2.5 12 := diskm.go:33 move
    refine WL.v (by first | exact r_move (v := .int _ _) rfl | exact r_move rfl) rfl rfl rfl ?_
    -- R2.6 13 := diskm.go:33 lookup
    refine WL.v (by exact r_look (G := gOf NS) (v := .slice none 0 0) ty_kb2 ty_mp45 ty_z129 rfl rfl st (by simp) (good64 (by omega) (by omega)) (by show (NS ((s : Nat) : Int)).getD _ = _; rw [hN]; rfl)) rfl rfl rfl ?_
    -- R2.7 14 := diskm.go:33 call
    refine WL.copyN ty_sl29 rfl rfl rfl rfl rfl ?_
    refine WL.fin hK1090 (fun _ _ h => h) ?_
    refine WC.seq fun K1091 hK1091 => ?_
    -- region 3
    refine WC.region ?_
    -- R3.0 15 := diskm.go:34 move
    refine WL.v (by first | exact r_move (v := .slice _ _ _) rfl | exact r_move rfl) rfl rfl rfl ?_
    -- R3.1 4 := diskm.go:34 assign
    refine WL.v (by first | exact r_assign (v := .slice _ _ _) rfl | exact r_assign rfl) rfl rfl rfl ?_
    refine WL.fin hK1091 (fun _ _ h => h) ?_
    refine WC.ret1 Tryd.results24 (fun _ _ h => h) rfl ?_
    have st := row1 (g := fun _ => .int .u8 0) st fun k => by simp [zrow, nth, Nat.mod_one]
    refine ⟨_, rfl, b6, rfl, ?_⟩
    rw [row_eq (b := 0) (g := fun j => .int .u8 (P.pc s j)) fun k hk => by rw [hbk.syz s hs hN k hk]] at st
    exact st
  · obtain ⟨s0, hv, hb, ho, hr⟩ := hbk.syn s hs v hN
    have hl : s0.bs.length = 512 := by rw [hb, bytesOf_len]
    have ha := ho.adr (by omega)
    have hv2 : v = .slice (some ⟨s0.b, s0.o, none⟩) 512 s0.c := by rw [← hv]; unfold SV.v; rw [ha, hl]
    subst hv2
    refine enter [.pointer (some ⟨bq, 0, none⟩), .int .i64 (s : Nat)] Tryd.func24 rfl Tryd.ntmps24 rfl ?_
    show WC _ _ _ 16 [] [(0, .pointer (some ⟨bq, 0, none⟩)), (1, .int .i64 (s : Nat))] _
    refine WC.seq fun K1092 hK1092 => ?_
    -- region 0
    refine WC.region ?_
    -- R0.0 4 := diskm.go:31 assign
    refine WL.v (by first | exact r_assign (v := .slice _ _ _) rfl | exact r_assign rfl) rfl rfl rfl ?_
    refine WL.fin hK1092 (fun _ _ h => h) ?_
    refine WC.seq fun K1093 hK1093 => ?_
    -- region 1
    refine WC.region ?_
    -- R1.0 6 := diskm.go:32 makeSlice
    refine WL.make (len := 512) (cap := 512) st ty_mk29 ty_zero5 rfl rfl (by first | rfl | omega) (by first | rfl | omega) (by omega) (by omega) (by omega) rfl rfl rfl rfl ?_
    intro b6 w st
    -- R1.1 5 := diskm.go:32 assign
    refine WL.v (by first | exact r_assign (v := .slice _ _ _) rfl | exact r_assign rfl) rfl rfl rfl ?_
    refine WL.fin hK1093 (fun _ _ h => h) ?_
    refine WC.seq fun K1094 hK1094 => ?_
    -- region 2
    refine WC.region ?_
    -- R2.0 7 := diskm.go:33 move
    refine WL.v (by first | exact r_move (v := .slice _ _ _) rfl | exact r_move rfl) rfl rfl rfl ?_
    -- R2.1 8 := diskm.go:33 move
    refine WL.v (by first | exact r_move (v := .pointer _) rfl | exact r_move rfl) rfl rfl rfl ?_
    -- R2.2 9 := diskm.go:33 nilCheck
    refine WL.v (by exact r_nilCheck rfl) rfl rfl rfl ?_
    -- R2.3 10 := diskm.go:33 fieldAddr
    refine WL.v (by exact r_field ty_fld48_2 rfl) rfl rfl rfl ?_
    -- R2.4 11 := diskm.go:33 load
    refine WL.v (by exact r_load1 ty_one45 rfl (by first | assumption | exact st.c0 (by first | decide | omega) | exact st.c1 (by first | decide | omega) | exact st.c2 (by first | decide | omega) | exact st.c3 (by first | decide | omega) | exact st.c4 (by first | decide | omega) | exact st.c5 (by first | decide | omega) | exact st.c6 (by first | decide | omega) | exact st.c7 (by first | decide | omega) | exact st.c8 (by first | decide | omega))) rfl rfl rfl ?_
    -- R2.5 12 := diskm.go:33 move
    refine WL.v (by first | exact r_move (v := .int _ _) rfl | exact r_move rfl) rfl rfl rfl ?_
    -- R2.6 13 := diskm.go:33 lookup
    refine WL.v (by exact r_look (G := gOf NS) (v := .slice (some ⟨s0.b, s0.o, none⟩) 512 s0.c) ty_kb2 ty_mp45 ty_z129 rfl rfl st (by simp) (good64 (by omega) (by omega)) (by show (NS ((s : Nat) : Int)).getD _ = _; rw [hN]; rfl)) rfl rfl rfl ?_
    -- R2.7 14 := diskm.go:33 call
    have st := row1 (g := fun _ => .int .u8 0) st fun k => by simp [zrow, nth, Nat.mod_one]
    refine WL.copyM (m := 512) (m1 := 512) (o := 0) (bx := s0.b) (ox := s0.o) (news := fun j => .int .u8 (P.pc s j)) st ty_sl29 rfl rfl (Nat.le_refl _) (by omega) (fun j hj => by have := hr _ _ (fun x hx => List.mem_cons_of_mem _ (List.mem_cons_of_mem _ (List.mem_cons_of_mem _ (hKl hx)))) st j (by omega); rw [hb, bytesOf_get hj] at this; exact this) (fun _ _ => rfl) rfl rfl rfl ?_
    intro w st
    refine WL.fin hK1094 (fun _ _ h => h) ?_
    refine WC.seq fun K1095 hK1095 => ?_
    -- region 3
    refine WC.region ?_
    -- R3.0 15 := diskm.go:34 move
    refine WL.v (by first | exact r_move (v := .slice _ _ _) rfl | exact r_move rfl) rfl rfl rfl ?_
    -- R3.1 4 := diskm.go:34 assign
    refine WL.v (by first | exact r_assign (v := .slice _ _ _) rfl | exact r_assign rfl) rfl rfl rfl ?_
    refine WL.fin hK1095 (fun _ _ h => h) ?_
    refine WC.ret1 Tryd.results24 (fun _ _ h => h) rfl ?_
    refine ⟨_, rfl, b6, rfl, ?_⟩
    rw [row_eq (b := 0) (g := fun j => .int .u8 (P.pc s j)) fun k hk => by rw [upds_eq, if_pos (by omega)]; rfl] at st
    exact st

set_option maxHeartbeats 4000000 in
theorem seenM_ok {s : Nat} {XW : List HI} (hbk : Bk w0 K P.sec P.pc P.pend NS f) (hown : OwnP 63 2 wv P.pend.length XW f) (hpl : P.pend.length ≤ 65536) (hs : s < P.sec) (hsec : P.sec ≤ 65536) (hKl : K ⊆ l) (hXl : XW ⊆ l) (st : S0 w0 (mdI bq bm P wv kv t tb :: mpI bm NS :: l) w) :
    Calls Tryd.prog 25 #[.pointer (some ⟨bq, 0, none⟩), .int .i64 (s : Nat)] w (Ret fun v w' => ∃ b, v = .slice (some ⟨b, 0, none⟩) 512 512 ∧ S0 w0 (iI b 512 (settle P.pc P.pend s) :: mdI bq bm P wv kv t tb :: mpI bm NS :: l) w') := by
  obtain ⟨wa, wc, wb, wo, rfl, hwc, hwa, hwrd⟩ := hown.form
  refine enter [.pointer (some ⟨bq, 0, none⟩), .int .i64 (s : Nat)] Tryd.func25 rfl Tryd.ntmps25 rfl ?_
  show WC _ _ _ 30 [] [(0, .pointer (some ⟨bq, 0, none⟩)), (1, .int .i64 (s : Nat))] _
  refine WC.seq fun K1096 hK1096 => ?_
  -- region 0
  refine WC.region ?_
  -- R0.0 4 := diskm.go:38 assign
  refine WL.v (by first | exact r_assign (v := .slice _ _ _) rfl | exact r_assign rfl) rfl rfl rfl ?_
  refine WL.fin hK1096 (fun _ _ h => h) ?_
  refine WC.seq fun K1097 hK1097 => ?_
  -- region 1
  refine WC.region ?_
  -- R1.0 8 := diskm.go:39 move
  refine WL.v (by first | exact r_move (v := .pointer _) rfl | exact r_move rfl) rfl rfl rfl ?_
  -- R1.1 9 := diskm.go:39 move
  refine WL.v (by first | exact r_move (v := .int _ _) rfl | exact r_move rfl) rfl rfl rfl ?_
  -- R1.2 10 := diskm.go:39 call
  refine WL.call (r_call ty_call24 rfl) rfl rfl rfl (onPlatter_ok hbk hs hsec hKl st) ?_
  rintro _ w ⟨b, rfl, st⟩
  -- R1.3 5 := diskm.go:39 assign
  refine WL.v (by first | exact r_assign (v := .slice _ _ _) rfl | exact r_assign rfl) rfl rfl rfl ?_
  refine WL.fin hK1097 (fun _ _ h => h) ?_
  refine WC.seq fun K1098 hK1098 => ?_
  refine WC.seq fun K1099 hK1099 => ?_
  -- region 2
  refine WC.region ?_
  -- R2.0 11 := diskm.go:40 move
  refine WL.v (by first | exact r_move (v := .pointer _) rfl | exact r_move rfl) rfl rfl rfl ?_
  -- R2.1 12 := diskm.go:40 nilCheck
  refine WL.v (by exact r_nilCheck rfl) rfl rfl rfl ?_
  -- R2.2 13 := diskm.go:40 fieldAddr
  refine WL.v (by exact r_field ty_fld48_3 rfl) rfl rfl rfl ?_
  -- R2.3 14 := diskm.go:40 load
  refine WL.v (by exact r_load1 ty_one46 rfl (by first | assumption | exact st.c0 (by first | decide | omega) | exact st.c1 (by first | decide | omega) | exact st.c2 (by first | decide | omega) | exact st.c3 (by first | decide | omega) | exact st.c4 (by first | decide | omega) | exact st.c5 (by first | decide | omega) | exact st.c6 (by first | decide | omega) | exact st.c7 (by first | decide | omega) | exact st.c8 (by first | decide | omega))) rfl rfl rfl ?_
  -- R2.4 15 := diskm.go:40 call
  refine WL.v (by exact r_len ty_usl46 rfl) rfl rfl rfl ?_
  -- R2.5 16 := diskm.go:40 move
  refine WL.v (by first | exact r_move (v := .int _ _) rfl | exact r_move rfl) rfl rfl rfl ?_
  refine WL.fin hK1099 (fun _ _ h => h) ?_
  refine WC.block ?_
  refine WC.loop (ι := Nat) (fun z => [(1, .int .i64 (s : Nat)), (5, .slice (some ⟨b, 0, none⟩) 512 512), (14, .slice wa P.pend.length wc), (15, .int .i64 (P.pend.length : Nat)), (16, .int .i64 (z : Nat))])
    (fun z w' => z ≤ P.pend.length ∧ S0 w0 (iI b 512 (settle P.pc (P.pend.take z) s) :: mdI bq bm P (.slice wa P.pend.length wc) kv t tb :: mpI bm NS :: l) w') (fun z => P.pend.length - z) 0 ⟨Nat.zero_le _, st⟩ ?_ ?_
  · skip
    repeat (first | exact sub_nil _ | refine sub_cons rfl rfl ?_)
  rintro j w ⟨hj, st⟩ K1 hK1
  by_cases hjl : ¬ j < P.pend.length
  · skip
    refine WC.seq fun K1100 hK1100 => ?_
    -- region 3
    refine WC.region ?_
    -- R3.0 17 := diskm.go:40 binOp
    refine WL.v (by first | exact r_lss rfl rfl (decide_eq_true (by omega)) | exact r_lss rfl rfl (decide_eq_false (by omega)) | exact r_lss rfl rfl rfl) rfl rfl rfl ?_
    refine WL.fin hK1100 (fun _ _ h => h) ?_
    refine WC.seq fun K1101 hK1101 => ?_
    refine WC.condF rfl rfl ?_
    refine WC.exitF hK1098 (fun _ _ h => h) ?_
    refine WC.seq fun K1102 hK1102 => ?_
    -- region 8
    refine WC.region ?_
    -- R8.0 29 := diskm.go:45 move
    refine WL.v (by first | exact r_move (v := .slice _ _ _) rfl | exact r_move rfl) rfl rfl rfl ?_
    -- R8.1 4 := diskm.go:45 assign
    refine WL.v (by first | exact r_assign (v := .slice _ _ _) rfl | exact r_assign rfl) rfl rfl rfl ?_
    refine WL.fin hK1102 (fun _ _ h => h) ?_
    refine WC.ret1 Tryd.results25 (fun _ _ h => h) rfl ?_
    refine ⟨_, rfl, b, rfl, ?_⟩
    rw [List.take_of_length_le (by omega)] at st
    exact st
  have hjl : j < P.pend.length := by omega
  obtain rfl := hwa (by omega)
  obtain ⟨p, hp⟩ : ∃ p, P.pend[j]? = some p := ⟨_, List.getElem?_eq_getElem hjl⟩
  obtain ⟨hp0, hp1⟩ := hbk.wt j p hp
  have g0 := hwrd st (fun x hx => List.mem_cons_of_mem _ (List.mem_cons_of_mem _ (List.mem_cons_of_mem _ (hXl hx)))) (j * 2) (by omega)
  have g1 := hwrd st (fun x hx => List.mem_cons_of_mem _ (List.mem_cons_of_mem _ (List.mem_cons_of_mem _ (hXl hx)))) (j * 2 + 1) (by omega)
  obtain ⟨s0, hv, hb, ho, hr⟩ := hp1
  have hl : s0.bs.length = 512 := by rw [hb, bytesOf_len]
  have ha := ho.adr (by omega)
  have hv2 : f (j * 2 + 1) = .slice (some ⟨s0.b, s0.o, none⟩) 512 s0.c := by rw [← hv]; unfold SV.v; rw [ha, hl]
  rw [hp0] at g0
  rw [hv2] at g1
  have ets : settle P.pc (P.pend.take (j + 1)) = stP (settle P.pc (P.pend.take j)) p.1 512 p.2 := by rw [List.take_add_one, hp]; exact settle_app
  by_cases hps : p.1 = s
  · skip
    refine WC.seq fun K1103 hK1103 => ?_
    -- region 3
    refine WC.region ?_
    -- R3.0 17 := diskm.go:40 binOp
    refine WL.v (by first | exact r_lss rfl rfl (decide_eq_true (by omega)) | exact r_lss rfl rfl (decide_eq_false (by omega)) | exact r_lss rfl rfl rfl) rfl rfl rfl ?_
    refine WL.fin hK1103 (fun _ _ h => h) ?_
    refine WC.seq fun K1104 hK1104 => ?_
    refine WC.condT rfl rfl ?_
    refine WC.skipF hK1104 (fun _ _ h => h) ?_
    refine WC.seq fun K1105 hK1105 => ?_
    refine WC.block ?_
    refine WC.seq fun K1106 hK1106 => ?_
    -- region 4
    refine WC.region ?_
    -- R4.0 18 := diskm.go:40 indexAddr
    refine WL.v (by exact r_indexS (j := j) ty_sl46 rfl rfl rfl hjl) rfl rfl rfl ?_
    -- R4.1 19 := diskm.go:40 load
    refine WL.v (v := .agg #[.int .i64 (p.1 : Nat), .slice (some ⟨s0.b, s0.o, none⟩) 512 s0.c]) (by exact r_loadL (vs := [_, _]) ty_agg63 rfl ⟨g0, g1, trivial⟩) rfl rfl rfl ?_
    -- R4.2 7 := diskm.go:40 alloc
    refine WL.alloc (m := 2) st ty_zero63 rfl rfl rfl ?_
    intro b7 w st
    -- R4.3 None := diskm.go:40 store
    first | refine WL.storeW (vs := [_, _]) st ty_agg63 rfl rfl rfl rfl rfl rfl ?_ | refine WL.storeL (vs := [_, _]) st ty_agg63 rfl rfl rfl rfl (by first | decide | omega) rfl rfl ?_ | refine WL.storeW (vs := [_, _]) st.front1 ty_agg63 rfl rfl rfl rfl rfl rfl ?_ | refine WL.storeL (vs := [_, _]) st.front1 ty_agg63 rfl rfl rfl rfl (by first | decide | omega) rfl rfl ?_ | refine WL.storeW (vs := [_, _]) st.front2 ty_agg63 rfl rfl rfl rfl rfl rfl ?_ | refine WL.storeL (vs := [_, _]) st.front2 ty_agg63 rfl rfl rfl rfl (by first | decide | omega) rfl rfl ?_ | refine WL.storeW (vs := [_, _]) st.front3 ty_agg63 rfl rfl rfl rfl rfl rfl ?_ | refine WL.storeL (vs := [_, _]) st.front3 ty_agg63 rfl rfl rfl rfl (by first | decide | omega) rfl rfl ?_ | refine WL.storeW (vs := [_, _]) st.front4 ty_agg63 rfl rfl rfl rfl rfl rfl ?_ | refine WL.storeL (vs := [_, _]) st.front4 ty_agg63 rfl rfl rfl rfl (by first | decide | omega) rfl rfl ?_ | refine WL.storeW (vs := [_, _]) st.front5 ty_agg63 rfl rfl rfl rfl rfl rfl ?_ | refine WL.storeL (vs := [_, _]) st.front5 ty_agg63 rfl rfl rfl rfl (by first | decide | omega) rfl rfl ?_ | refine WL.storeW (vs := [_, _]) st.front6 ty_agg63 rfl rfl rfl rfl rfl rfl ?_ | refine WL.storeL (vs := [_, _]) st.front6 ty_agg63 rfl rfl rfl rfl (by first | decide | omega) rfl rfl ?_ | refine WL.storeW (vs := [_, _]) st.front7 ty_agg63 rfl rfl rfl rfl rfl rfl ?_ | refine WL.storeL (vs := [_, _]) st.front7 ty_agg63 rfl rfl rfl rfl (by first | decide | omega) rfl rfl ?_ | refine WL.storeW (vs := [_, _]) st.front8 ty_agg63 rfl rfl rfl rfl rfl rfl ?_ | refine WL.storeL (vs := [_, _]) st.front8 ty_agg63 rfl rfl rfl rfl (by first | decide | omega) rfl rfl ?_
    intro w st
    refine WL.fin hK1106 (fun _ _ h => h) ?_
    refine WC.seq fun K1107 hK1107 => ?_
    -- region 5
    refine WC.region ?_
    -- R5.0 20 := diskm.go:41 fieldAddr
    refine WL.v (by exact r_field ty_fld63_0 rfl) rfl rfl rfl ?_
    -- R5.1 21 := diskm.go:41 load
    refine WL.v (by exact r_load1 ty_one2 rfl (by first | assumption | exact st.c0 (by first | decide | omega) | exact st.c1 (by first | decide | omega) | exact st.c2 (by first | decide | omega) | exact st.c3 (by first | decide | omega) | exact st.c4 (by first | decide | omega) | exact st.c5 (by first | decide | omega) | exact st.c6 (by first | decide | omega) | exact st.c7 (by first | decide | omega) | exact st.c8 (by first | decide | omega))) rfl rfl rfl ?_
    -- R5.2 22 := diskm.go:41 move
    refine WL.v (by first | exact r_move (v := .int _ _) rfl | exact r_move rfl) rfl rfl rfl ?_
    -- R5.3 23 := diskm.go:41 binOp
    refine WL.v (by exact r_eql rfl rfl (decide_eq_true (by omega))) rfl rfl rfl ?_
    refine WL.fin hK1107 (fun _ _ h => h) ?_
    refine WC.condT rfl rfl ?_
    -- region 6
    refine WC.region ?_
    -- R6.0 24 := diskm.go:42 move
    refine WL.v (by first | exact r_move (v := .slice _ _ _) rfl | exact r_move rfl) rfl rfl rfl ?_
    -- R6.1 25 := diskm.go:42 fieldAddr
    refine WL.v (by exact r_field ty_fld63_1 rfl) rfl rfl rfl ?_
    -- R6.2 26 := diskm.go:42 load
    refine WL.v (by exact r_load1 ty_one29 rfl (by first | assumption | exact st.c0 (by first | decide | omega) | exact st.c1 (by first | decide | omega) | exact st.c2 (by first | decide | omega) | exact st.c3 (by first | decide | omega) | exact st.c4 (by first | decide | omega) | exact st.c5 (by first | decide | omega) | exact st.c6 (by first | decide | omega) | exact st.c7 (by first | decide | omega) | exact st.c8 (by first | decide | omega))) rfl rfl rfl ?_
    -- R6.3 27 := diskm.go:42 call
    refine WL.copyM (m := 512) (m1 := 512) (o := 0) (bx := s0.b) (ox := s0.o) (news := fun j => .int .u8 (p.2 j)) st.front1 ty_sl29 rfl rfl (Nat.le_refl _) (by omega) (fun k hk => by have := hr _ _ (fun x hx => List.mem_cons_of_mem _ (List.mem_cons_of_mem _ (List.mem_cons_of_mem _ (List.mem_cons_of_mem _ (hKl hx))))) st k (by omega); rw [hb, bytesOf_get hk] at this; exact this) (fun _ _ => rfl) rfl rfl rfl ?_
    intro w st
    have st := st.drop1
    refine WL.fin hK1105 (fun _ _ h => h) ?_
    -- region 7
    refine WC.region ?_
    -- R7.0 28 := diskm.go:40 binOp
    refine WL.v (by exact r_add (r := ((j + 1 : Nat) : Int)) rfl rfl ((wi64 (by omega) (by omega)).trans (by omega))) rfl rfl rfl ?_
    -- R7.1 16 := diskm.go:40 move
    refine WL.v (by first | exact r_move (v := .int _ _) rfl | exact r_move rfl) rfl rfl rfl ?_
    refine WL.next hK1 (fun _ _ h => h) (j + 1) ⟨by omega, by rw [ets]; rw [row_eq (b := 0) (g := fun k => .int .u8 (stP (settle P.pc (P.pend.take j)) p.1 512 p.2 s k)) fun k hk => by unfold stP; rw [upds_eq, if_pos (by omega), if_pos ⟨hps.symm, hk⟩]; rfl] at st; exact st⟩ (by omega) (by repeat (first | exact sub_nil _ | refine sub_cons rfl rfl ?_))
  · skip
    refine WC.seq fun K1108 hK1108 => ?_
    -- region 3
    refine WC.region ?_
    -- R3.0 17 := diskm.go:40 binOp
    refine WL.v (by first | exact r_lss rfl rfl (decide_eq_true (by omega)) | exact r_lss rfl rfl (decide_eq_false (by omega)) | exact r_lss rfl rfl rfl) rfl rfl rfl ?_
    refine WL.fin hK1108 (fun _ _ h => h) ?_
    refine WC.seq fun K1109 hK1109 => ?_
    refine WC.condT rfl rfl ?_
    refine WC.skipF hK1109 (fun _ _ h => h) ?_
    refine WC.seq fun K1110 hK1110 => ?_
    refine WC.block ?_
    refine WC.seq fun K1111 hK1111 => ?_
    -- region 4
    refine WC.region ?_
    -- R4.0 18 := diskm.go:40 indexAddr
    refine WL.v (by exact r_indexS (j := j) ty_sl46 rfl rfl rfl hjl) rfl rfl rfl ?_
    -- R4.1 19 := diskm.go:40 load
    refine WL.v (v := .agg #[.int .i64 (p.1 : Nat), .slice (some ⟨s0.b, s0.o, none⟩) 512 s0.c]) (by exact r_loadL (vs := [_, _]) ty_agg63 rfl ⟨g0, g1, trivial⟩) rfl rfl rfl ?_
    -- R4.2 7 := diskm.go:40 alloc
    refine WL.alloc (m := 2) st ty_zero63 rfl rfl rfl ?_
    intro b7 w st
    -- R4.3 None := diskm.go:40 store
    first | refine WL.storeW (vs := [_, _]) st ty_agg63 rfl rfl rfl rfl rfl rfl ?_ | refine WL.storeL (vs := [_, _]) st ty_agg63 rfl rfl rfl rfl (by first | decide | omega) rfl rfl ?_ | refine WL.storeW (vs := [_, _]) st.front1 ty_agg63 rfl rfl rfl rfl rfl rfl ?_ | refine WL.storeL (vs := [_, _]) st.front1 ty_agg63 rfl rfl rfl rfl (by first | decide | omega) rfl rfl ?_ | refine WL.storeW (vs := [_, _]) st.front2 ty_agg63 rfl rfl rfl rfl rfl rfl ?_ | refine WL.storeL (vs := [_, _]) st.front2 ty_agg63 rfl rfl rfl rfl (by first | decide | omega) rfl rfl ?_ | refine WL.storeW (vs := [_, _]) st.front3 ty_agg63 rfl rfl rfl rfl rfl rfl ?_ | refine WL.storeL (vs := [_, _]) st.front3 ty_agg63 rfl rfl rfl rfl (by first | decide | omega) rfl rfl ?_ | refine WL.storeW (vs := [_, _]) st.front4 ty_agg63 rfl rfl rfl rfl rfl rfl ?_ | refine WL.storeL (vs := [_, _]) st.front4 ty_agg63 rfl rfl rfl rfl (by first | decide | omega) rfl rfl ?_ | refine WL.storeW (vs := [_, _]) st.front5 ty_agg63 rfl rfl rfl rfl rfl rfl ?_ | refine WL.storeL (vs := [_, _]) st.front5 ty_agg63 rfl rfl rfl rfl (by first | decide | omega) rfl rfl ?_ | refine WL.storeW (vs := [_, _]) st.front6 ty_agg63 rfl rfl rfl rfl rfl rfl ?_ | refine WL.storeL (vs := [_, _]) st.front6 ty_agg63 rfl rfl rfl rfl (by first | decide | omega) rfl rfl ?_ | refine WL.storeW (vs := [_, _]) st.front7 ty_agg63 rfl rfl rfl rfl rfl rfl ?_ | refine WL.storeL (vs := [_, _]) st.front7 ty_agg63 rfl rfl rfl rfl (by first | decide | omega) rfl rfl ?_ | refine WL.storeW (vs := [_, _]) st.front8 ty_agg63 rfl rfl rfl rfl rfl rfl ?_ | refine WL.storeL (vs := [_, _]) st.front8 ty_agg63 rfl rfl rfl rfl (by first | decide | omega) rfl rfl ?_
    intro w st
    refine WL.fin hK1111 (fun _ _ h => h) ?_
    refine WC.seq fun K1112 hK1112 => ?_
    -- region 5
    refine WC.region ?_
    -- R5.0 20 := diskm.go:41 fieldAddr
    refine WL.v (by exact r_field ty_fld63_0 rfl) rfl rfl rfl ?_
    -- R5.1 21 := diskm.go:41 load
    refine WL.v (by exact r_load1 ty_one2 rfl (by first | assumption | exact st.c0 (by first | decide | omega) | exact st.c1 (by first | decide | omega) | exact st.c2 (by first | decide | omega) | exact st.c3 (by first | decide | omega) | exact st.c4 (by first | decide | omega) | exact st.c5 (by first | decide | omega) | exact st.c6 (by first | decide | omega) | exact st.c7 (by first | decide | omega) | exact st.c8 (by first | decide | omega))) rfl rfl rfl ?_
    -- R5.2 22 := diskm.go:41 move
    refine WL.v (by first | exact r_move (v := .int _ _) rfl | exact r_move rfl) rfl rfl rfl ?_
    -- R5.3 23 := diskm.go:41 binOp
    refine WL.v (by exact r_eql rfl rfl (decide_eq_false (by omega))) rfl rfl rfl ?_
    refine WL.fin hK1112 (fun _ _ h => h) ?_
    refine WC.condF rfl rfl ?_
    refine WC.skipF hK1110 (fun _ _ h => h) ?_
    -- region 7
    refine WC.region ?_
    -- R7.0 28 := diskm.go:40 binOp
    refine WL.v (by exact r_add (r := ((j + 1 : Nat) : Int)) rfl rfl ((wi64 (by omega) (by omega)).trans (by omega))) rfl rfl rfl ?_
    -- R7.1 16 := diskm.go:40 move
    refine WL.v (by first | exact r_move (v := .int _ _) rfl | exact r_move rfl) rfl rfl rfl ?_
    have e : stP (settle P.pc (P.pend.take j)) p.1 512 p.2 s = settle P.pc (P.pend.take j) s := by funext k; unfold stP; rw [if_neg (fun h => hps h.1.symm)]
    refine WL.next hK1 (fun _ _ h => h) (j + 1) ⟨by omega, by rw [ets, e]; exact st.drop⟩ (by omega) (by repeat (first | exact sub_nil _ | refine sub_cons rfl rfl ?_))

def insideB (sec : Nat) (s c : Int) : Bool := decide (0 ≤ s ∧ s < (sec : Int) ∧ c ≤ (sec : Int) - s)
theorem inside_ok (s c : Int) (hs : s ≤ 9223372036854775807) (hsec : P.sec ≤ 65536) (st : S0 w0 (mdI bq bm P wv kv t tb :: l) w) :
    Calls Tryd.prog 44 #[.pointer (some ⟨bq, 0, none⟩), .int .i64 s, .int .i64 c] w (Ret fun v w' => v = .bool (insideB P.sec s c) ∧ S0 w0 (mdI bq bm P wv kv t tb :: l) w') := by
  by_cases h0 : 0 ≤ s
  rotate_left
  · skip
    refine enter [.pointer (some ⟨bq, 0, none⟩), .int .i64 s, .int .i64 c] Tryd.func44 rfl Tryd.ntmps44 rfl ?_
    show WC _ _ _ 27 [] [(0, .pointer (some ⟨bq, 0, none⟩)), (1, .int .i64 s), (2, .int .i64 c)] _
    refine WC.seq fun K1113 hK1113 => ?_
    -- region 0
    refine WC.region ?_
    -- R0.0 6 := diskm.go:56 assign
    refine WL.v (by first | exact r_assign (v := .bool _) rfl | exact r_assign rfl) rfl rfl rfl ?_
    refine WL.fin hK1113 (fun _ _ h => h) ?_
    refine WC.seq fun K1114 hK1114 => ?_
    -- region 1
    refine WC.region ?_
    -- R1.0 7 := diskm.go:57 move
    refine WL.v (by first | exact r_move (v := .int _ _) rfl | exact r_move rfl) rfl rfl rfl ?_
    -- R1.1 8 := diskm.go:57 binOp
    refine WL.v (by first | exact r_geq rfl rfl (decide_eq_true (by omega)) | exact r_geq rfl rfl (decide_eq_false (by omega)) | exact r_geq rfl rfl rfl) rfl rfl rfl ?_
    -- R1.2 9 := diskm.go:57 move
    refine WL.v (by first | exact r_move (v := .bool _) rfl | exact r_move rfl) rfl rfl rfl ?_
    -- R1.3 10 := diskm.go:57 move
    refine WL.no rfl rfl ?_
    -- R1.4 11 := diskm.go:57 move
    refine WL.no rfl rfl ?_
    -- R1.5 12 := diskm.go:57 nilCheck
    refine WL.no rfl rfl ?_
    -- R1.6 13 := diskm.go:57 fieldAddr
    refine WL.no rfl rfl ?_
    -- R1.7 14 := diskm.go:57 load
    refine WL.no rfl rfl ?_
    -- R1.8 15 := diskm.go:57 binOp
    refine WL.no rfl rfl ?_
    -- R1.9 16 := diskm.go:57 pick
    refine WL.v (by first | exact r_pickT (v := .bool _) rfl rfl | exact r_pickF (v := .bool _) rfl rfl) rfl rfl rfl ?_
    -- R1.10 17 := diskm.go:57 move
    refine WL.v (by first | exact r_move (v := .bool _) rfl | exact r_move rfl) rfl rfl rfl ?_
    -- R1.11 18 := diskm.go:57 move
    refine WL.no rfl rfl ?_
    -- R1.12 19 := diskm.go:57 move
    refine WL.no rfl rfl ?_
    -- R1.13 20 := diskm.go:57 nilCheck
    refine WL.no rfl rfl ?_
    -- R1.14 21 := diskm.go:57 fieldAddr
    refine WL.no rfl rfl ?_
    -- R1.15 22 := diskm.go:57 load
    refine WL.no rfl rfl ?_
    -- R1.16 23 := diskm.go:57 move
    refine WL.no rfl rfl ?_
    -- R1.17 24 := diskm.go:57 binOp
    refine WL.no rfl rfl ?_
    -- R1.18 25 := diskm.go:57 binOp
    refine WL.no rfl rfl ?_
    -- R1.19 26 := diskm.go:57 pick
    refine WL.v (by first | exact r_pickT (v := .bool _) rfl rfl | exact r_pickF (v := .bool _) rfl rfl) rfl rfl rfl ?_
    -- R1.20 6 := diskm.go:57 assign
    refine WL.v (by first | exact r_assign (v := .bool _) rfl | exact r_assign rfl) rfl rfl rfl ?_
    refine WL.fin hK1114 (fun _ _ h => h) ?_
    refine WC.ret1 Tryd.results44 (fun _ _ h => h) rfl ?_
    exact ⟨_, rfl, congrArg Value.bool (show false = insideB P.sec s c by unfold insideB; rw [decide_eq_false (fun h => h0 h.1)]), st⟩
  by_cases h1 : s < (P.sec : Int)
  rotate_left
  · skip
    refine enter [.pointer (some ⟨bq, 0, none⟩), .int .i64 s, .int .i64 c] Tryd.func44 rfl Tryd.ntmps44 rfl ?_
    show WC _ _ _ 27 [] [(0, .pointer (some ⟨bq, 0, none⟩)), (1, .int .i64 s), (2, .int .i64 c)] _
    refine WC.seq fun K1115 hK1115 => ?_
    -- region 0
    refine WC.region ?_
    -- R0.0 6 := diskm.go:56 assign
    refine WL.v (by first | exact r_assign (v := .bool _) rfl | exact r_assign rfl) rfl rfl rfl ?_
    refine WL.fin hK1115 (fun _ _ h => h) ?_
    refine WC.seq fun K1116 hK1116 => ?_
    -- region 1
    refine WC.region ?_
    -- R1.0 7 := diskm.go:57 move
    refine WL.v (by first | exact r_move (v := .int _ _) rfl | exact r_move rfl) rfl rfl rfl ?_
    -- R1.1 8 := diskm.go:57 binOp
    refine WL.v (by first | exact r_geq rfl rfl (decide_eq_true (by omega)) | exact r_geq rfl rfl (decide_eq_false (by omega)) | exact r_geq rfl rfl rfl) rfl rfl rfl ?_
    -- R1.2 9 := diskm.go:57 move
    refine WL.v (by first | exact r_move (v := .bool _) rfl | exact r_move rfl) rfl rfl rfl ?_
    -- R1.3 10 := diskm.go:57 move
    refine WL.v (by first | exact r_move (v := .int _ _) rfl | exact r_move rfl) rfl rfl rfl ?_
    -- R1.4 11 := diskm.go:57 move
    refine WL.v (by first | exact r_move (v := .pointer _) rfl | exact r_move rfl) rfl rfl rfl ?_
    -- R1.5 12 := diskm.go:57 nilCheck
    refine WL.v (by exact r_nilCheck rfl) rfl rfl rfl ?_
    -- R1.6 13 := diskm.go:57 fieldAddr
    refine WL.v (by exact r_field ty_fld48_0 rfl) rfl rfl rfl ?_
    -- R1.7 14 := diskm.go:57 load
    refine WL.v (by exact r_load1 ty_one2 rfl (by first | assumption | exact st.c0 (by first | decide | omega) | exact st.c1 (by first | decide | omega) | exact st.c2 (by first | decide | omega) | exact st.c3 (by first | decide | omega) | exact st.c4 (by first | decide | omega) | exact st.c5 (by first | decide | omega) | exact st.c6 (by first | decide | omega) | exact st.c7 (by first | decide | omega) | exact st.c8 (by first | decide | omega))) rfl rfl rfl ?_
    -- R1.8 15 := diskm.go:57 binOp
    refine WL.v (by first | exact r_lss rfl rfl (decide_eq_true (by omega)) | exact r_lss rfl rfl (decide_eq_false (by omega)) | exact r_lss rfl rfl rfl) rfl rfl rfl ?_
    -- R1.9 16 := diskm.go:57 pick
    refine WL.v (by first | exact r_pickT (v := .bool _) rfl rfl | exact r_pickF (v := .bool _) rfl rfl) rfl rfl rfl ?_
    -- R1.10 17 := diskm.go:57 move
    refine WL.v (by first | exact r_move (v := .bool _) rfl | exact r_move rfl) rfl rfl rfl ?_
    -- R1.11 18 := diskm.go:57 move
    refine WL.no rfl rfl ?_
    -- R1.12 19 := diskm.go:57 move
    refine WL.no rfl rfl ?_
    -- R1.13 20 := diskm.go:57 nilCheck
    refine WL.no rfl rfl ?_
    -- R1.14 21 := diskm.go:57 fieldAddr
    refine WL.no rfl rfl ?_
    -- R1.15 22 := diskm.go:57 load
    refine WL.no rfl rfl ?_
    -- R1.16 23 := diskm.go:57 move
    refine WL.no rfl rfl ?_
    -- R1.17 24 := diskm.go:57 binOp
    refine WL.no rfl rfl ?_
    -- R1.18 25 := diskm.go:57 binOp
    refine WL.no rfl rfl ?_
    -- R1.19 26 := diskm.go:57 pick
    refine WL.v (by first | exact r_pickT (v := .bool _) rfl rfl | exact r_pickF (v := .bool _) rfl rfl) rfl rfl rfl ?_
    -- R1.20 6 := diskm.go:57 assign
    refine WL.v (by first | exact r_assign (v := .bool _) rfl | exact r_assign rfl) rfl rfl rfl ?_
    refine WL.fin hK1116 (fun _ _ h => h) ?_
    refine WC.ret1 Tryd.results44 (fun _ _ h => h) rfl ?_
    exact ⟨_, rfl, congrArg Value.bool (show false = insideB P.sec s c by unfold insideB; rw [decide_eq_false (fun h => h1 h.2.1)]), st⟩
  by_cases h2 : c ≤ (P.sec : Int) - s
  · skip
    refine enter [.pointer (some ⟨bq, 0, none⟩), .int .i64 s, .int .i64 c] Tryd.func44 rfl Tryd.ntmps44 rfl ?_
    show WC _ _ _ 27 [] [(0, .pointer (some ⟨bq, 0, none⟩)), (1, .int .i64 s), (2, .int .i64 c)] _
    refine WC.seq fun K1117 hK1117 => ?_
    -- region 0
    refine WC.region ?_
    -- R0.0 6 := diskm.go:56 assign
    refine WL.v (by first | exact r_assign (v := .bool _) rfl | exact r_assign rfl) rfl rfl rfl ?_
    refine WL.fin hK1117 (fun _ _ h => h) ?_
    refine WC.seq fun K1118 hK1118 => ?_
    -- region 1
    refine WC.region ?_
    -- R1.0 7 := diskm.go:57 move
    refine WL.v (by first | exact r_move (v := .int _ _) rfl | exact r_move rfl) rfl rfl rfl ?_
    -- R1.1 8 := diskm.go:57 binOp
    refine WL.v (by first | exact r_geq rfl rfl (decide_eq_true (by omega)) | exact r_geq rfl rfl (decide_eq_false (by omega)) | exact r_geq rfl rfl rfl) rfl rfl rfl ?_
    -- R1.2 9 := diskm.go:57 move
    refine WL.v (by first | exact r_move (v := .bool _) rfl | exact r_move rfl) rfl rfl rfl ?_
    -- R1.3 10 := diskm.go:57 move
    refine WL.v (by first | exact r_move (v := .int _ _) rfl | exact r_move rfl) rfl rfl rfl ?_
    -- R1.4 11 := diskm.go:57 move
    refine WL.v (by first | exact r_move (v := .pointer _) rfl | exact r_move rfl) rfl rfl rfl ?_
    -- R1.5 12 := diskm.go:57 nilCheck
    refine WL.v (by exact r_nilCheck rfl) rfl rfl rfl ?_
    -- R1.6 13 := diskm.go:57 fieldAddr
    refine WL.v (by exact r_field ty_fld48_0 rfl) rfl rfl rfl ?_
    -- R1.7 14 := diskm.go:57 load
    refine WL.v (by exact r_load1 ty_one2 rfl (by first | assumption | exact st.c0 (by first | decide | omega) | exact st.c1 (by first | decide | omega) | exact st.c2 (by first | decide | omega) | exact st.c3 (by first | decide | omega) | exact st.c4 (by first | decide | omega) | exact st.c5 (by first | decide | omega) | exact st.c6 (by first | decide | omega) | exact st.c7 (by first | decide | omega) | exact st.c8 (by first | decide | omega))) rfl rfl rfl ?_
    -- R1.8 15 := diskm.go:57 binOp
    refine WL.v (by first | exact r_lss rfl rfl (decide_eq_true (by omega)) | exact r_lss rfl rfl (decide_eq_false (by omega)) | exact r_lss rfl rfl rfl) rfl rfl rfl ?_
    -- R1.9 16 := diskm.go:57 pick
    refine WL.v (by first | exact r_pickT (v := .bool _) rfl rfl | exact r_pickF (v := .bool _) rfl rfl) rfl rfl rfl ?_
    -- R1.10 17 := diskm.go:57 move
    refine WL.v (by first | exact r_move (v := .bool _) rfl | exact r_move rfl) rfl rfl rfl ?_
    -- R1.11 18 := diskm.go:57 move
    refine WL.v (by first | exact r_move (v := .int _ _) rfl | exact r_move rfl) rfl rfl rfl ?_
    -- R1.12 19 := diskm.go:57 move
    refine WL.v (by first | exact r_move (v := .pointer _) rfl | exact r_move rfl) rfl rfl rfl ?_
    -- R1.13 20 := diskm.go:57 nilCheck
    refine WL.v (by exact r_nilCheck rfl) rfl rfl rfl ?_
    -- R1.14 21 := diskm.go:57 fieldAddr
    refine WL.v (by exact r_field ty_fld48_0 rfl) rfl rfl rfl ?_
    -- R1.15 22 := diskm.go:57 load
    refine WL.v (by exact r_load1 ty_one2 rfl (by first | assumption | exact st.c0 (by first | decide | omega) | exact st.c1 (by first | decide | omega) | exact st.c2 (by first | decide | omega) | exact st.c3 (by first | decide | omega) | exact st.c4 (by first | decide | omega) | exact st.c5 (by first | decide | omega) | exact st.c6 (by first | decide | omega) | exact st.c7 (by first | decide | omega) | exact st.c8 (by first | decide | omega))) rfl rfl rfl ?_
    -- R1.16 23 := diskm.go:57 move
    refine WL.v (by first | exact r_move (v := .int _ _) rfl | exact r_move rfl) rfl rfl rfl ?_
    -- R1.17 24 := diskm.go:57 binOp
    refine WL.v (by first | exact r_sub rfl rfl (wi64 (by omega) (by omega)) | exact r_sub rfl rfl rfl) rfl rfl rfl ?_
    -- R1.18 25 := diskm.go:57 binOp
    refine WL.v (by first | exact r_leq rfl rfl (decide_eq_true (by omega)) | exact r_leq rfl rfl (decide_eq_false (by omega)) | exact r_leq rfl rfl rfl) rfl rfl rfl ?_
    -- R1.19 26 := diskm.go:57 pick
    refine WL.v (by first | exact r_pickT (v := .bool _) rfl rfl | exact r_pickF (v := .bool _) rfl rfl) rfl rfl rfl ?_
    -- R1.20 6 := diskm.go:57 assign
    refine WL.v (by first | exact r_assign (v := .bool _) rfl | exact r_assign rfl) rfl rfl rfl ?_
    refine WL.fin hK1118 (fun _ _ h => h) ?_
    refine WC.ret1 Tryd.results44 (fun _ _ h => h) rfl ?_
    exact ⟨_, rfl, congrArg Value.bool (show true = insideB P.sec s c by unfold insideB; rw [decide_eq_true ⟨h0, h1, h2⟩]), st⟩
  · skip
    refine enter [.pointer (some ⟨bq, 0, none⟩), .int .i64 s, .int .i64 c] Tryd.func44 rfl Tryd.ntmps44 rfl ?_
    show WC _ _ _ 27 [] [(0, .pointer (some ⟨bq, 0, none⟩)), (1, .int .i64 s), (2, .int .i64 c)] _
    refine WC.seq fun K1119 hK1119 => ?_
    -- region 0
    refine WC.region ?_
    -- R0.0 6 := diskm.go:56 assign
    refine WL.v (by first | exact r_assign (v := .bool _) rfl | exact r_assign rfl) rfl rfl rfl ?_
    refine WL.fin hK1119 (fun _ _ h => h) ?_
    refine WC.seq fun K1120 hK1120 => ?_
    -- region 1
    refine WC.region ?_
    -- R1.0 7 := diskm.go:57 move
    refine WL.v (by first | exact r_move (v := .int _ _) rfl | exact r_move rfl) rfl rfl rfl ?_
    -- R1.1 8 := diskm.go:57 binOp
    refine WL.v (by first | exact r_geq rfl rfl (decide_eq_true (by omega)) | exact r_geq rfl rfl (decide_eq_false (by omega)) | exact r_geq rfl rfl rfl) rfl rfl rfl ?_
    -- R1.2 9 := diskm.go:57 move
    refine WL.v (by first | exact r_move (v := .bool _) rfl | exact r_move rfl) rfl rfl rfl ?_
    -- R1.3 10 := diskm.go:57 move
    refine WL.v (by first | exact r_move (v := .int _ _) rfl | exact r_move rfl) rfl rfl rfl ?_
    -- R1.4 11 := diskm.go:57 move
    refine WL.v (by first | exact r_move (v := .pointer _) rfl | exact r_move rfl) rfl rfl rfl ?_
    -- R1.5 12 := diskm.go:57 nilCheck
    refine WL.v (by exact r_nilCheck rfl) rfl rfl rfl ?_
    -- R1.6 13 := diskm.go:57 fieldAddr
    refine WL.v (by exact r_field ty_fld48_0 rfl) rfl rfl rfl ?_
    -- R1.7 14 := diskm.go:57 load
    refine WL.v (by exact r_load1 ty_one2 rfl (by first | assumption | exact st.c0 (by first | decide | omega) | exact st.c1 (by first | decide | omega) | exact st.c2 (by first | decide | omega) | exact st.c3 (by first | decide | omega) | exact st.c4 (by first | decide | omega) | exact st.c5 (by first | decide | omega) | exact st.c6 (by first | decide | omega) | exact st.c7 (by first | decide | omega) | exact st.c8 (by first | decide | omega))) rfl rfl rfl ?_
    -- R1.8 15 := diskm.go:57 binOp
    refine WL.v (by first | exact r_lss rfl rfl (decide_eq_true (by omega)) | exact r_lss rfl rfl (decide_eq_false (by omega)) | exact r_lss rfl rfl rfl) rfl rfl rfl ?_
    -- R1.9 16 := diskm.go:57 pick
    refine WL.v (by first | exact r_pickT (v := .bool _) rfl rfl | exact r_pickF (v := .bool _) rfl rfl) rfl rfl rfl ?_
    -- R1.10 17 := diskm.go:57 move
    refine WL.v (by first | exact r_move (v := .bool _) rfl | exact r_move rfl) rfl rfl rfl ?_
    -- R1.11 18 := diskm.go:57 move
    refine WL.v (by first | exact r_move (v := .int _ _) rfl | exact r_move rfl) rfl rfl rfl ?_
    -- R1.12 19 := diskm.go:57 move
    refine WL.v (by first | exact r_move (v := .pointer _) rfl | exact r_move rfl) rfl rfl rfl ?_
    -- R1.13 20 := diskm.go:57 nilCheck
    refine WL.v (by exact r_nilCheck rfl) rfl rfl rfl ?_
    -- R1.14 21 := diskm.go:57 fieldAddr
    refine WL.v (by exact r_field ty_fld48_0 rfl) rfl rfl rfl ?_
    -- R1.15 22 := diskm.go:57 load
    refine WL.v (by exact r_load1 ty_one2 rfl (by first | assumption | exact st.c0 (by first | decide | omega) | exact st.c1 (by first | decide | omega) | exact st.c2 (by first | decide | omega) | exact st.c3 (by first | decide | omega) | exact st.c4 (by first | decide | omega) | exact st.c5 (by first | decide | omega) | exact st.c6 (by first | decide | omega) | exact st.c7 (by first | decide | omega) | exact st.c8 (by first | decide | omega))) rfl rfl rfl ?_
    -- R1.16 23 := diskm.go:57 move
    refine WL.v (by first | exact r_move (v := .int _ _) rfl | exact r_move rfl) rfl rfl rfl ?_
    -- R1.17 24 := diskm.go:57 binOp
    refine WL.v (by first | exact r_sub rfl rfl (wi64 (by omega) (by omega)) | exact r_sub rfl rfl rfl) rfl rfl rfl ?_
    -- R1.18 25 := diskm.go:57 binOp
    refine WL.v (by first | exact r_leq rfl rfl (decide_eq_true (by omega)) | exact r_leq rfl rfl (decide_eq_false (by omega)) | exact r_leq rfl rfl rfl) rfl rfl rfl ?_
    -- R1.19 26 := diskm.go:57 pick
    refine WL.v (by first | exact r_pickT (v := .bool _) rfl rfl | exact r_pickF (v := .bool _) rfl rfl) rfl rfl rfl ?_
    -- R1.20 6 := diskm.go:57 assign
    refine WL.v (by first | exact r_assign (v := .bool _) rfl | exact r_assign rfl) rfl rfl rfl ?_
    refine WL.fin hK1120 (fun _ _ h => h) ?_
    refine WC.ret1 Tryd.results44 (fun _ _ h => h) rfl ?_
    exact ⟨_, rfl, congrArg Value.bool (show false = insideB P.sec s c by unfold insideB; rw [decide_eq_false (fun h => h2 h.2.2)]), st⟩
end Go.Proofs.Qxb6500837aDoor

