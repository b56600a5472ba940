import Derived.Test.Qxb6500835aV7
set_option linter.unusedVariables false
set_option linter.unusedSimpArgs false
namespace Go.Proofs.Qxb6500835a
open Go.RowKit Go.E1 Go.Conv

theorem ty_conv0 : zeroL Try.prog 27 = some (List.replicate 512 (.int .i32 0) ++ [.slice none 0 0]) := by kernel_rfl
theorem nth_rep (k : Nat) (z s : Value) : (∀ i, i < k → nth (List.replicate k z ++ [s]) i = z) ∧ nth (List.replicate k z ++ [s]) k = s := by
  refine ⟨fun i hi => ?_, ?_⟩
  · unfold nth
    rw [List.getD_eq_getElem?_getD, List.getElem?_append_left (by simpa using hi), List.getElem?_replicate, if_pos hi]; rfl
  · unfold nth
    rw [List.getD_eq_getElem?_getD, List.getElem?_append_right (by simp)]
    simp
theorem rep_len (k : Nat) (z s : Value) : (List.replicate k z ++ [s]).length = k + 1 := by simp
theorem conv0 : ConvF (nth (List.replicate 512 (.int .i32 0) ++ [.slice none 0 0])) (.slice none 0 0) :=
  ⟨fun i hi => (nth_rep 512 _ _).1 i (by omega), fun i hi => ⟨0, (nth_rep 512 _ _).1 (256 + i) (by omega)⟩, (nth_rep 512 _ _).2⟩


set_option maxHeartbeats 16000000 in
theorem revertInverts_ok (a : Option Addr) (sb so n c : Nat) (C : Nat → List Value) (la : Nat → Option Addr) (ln lcp lb lo : Nat → Nat) (X : Nat → Nat → Pr) (V : Nat → Nat → Nat)
    (xa : Nat → Option Addr) (gn gcp xb xo : Nat → Nat) (I : Nat → Nat → Int) (da : Nat → Nat → Option Addr) (db dO dl dc : Nat → Nat → Nat) (D : Nat → Nat → Nat → Int) {w : World}
    (hc : n ≤ 140737488355328) (ha : 0 < n → a = some ⟨sb, so, none⟩) (hs : Scr w sb so n C) (hL : Lists w n C la ln lcp lb lo X V) (hP : Gps w n C xa gn gcp xb xo I da db dO dl dc D) :
    Calls Try.prog 3 #[.slice a n c] w (Ret fun v w' => v = .bool true ∧ St w (fun _ => False) [] w') := by
  have st := St.init w (fun _ => False)
  obtain ⟨w0, hw0⟩ : ∃ w0, w0 = w := ⟨w, rfl⟩
  have st : St w0 (fun _ => False) [] w := by rw [hw0]; exact st
  have hs : Scr w0 sb so n C := by rw [hw0]; exact hs
  have hL : Lists w0 n C la ln lcp lb lo X V := by rw [hw0]; exact hL
  have hP : Gps w0 n C xa gn gcp xb xo I da db dO dl dc D := by rw [hw0]; exact hP
  have goal : Calls Try.prog 3 #[.slice a n c] w (Ret fun v w' => v = .bool true ∧ St w0 (fun _ => False) [] w') := by
    clear hw0
    refine enter [.slice a n c] Try.func3 rfl Try.ntmps3 rfl ?_
    show WC _ _ _ 68 [] [(0, .slice a n c)] _
    refine WC.seq fun K591 hK591 => ?_
    -- region 0
    refine WC.region ?_
    -- R0.0 2 := law.go:167 assign
    refine WL.v (by first | exact r_assign (v := .bool _) rfl | exact r_assign rfl) rfl rfl rfl ?_
    refine WL.fin hK591 (fun _ _ h => h) ?_
    refine WC.seq fun K592 hK592 => ?_
    refine WC.seq fun K593 hK593 => ?_
    -- region 1
    refine WC.region ?_
    -- R1.0 14 := law.go:168 move
    refine WL.v (by first | exact r_move (v := .slice _ _ _) rfl | exact r_move rfl) rfl rfl rfl ?_
    -- R1.1 15 := law.go:168 call
    refine WL.call (r_call ty_call4 rfl) rfl rfl rfl (zzSmall1_ok a sb so n c C ln gn dl hc ha hs (fun i hi => ⟨_, _, hL.val i hi⟩) (fun i hi => ⟨_, _, _, _, hP.val i hi, hP.adr i hi, fun g hg => ⟨_, _, (hP.at_ i hi g hg).2.1⟩⟩) st) ?_
    rintro _ w ⟨t, rfl, ht, st⟩
    -- R1.2 16 := law.go:168 unOp
    refine WL.v (by first | exact r_notT rfl | exact r_notF rfl | exact r_not rfl) rfl rfl rfl ?_
    refine WL.fin hK593 (fun _ _ h => h) ?_
    rcases t with _ | _
    · skip
      refine WC.condT rfl rfl ?_
      refine WC.seq fun K594 hK594 => ?_
      -- region 2
      refine WC.region ?_
      -- R2.0 2 := law.go:169 assign
      refine WL.v (by first | exact r_assign (v := .bool _) rfl | exact r_assign rfl) rfl rfl rfl ?_
      refine WL.fin hK594 (fun _ _ h => h) ?_
      refine WC.ret1 Try.results3 (fun _ _ h => h) rfl ?_
      exact ⟨_, rfl, rfl, st⟩
    obtain ⟨hn, hsz⟩ := ht rfl
    refine WC.condF rfl rfl ?_
    refine WC.skipF hK592 (fun _ _ h => h) ?_
    refine WC.seq fun K595 hK595 => ?_
    -- region 3
    refine WC.region ?_
    -- R3.0 3 := law.go:172 alloc
    refine WL.alloc (m := 513) st ty_conv0 (rep_len 512 _ _) rfl rfl ?_
    intro cb w st
    refine WL.fin hK595 (fun _ _ h => h) ?_
    refine WC.seq fun K596 hK596 => ?_
    refine WC.seq fun K597 hK597 => ?_
    -- region 4
    refine WC.region ?_
    -- R4.0 17 := law.go:173 move
    refine WL.v (by first | exact r_move (v := .slice _ _ _) rfl | exact r_move rfl) rfl rfl rfl ?_
    -- R4.1 18 := law.go:173 call
    refine WL.v (by exact r_len ty_usl22 rfl) rfl rfl rfl ?_
    -- R4.2 19 := law.go:173 move
    refine WL.v (by first | exact r_move (v := .int _ _) rfl | exact r_move rfl) rfl rfl rfl ?_
    refine WL.fin hK597 (fun _ _ h => h) ?_
    refine WC.block ?_
    refine WC.loop (ι := Nat × (Nat → Value) × Value × List HI) (fun z => [(3, .pointer (some ⟨cb, 0, none⟩)), (17, .slice a n c), (18, .int .i64 (n : Nat)), (19, .int .i64 (z.1 : Nat))])
      (fun z w' => St w0 (fun _ => False) ((cb, Row 27 513 z.2.1) :: z.2.2.2) w' ∧ z.1 ≤ n ∧ ConvF z.2.1 z.2.2.1 ∧ FewOk z.2.2.1 z.2.2.2) (fun z => n - z.1) (0, _, .slice none 0 0, []) ⟨st, Nat.zero_le _, conv0, .inl ⟨rfl, rfl⟩⟩ ?_ ?_
    · skip
      repeat (first | exact sub_nil _ | refine sub_cons rfl rfl ?_)
    clear st
    rintro ⟨i, F, fv, FI⟩ w ⟨st, hi, hF, hfew⟩ K1 hK1
    simp only at st hi hF hfew hK1 ⊢
    by_cases hlt : i < n
    · obtain rfl := ha (by omega)
      obtain ⟨hlN, hgN, hbN⟩ := hsz i hlt
      have hval := hL.val i hlt
      have hlat := hL.at_ i hlt
      have hgal := hP.val i hlt
      have hgat := hP.at_ i hlt
      obtain ⟨ai, hae⟩ : ∃ ai, ai = la i := ⟨_, rfl⟩
      have hai : 0 < ln i → ai = some ⟨lb i, lo i, none⟩ := fun h => hae.trans (hL.adr i hlt h)
      rw [← hae] at hval
      obtain ⟨xi, hxe⟩ : ∃ xi, xi = xa i := ⟨_, rfl⟩
      have hxi : 0 < gn i → xi = some ⟨xb i, xo i, none⟩ := fun h => hxe.trans (hP.adr i hlt h)
      rw [← hxe] at hgal
      refine WC.seq fun K598 hK598 => ?_
      -- region 5
      refine WC.region ?_
      -- R5.0 20 := law.go:173 binOp
      refine WL.v (by first | exact r_lss rfl rfl (decide_eq_true (by omega)) | exact r_lss rfl rfl (decide_eq_false (by omega)) | exact r_lss rfl rfl rfl) rfl rfl rfl ?_
      refine WL.fin hK598 (fun _ _ h => h) ?_
      refine WC.seq fun K599 hK599 => ?_
      refine WC.condT rfl rfl ?_
      refine WC.skipF hK599 (fun _ _ h => h) ?_
      refine WC.seq fun K600 hK600 => ?_
      refine WC.block ?_
      refine WC.seq fun K601 hK601 => ?_
      -- region 6
      refine WC.region ?_
      -- R6.0 21 := law.go:173 indexAddr
      refine WL.v (by exact r_indexS ty_sl22 rfl rfl rfl (by omega)) rfl rfl rfl ?_
      -- R6.1 22 := law.go:173 load
      refine WL.v (by exact r_loadL (vs := [_, _, _, _, _, _, _, _, _, _, _, _, _, _, _, _]) ty_agg41 rfl ⟨(st.old (fun h => h) (hs.cell i hlt 0 (by omega))), (st.old (fun h => h) (hs.cell i hlt 1 (by omega))), (st.old (fun h => h) (hs.cell i hlt 2 (by omega))), (st.old (fun h => h) (hs.cell i hlt 3 (by omega))), (st.old (fun h => h) (hs.cell i hlt 4 (by omega))), (st.old (fun h => h) (hs.cell i hlt 5 (by omega))), (st.old (fun h => h) (hs.cell i hlt 6 (by omega))), (st.old (fun h => h) (hs.cell i hlt 7 (by omega))), (st.old (fun h => h) (hs.cell i hlt 8 (by omega))), (st.old (fun h => h) (hs.cell i hlt 9 (by omega))), (st.old (fun h => h) (hs.cell i hlt 10 (by omega))), (st.old (fun h => h) (hs.cell i hlt 11 (by omega))), (st.old (fun h => h) (hs.cell i hlt 12 (by omega))), (st.old (fun h => h) (hs.cell i hlt 13 (by omega))), (st.old (fun h => h) (hs.cell i hlt 14 (by omega))), (st.old (fun h => h) (hs.cell i hlt 15 (by omega))), trivial⟩) rfl rfl rfl ?_
      -- R6.2 5 := law.go:173 alloc
      refine WL.alloc st ty_zero41 rfl rfl rfl ?_
      intro b5 w st
      -- R6.3 None := law.go:173 store
      refine WL.storeW (m := 16) (vs := [_, _, _, _, _, _, _, _, _, _, _, _, _, _, _, _]) st ty_agg41 rfl rfl (op_one (hs.rd i hlt)) rfl rfl rfl ?_
      intro w st
      have st : St w0 (fun _ => False) ((cb, Row 27 513 F) :: (FI ++ [(b5, Row 41 16 (nth (opL (C i))))])) w := st_toEnd st
      refine WL.fin hK601 (fun _ _ h => h) ?_
      refine WC.seq fun K602 hK602 => ?_
      refine WC.seq fun K603 hK603 => ?_
      -- region 7
      refine WC.region ?_
      -- R7.0 24 := law.go:174 fieldAddr
      refine WL.v (by exact r_field ty_fld41_9 rfl) rfl rfl rfl ?_
      -- R7.1 25 := law.go:174 load
      refine WL.v (by exact r_load1 ty_one25 rfl ((st.cell (t := 41) (n := 16) (f := nth (opL (C i))) (by simp) (by decide)).trans (congrArg some hval))) rfl rfl rfl ?_
      -- R7.2 26 := law.go:174 call
      refine WL.call (r_call ty_call5 rfl) rfl rfl rfl (convert_ok cb (lb i) (lo i) (ln i) (lcp i) ai (X i) (V i) F fv FI hlN hai (hL.impc i hlt) (hL.doc i hlt) (fun its w' s k hk => ⟨s.old (fun h => h) (hlat k hk).1, s.old (fun h => h) (hlat k hk).2⟩) hF hfew st) ?_
      intro v w hv
      obtain ⟨gv, er, rfl, hv2⟩ := conv_split hF hfew hv
      clear hv
      -- R7.3 23 := law.go:174 move
      refine WL.v (by first | exact r_move (v := .tuple _) rfl | exact r_move rfl) rfl rfl rfl ?_
      -- R7.4 27 := law.go:174 extract
      refine WL.v (by first | exact r_extract (v := .slice _ _ _) rfl rfl | exact r_extract rfl rfl) rfl rfl rfl ?_
      -- R7.5 28 := law.go:174 extract
      refine WL.v (by first | exact r_extract (v := .nilIface) rfl rfl | exact r_extract (v := .iface _ _) rfl rfl | exact r_extract rfl rfl) rfl rfl rfl ?_
      -- R7.6 6 := law.go:174 assign
      refine WL.v (by first | exact r_assign (v := .slice _ _ _) rfl | exact r_assign rfl) rfl rfl rfl ?_
      -- R7.7 7 := law.go:174 assign
      refine WL.v (by first | exact r_assign (v := .nilIface) rfl | exact r_assign (v := .iface _ _) rfl | exact r_assign rfl) rfl rfl rfl ?_
      refine WL.fin hK603 (fun _ _ h => h) ?_
      rcases hv2 with ⟨_, ⟨eb, rfl⟩, st⟩ | ⟨hokl1, rfl, ga1, gb1, gc1, q1, S1, A1, its1, F1, fv1, FI1, rfl, hga1, hO1, hGI1, hF1, hfew1, st⟩
      · skip
        refine WC.seq fun K604 hK604 => ?_
        -- region 8
        refine WC.region ?_
        -- R8.0 29 := law.go:174 move
        refine WL.v (by first | exact r_move (v := .nilIface) rfl | exact r_move (v := .iface _ _) rfl | exact r_move rfl) rfl rfl rfl ?_
        -- R8.1 30 := law.go:174 binOp
        refine WL.v (by first | exact r_nil_eql ty_ifc43 rfl | exact r_some_eql ty_ifc43 rfl) rfl rfl rfl ?_
        refine WL.fin hK604 (fun _ _ h => h) ?_
        refine WC.condF rfl rfl ?_
        refine WC.skipF hK602 (fun _ _ h => h) ?_
        refine WC.seq fun K605 hK605 => ?_
        -- region 12
        refine WC.region ?_
        -- R12.0 46 := law.go:180 fieldAddr
        refine WL.v (by exact r_field ty_fld41_10 rfl) rfl rfl rfl ?_
        -- R12.1 47 := law.go:180 load
        refine WL.v (by exact r_load1 ty_one37 rfl ((st.cell (t := 41) (n := 16) (f := nth (opL (C i))) (by simp) (by decide)).trans (congrArg some hgal))) rfl rfl rfl ?_
        -- R12.2 48 := law.go:180 call
        refine WL.call (r_call ty_call6 rfl) rfl rfl rfl (revert_ok xi (gn i) (gcp i) (xb i) (xo i) (I i) (da i) (db i) (dO i) (dl i) (dc i) (D i) hgN hbN hxi (fun its w' s => hgat.old s) st) ?_
        intro v w hv
        obtain ⟨lv, er, rfl, hv3⟩ := rev_split hv
        clear hv
        -- R12.3 45 := law.go:180 move
        refine WL.v (by first | exact r_move (v := .tuple _) rfl | exact r_move rfl) rfl rfl rfl ?_
        -- R12.4 49 := law.go:180 extract
        refine WL.v (by first | exact r_extract (v := .slice _ _ _) rfl rfl | exact r_extract rfl rfl) rfl rfl rfl ?_
        -- R12.5 50 := law.go:180 extract
        refine WL.v (by first | exact r_extract (v := .nilIface) rfl rfl | exact r_extract (v := .iface _ _) rfl rfl | exact r_extract rfl rfl) rfl rfl rfl ?_
        -- R12.6 10 := law.go:180 assign
        refine WL.v (by first | exact r_assign (v := .slice _ _ _) rfl | exact r_assign rfl) rfl rfl rfl ?_
        -- R12.7 11 := law.go:180 assign
        refine WL.v (by first | exact r_assign (v := .nilIface) rfl | exact r_assign (v := .iface _ _) rfl | exact r_assign rfl) rfl rfl rfl ?_
        refine WL.fin hK605 (fun _ _ h => h) ?_
        rcases hv3 with ⟨_, ⟨eb, rfl⟩, st⟩ | ⟨hVg, rfl, lb2, B2, f2, rfl, hO2, hr2, hls2, st⟩
        · skip
          refine WC.seq fun K606 hK606 => ?_
          -- region 13
          refine WC.region ?_
          -- R13.0 51 := law.go:180 move
          refine WL.v (by first | exact r_move (v := .nilIface) rfl | exact r_move (v := .iface _ _) rfl | exact r_move rfl) rfl rfl rfl ?_
          -- R13.1 52 := law.go:180 binOp
          refine WL.v (by first | exact r_nil_eql ty_ifc43 rfl | exact r_some_eql ty_ifc43 rfl) rfl rfl rfl ?_
          refine WL.fin hK606 (fun _ _ h => h) ?_
          refine WC.condF rfl rfl ?_
          refine WC.skipF hK600 (fun _ _ h => h) ?_
          -- region 17
          refine WC.region ?_
          -- R17.0 67 := law.go:173 binOp
          refine WL.v (by first | exact r_add rfl rfl (wi64 (by omega) (by omega)) | exact r_add rfl rfl rfl) rfl rfl rfl ?_
          -- R17.1 19 := law.go:173 move
          refine WL.v (by first | exact r_move (v := .int _ _) rfl | exact r_move rfl) rfl rfl rfl ?_
          refine WL.next hK1 (fun _ _ h => h) (i + 1, F, fv, FI) ⟨st.sublist (List.Sublist.cons_cons _ (List.sublist_append_left _ _)), by show i + 1 ≤ n; omega, hF, hfew⟩ (by show n - (i + 1) < n - i; omega) (by repeat (first | exact sub_nil _ | refine sub_cons rfl rfl ?_))
        · have hokl := out_okl hO2 hVg hr2
          have st := st_inEnd st
          refine WC.seq fun K607 hK607 => ?_
          -- region 13
          refine WC.region ?_
          -- R13.0 51 := law.go:180 move
          refine WL.v (by first | exact r_move (v := .nilIface) rfl | exact r_move (v := .iface _ _) rfl | exact r_move rfl) rfl rfl rfl ?_
          -- R13.1 52 := law.go:180 binOp
          refine WL.v (by first | exact r_nil_eql ty_ifc43 rfl | exact r_some_eql ty_ifc43 rfl) rfl rfl rfl ?_
          refine WL.fin hK607 (fun _ _ h => h) ?_
          refine WC.condT rfl rfl ?_
          refine WC.seq fun K608 hK608 => ?_
          -- region 14
          refine WC.region ?_
          -- R14.0 54 := law.go:181 move
          refine WL.v (by first | exact r_move (v := .slice _ _ _) rfl | exact r_move rfl) rfl rfl rfl ?_
          -- R14.1 55 := law.go:181 call
          refine WL.call (r_call ty_call5 rfl) rfl rfl rfl (convert_ok cb lb2 0 (bas (dl i) (gn i)) (bas (dl i) (gn i)) _ B2 (fun k => (B2 k).2.toNat) F fv FI hbN (fun _ => rfl) (fun k hk => ?_) (fun k hk => ?_) (fun its w' s k hk => ⟨(s.cell (t := 63) (n := bas (dl i) (gn i) * 2) (f := f2) (by simp) (by omega)).trans (congrArg some (hls2 k hk).1), (s.cell (t := 63) (n := bas (dl i) (gn i) * 2) (f := f2) (by simp) (by omega)).trans (congrArg some (hls2 k hk).2)⟩) hF hfew st) ?_
          · obtain ⟨g, j, hg, hj, he⟩ := out_in hO2 hk
            have := hP.impc i hlt g hg
            simp only [he]; omega
          · obtain ⟨g, j, hg, hj, he⟩ := out_in hO2 hk
            have := hP.doc i hlt g hg j hj
            simp only [he]; exact this
          intro v w hv
          obtain ⟨gv2, er2, rfl, hv4⟩ := conv_split hF hfew hv
          clear hv
          -- R14.2 53 := law.go:181 move
          refine WL.v (by first | exact r_move (v := .tuple _) rfl | exact r_move rfl) rfl rfl rfl ?_
          -- R14.3 56 := law.go:181 extract
          refine WL.v (by first | exact r_extract (v := .slice _ _ _) rfl rfl | exact r_extract rfl rfl) rfl rfl rfl ?_
          -- R14.4 57 := law.go:181 extract
          refine WL.v (by first | exact r_extract (v := .nilIface) rfl rfl | exact r_extract (v := .iface _ _) rfl rfl | exact r_extract rfl rfl) rfl rfl rfl ?_
          -- R14.5 12 := law.go:181 assign
          refine WL.v (by first | exact r_assign (v := .slice _ _ _) rfl | exact r_assign rfl) rfl rfl rfl ?_
          -- R14.6 13 := law.go:181 assign
          refine WL.v (by first | exact r_assign (v := .nilIface) rfl | exact r_assign (v := .iface _ _) rfl | exact r_assign rfl) rfl rfl rfl ?_
          refine WL.fin hK608 (fun _ _ h => h) ?_
          rcases hv4 with ⟨hno, _⟩ | ⟨_, rfl, ga2, gb2, gc2, q2, S2, A2, its2, F2, fv2, FI2, rfl, hga2, hO3, hGI2, hF2, hfew2, st⟩
          · exact absurd hokl hno
          obtain ⟨rfl, e1, e2, e3⟩ := out_same hO2 hVg hO3
          obtain ⟨db2, dc2, hGA2⟩ := hGI2
          have hdlN : ∀ t, t < gn i → dl i t ≤ 1000000000 := fun t ht => by
            have h1 : bas (dl i) t + dl i t ≤ bas (dl i) (gn i) := bas_mono (dl i) (show t + 1 ≤ gn i by omega)
            omega
          refine WC.seq fun K609 hK609 => ?_
          -- region 15
          refine WC.region ?_
          -- R15.0 58 := law.go:182 move
          refine WL.v (by first | exact r_move (v := .nilIface) rfl | exact r_move (v := .iface _ _) rfl | exact r_move rfl) rfl rfl rfl ?_
          -- R15.1 59 := law.go:182 binOp
          refine WL.v (by first | exact r_nil_neq ty_ifc43 rfl | exact r_some_neq ty_ifc43 rfl) rfl rfl rfl ?_
          -- R15.2 60 := law.go:182 move
          refine WL.v (by first | exact r_move (v := .bool _) rfl | exact r_move rfl) rfl rfl rfl ?_
          -- R15.3 61 := law.go:182 move
          refine WL.v (by first | exact r_move (v := .slice _ _ _) rfl | exact r_move rfl) rfl rfl rfl ?_
          -- R15.4 62 := law.go:182 fieldAddr
          refine WL.v (by exact r_field ty_fld41_10 rfl) rfl rfl rfl ?_
          -- R15.5 63 := law.go:182 load
          refine WL.v (by exact r_load1 ty_one37 rfl ((st.cell (t := 41) (n := 16) (f := nth (opL (C i))) (by simp) (by decide)).trans (congrArg some hgal))) rfl rfl rfl ?_
          -- R15.6 64 := law.go:182 call
          refine WL.call (r_call ty_call8 rfl) rfl rfl rfl (equalGroups_ok ga2 xi (gn i) gc2 (gcp i) gb2 0 (xb i) (xo i) (I i) (fun _ => db2) S2 (db i) (dO i) (dl i) dc2 (dc i) (D i) (by omega) hdlN hga2 hxi
            (fun w' s => ⟨GAt.congr (hGA2 _ w' s (fun x hx => by simp [hx])) e1 e2 e3, (hgat.old s).gat fun t ht => (hVg t ht).2.2.1⟩) st) ?_
          rintro _ w ⟨rfl, st⟩
          -- R15.7 65 := law.go:182 unOp
          refine WL.v (by first | exact r_notT rfl | exact r_notF rfl | exact r_not rfl) rfl rfl rfl ?_
          -- R15.8 66 := law.go:182 pick
          refine WL.v (by first | exact r_pickT (v := .bool _) rfl rfl | exact r_pickF (v := .bool _) rfl rfl) rfl rfl rfl ?_
          refine WL.fin hK609 (fun _ _ h => h) ?_
          refine WC.condF rfl rfl ?_
          refine WC.skipF hK600 (fun _ _ h => h) ?_
          -- region 17
          refine WC.region ?_
          -- R17.0 67 := law.go:173 binOp
          refine WL.v (by first | exact r_add rfl rfl (wi64 (by omega) (by omega)) | exact r_add rfl rfl rfl) rfl rfl rfl ?_
          -- R17.1 19 := law.go:173 move
          refine WL.v (by first | exact r_move (v := .int _ _) rfl | exact r_move rfl) rfl rfl rfl ?_
          refine WL.next hK1 (fun _ _ h => h) (i + 1, F2, fv2, FI2) ⟨st.sublist (List.Sublist.cons_cons _ (List.sublist_append_left _ _)), by show i + 1 ≤ n; omega, hF2, hfew2⟩ (by show n - (i + 1) < n - i; omega) (by repeat (first | exact sub_nil _ | refine sub_cons rfl rfl ?_))
      · obtain ⟨db1, dc1, hGA1⟩ := hGI1
        have hb1 : bas (fun t => S1 (t + 1) - S1 t) q1 = ln i := (bas_S hO1.s0 hO1.lt q1 (Nat.le_refl _)).trans hO1.sq
        have hq1 := Out.q_le hO1
        have hVD : Vg q1 (fun t => S1 (t + 1) - S1 t) (fun t j => (A1 (S1 t + j)).1) (fun t => (A1 (S1 t)).2) ∧ Dist q1 (fun t => S1 (t + 1) - S1 t) (fun t j => (A1 (S1 t + j)).1) := ⟨hO1.vg fun k hk => (hokl1 k hk).1, hO1.dist hokl1.rise⟩
        refine WC.seq fun K610 hK610 => ?_
        -- region 8
        refine WC.region ?_
        -- R8.0 29 := law.go:174 move
        refine WL.v (by first | exact r_move (v := .nilIface) rfl | exact r_move (v := .iface _ _) rfl | exact r_move rfl) rfl rfl rfl ?_
        -- R8.1 30 := law.go:174 binOp
        refine WL.v (by first | exact r_nil_eql ty_ifc43 rfl | exact r_some_eql ty_ifc43 rfl) rfl rfl rfl ?_
        refine WL.fin hK610 (fun _ _ h => h) ?_
        refine WC.condT rfl rfl ?_
        refine WC.seq fun K611 hK611 => ?_
        -- region 9
        refine WC.region ?_
        -- R9.0 32 := law.go:175 move
        refine WL.v (by first | exact r_move (v := .slice _ _ _) rfl | exact r_move rfl) rfl rfl rfl ?_
        -- R9.1 33 := law.go:175 call
        refine WL.call (r_call ty_call6 rfl) rfl rfl rfl (revert_ok ga1 q1 gc1 gb1 0 (fun t => (A1 (S1 t)).2) (fun t => some ⟨db1, S1 t, none⟩) (fun _ => db1) S1 (fun t => S1 (t + 1) - S1 t) dc1 (fun t j => (A1 (S1 t + j)).1) (by omega) (by rw [hb1]; exact hlN) hga1
          (fun its' w' s => (hGA1 _ w' s (fun x hx => by simp [hx])).gin) st) ?_
        intro v w hv
        rcases hv with ⟨hno, _⟩ | ⟨_, lb2, B2, f2, rfl, hO2, hr2, hls2, st⟩
        · exact absurd hVD hno
        have hmem : ∀ k, k < bas (fun t => S1 (t + 1) - S1 t) q1 → B2 k = X i k := by
          obtain ⟨hA, -, -⟩ := hO2.unique (A' := cat (fun t j => (A1 (S1 t + j)).1) (fun t => (A1 (S1 t)).2) (fun t => S1 (t + 1) - S1 t) q1) hO2
          have hp1 : ((List.range (bas (fun t => S1 (t + 1) - S1 t) q1)).map (cat (fun t j => (A1 (S1 t + j)).1) (fun t => (A1 (S1 t)).2) (fun t => S1 (t + 1) - S1 t) q1)) = (List.range (bas (fun t => S1 (t + 1) - S1 t) q1)).map A1 := by
            refine List.map_congr_left fun p hp => ?_
            have hp := List.mem_range.1 hp
            obtain ⟨t, ht, h1, h2⟩ := hO1.place (k := p) (by omega)
            have h3 := bas_S hO1.s0 hO1.lt t (by omega)
            have h4 := cat_at (fun t j => (A1 (S1 t + j)).1) (fun t => (A1 (S1 t)).2) (fun t => S1 (t + 1) - S1 t) q1 t (p - S1 t) ht (by show p - S1 t < S1 (t + 1) - S1 t; omega)
            rw [h3, show S1 t + (p - S1 t) = p by omega] at h4
            rw [h4, ← hO1.same t ht p h1 h2]
          have hp2 := hO2.perm.symm
          rw [hp1, hb1] at hp2
          rw [hb1]
          exact docs_unique (hp2.trans hO1.perm) hokl1.rise (by rw [← hb1]; exact hr2)
        rw [hb1] at hls2 hmem st ⊢
        -- R9.2 31 := law.go:175 move
        refine WL.v (by first | exact r_move (v := .tuple _) rfl | exact r_move rfl) rfl rfl rfl ?_
        -- R9.3 34 := law.go:175 extract
        refine WL.v (by first | exact r_extract (v := .slice _ _ _) rfl rfl | exact r_extract rfl rfl) rfl rfl rfl ?_
        -- R9.4 35 := law.go:175 extract
        refine WL.v (by first | exact r_extract (v := .nilIface) rfl rfl | exact r_extract (v := .iface _ _) rfl rfl | exact r_extract rfl rfl) rfl rfl rfl ?_
        -- R9.5 8 := law.go:175 assign
        refine WL.v (by first | exact r_assign (v := .slice _ _ _) rfl | exact r_assign rfl) rfl rfl rfl ?_
        -- R9.6 9 := law.go:175 assign
        refine WL.v (by first | exact r_assign (v := .nilIface) rfl | exact r_assign (v := .iface _ _) rfl | exact r_assign rfl) rfl rfl rfl ?_
        refine WL.fin hK611 (fun _ _ h => h) ?_
        refine WC.seq fun K612 hK612 => ?_
        -- region 10
        refine WC.region ?_
        -- R10.0 36 := law.go:176 move
        refine WL.v (by first | exact r_move (v := .nilIface) rfl | exact r_move (v := .iface _ _) rfl | exact r_move rfl) rfl rfl rfl ?_
        -- R10.1 37 := law.go:176 binOp
        refine WL.v (by first | exact r_nil_neq ty_ifc43 rfl | exact r_some_neq ty_ifc43 rfl) rfl rfl rfl ?_
        -- R10.2 38 := law.go:176 move
        refine WL.v (by first | exact r_move (v := .bool _) rfl | exact r_move rfl) rfl rfl rfl ?_
        -- R10.3 39 := law.go:176 move
        refine WL.v (by first | exact r_move (v := .slice _ _ _) rfl | exact r_move rfl) rfl rfl rfl ?_
        -- R10.4 40 := law.go:176 fieldAddr
        refine WL.v (by exact r_field ty_fld41_9 rfl) rfl rfl rfl ?_
        -- R10.5 41 := law.go:176 load
        refine WL.v (by exact r_load1 ty_one25 rfl ((st.cell (t := 41) (n := 16) (f := nth (opL (C i))) (by simp) (by decide)).trans (congrArg some hval))) rfl rfl rfl ?_
        -- R10.6 42 := law.go:176 call
        refine WL.call (r_call ty_call7 rfl) rfl rfl rfl (same_ok _ ai (ln i) (ln i) (lcp i) lb2 0 (lb i) (lo i) (X i) (by omega) (fun _ => rfl) hai
          (fun w' s => ⟨fun k hk => ?_, fun k hk => ⟨s.old (fun h => h) (hlat k hk).1, s.old (fun h => h) (hlat k hk).2⟩⟩) st) ?_
        · rw [← hmem k hk]
          exact ⟨(s.cell (t := 63) (n := ln i * 2) (f := f2) (by simp) (by omega)).trans (congrArg some (hls2 k hk).1), (s.cell (t := 63) (n := ln i * 2) (f := f2) (by simp) (by omega)).trans (congrArg some (hls2 k hk).2)⟩
        rintro _ w ⟨rfl, st⟩
        have st : St w0 (fun _ => False) ((cb, Row 27 513 F1) :: (FI1 ++ [(b5, Row 41 16 (nth (opL (C i))))])) w := st.sublist (List.Sublist.cons _ (List.Sublist.cons_cons _ (List.Sublist.append_left (List.sublist_append_right its1 _) FI1)))
        -- R10.7 43 := law.go:176 unOp
        refine WL.v (by first | exact r_notT rfl | exact r_notF rfl | exact r_not rfl) rfl rfl rfl ?_
        -- R10.8 44 := law.go:176 pick
        refine WL.v (by first | exact r_pickT (v := .bool _) rfl rfl | exact r_pickF (v := .bool _) rfl rfl) rfl rfl rfl ?_
        refine WL.fin hK612 (fun _ _ h => h) ?_
        refine WC.condF rfl rfl ?_
        refine WC.skipF hK602 (fun _ _ h => h) ?_
        refine WC.seq fun K613 hK613 => ?_
        -- region 12
        refine WC.region ?_
        -- R12.0 46 := law.go:180 fieldAddr
        refine WL.v (by exact r_field ty_fld41_10 rfl) rfl rfl rfl ?_
        -- R12.1 47 := law.go:180 load
        refine WL.v (by exact r_load1 ty_one37 rfl ((st.cell (t := 41) (n := 16) (f := nth (opL (C i))) (by simp) (by decide)).trans (congrArg some hgal))) rfl rfl rfl ?_
        -- R12.2 48 := law.go:180 call
        refine WL.call (r_call ty_call6 rfl) rfl rfl rfl (revert_ok xi (gn i) (gcp i) (xb i) (xo i) (I i) (da i) (db i) (dO i) (dl i) (dc i) (D i) hgN hbN hxi (fun its w' s => hgat.old s) st) ?_
        intro v w hv
        obtain ⟨lv, er, rfl, hv3⟩ := rev_split hv
        clear hv
        -- R12.3 45 := law.go:180 move
        refine WL.v (by first | exact r_move (v := .tuple _) rfl | exact r_move rfl) rfl rfl rfl ?_
        -- R12.4 49 := law.go:180 extract
        refine WL.v (by first | exact r_extract (v := .slice _ _ _) rfl rfl | exact r_extract rfl rfl) rfl rfl rfl ?_
        -- R12.5 50 := law.go:180 extract
        refine WL.v (by first | exact r_extract (v := .nilIface) rfl rfl | exact r_extract (v := .iface _ _) rfl rfl | exact r_extract rfl rfl) rfl rfl rfl ?_
        -- R12.6 10 := law.go:180 assign
        refine WL.v (by first | exact r_assign (v := .slice _ _ _) rfl | exact r_assign rfl) rfl rfl rfl ?_
        -- R12.7 11 := law.go:180 assign
        refine WL.v (by first | exact r_assign (v := .nilIface) rfl | exact r_assign (v := .iface _ _) rfl | exact r_assign rfl) rfl rfl rfl ?_
        refine WL.fin hK613 (fun _ _ h => h) ?_
        rcases hv3 with ⟨_, ⟨eb, rfl⟩, st⟩ | ⟨hVg, rfl, lb2, B2, f2, rfl, hO2, hr2, hls2, st⟩
        · skip
          refine WC.seq fun K614 hK614 => ?_
          -- region 13
          refine WC.region ?_
          -- R13.0 51 := law.go:180 move
          refine WL.v (by first | exact r_move (v := .nilIface) rfl | exact r_move (v := .iface _ _) rfl | exact r_move rfl) rfl rfl rfl ?_
          -- R13.1 52 := law.go:180 binOp
          refine WL.v (by first | exact r_nil_eql ty_ifc43 rfl | exact r_some_eql ty_ifc43 rfl) rfl rfl rfl ?_
          refine WL.fin hK614 (fun _ _ h => h) ?_
          refine WC.condF rfl rfl ?_
          refine WC.skipF hK600 (fun _ _ h => h) ?_
          -- region 17
          refine WC.region ?_
          -- R17.0 67 := law.go:173 binOp
          refine WL.v (by first | exact r_add rfl rfl (wi64 (by omega) (by omega)) | exact r_add rfl rfl rfl) rfl rfl rfl ?_
          -- R17.1 19 := law.go:173 move
          refine WL.v (by first | exact r_move (v := .int _ _) rfl | exact r_move rfl) rfl rfl rfl ?_
          refine WL.next hK1 (fun _ _ h => h) (i + 1, F1, fv1, FI1) ⟨st.sublist (List.Sublist.cons_cons _ (List.sublist_append_left _ _)), by show i + 1 ≤ n; omega, hF1, hfew1⟩ (by show n - (i + 1) < n - i; omega) (by repeat (first | exact sub_nil _ | refine sub_cons rfl rfl ?_))
        · have hokl := out_okl hO2 hVg hr2
          have st := st_inEnd st
          refine WC.seq fun K615 hK615 => ?_
          -- region 13
          refine WC.region ?_
          -- R13.0 51 := law.go:180 move
          refine WL.v (by first | exact r_move (v := .nilIface) rfl | exact r_move (v := .iface _ _) rfl | exact r_move rfl) rfl rfl rfl ?_
          -- R13.1 52 := law.go:180 binOp
          refine WL.v (by first | exact r_nil_eql ty_ifc43 rfl | exact r_some_eql ty_ifc43 rfl) rfl rfl rfl ?_
          refine WL.fin hK615 (fun _ _ h => h) ?_
          refine WC.condT rfl rfl ?_
          refine WC.seq fun K616 hK616 => ?_
          -- region 14
          refine WC.region ?_
          -- R14.0 54 := law.go:181 move
          refine WL.v (by first | exact r_move (v := .slice _ _ _) rfl | exact r_move rfl) rfl rfl rfl ?_
          -- R14.1 55 := law.go:181 call
          refine WL.call (r_call ty_call5 rfl) rfl rfl rfl (convert_ok cb lb2 0 (bas (dl i) (gn i)) (bas (dl i) (gn i)) _ B2 (fun k => (B2 k).2.toNat) F1 fv1 FI1 hbN (fun _ => rfl) (fun k hk => ?_) (fun k hk => ?_) (fun its w' s k hk => ⟨(s.cell (t := 63) (n := bas (dl i) (gn i) * 2) (f := f2) (by simp) (by omega)).trans (congrArg some (hls2 k hk).1), (s.cell (t := 63) (n := bas (dl i) (gn i) * 2) (f := f2) (by simp) (by omega)).trans (congrArg some (hls2 k hk).2)⟩) hF1 hfew1 st) ?_
          · obtain ⟨g, j, hg, hj, he⟩ := out_in hO2 hk
            have := hP.impc i hlt g hg
            simp only [he]; omega
          · obtain ⟨g, j, hg, hj, he⟩ := out_in hO2 hk
            have := hP.doc i hlt g hg j hj
            simp only [he]; exact this
          intro v w hv
          obtain ⟨gv2, er2, rfl, hv4⟩ := conv_split hF1 hfew1 hv
          clear hv
          -- R14.2 53 := law.go:181 move
          refine WL.v (by first | exact r_move (v := .tuple _) rfl | exact r_move rfl) rfl rfl rfl ?_
          -- R14.3 56 := law.go:181 extract
          refine WL.v (by first | exact r_extract (v := .slice _ _ _) rfl rfl | exact r_extract rfl rfl) rfl rfl rfl ?_
          -- R14.4 57 := law.go:181 extract
          refine WL.v (by first | exact r_extract (v := .nilIface) rfl rfl | exact r_extract (v := .iface _ _) rfl rfl | exact r_extract rfl rfl) rfl rfl rfl ?_
          -- R14.5 12 := law.go:181 assign
          refine WL.v (by first | exact r_assign (v := .slice _ _ _) rfl | exact r_assign rfl) rfl rfl rfl ?_
          -- R14.6 13 := law.go:181 assign
          refine WL.v (by first | exact r_assign (v := .nilIface) rfl | exact r_assign (v := .iface _ _) rfl | exact r_assign rfl) rfl rfl rfl ?_
          refine WL.fin hK616 (fun _ _ h => h) ?_
          rcases hv4 with ⟨hno, _⟩ | ⟨_, rfl, ga2, gb2, gc2, q2, S2, A2, its2, F2, fv2, FI2, rfl, hga2, hO3, hGI2, hF2, hfew2, st⟩
          · exact absurd hokl hno
          obtain ⟨rfl, e1, e2, e3⟩ := out_same hO2 hVg hO3
          obtain ⟨db2, dc2, hGA2⟩ := hGI2
          have hdlN : ∀ t, t < gn i → dl i t ≤ 1000000000 := fun t ht => by
            have h1 : bas (dl i) t + dl i t ≤ bas (dl i) (gn i) := bas_mono (dl i) (show t + 1 ≤ gn i by omega)
            omega
          refine WC.seq fun K617 hK617 => ?_
          -- region 15
          refine WC.region ?_
          -- R15.0 58 := law.go:182 move
          refine WL.v (by first | exact r_move (v := .nilIface) rfl | exact r_move (v := .iface _ _) rfl | exact r_move rfl) rfl rfl rfl ?_
          -- R15.1 59 := law.go:182 binOp
          refine WL.v (by first | exact r_nil_neq ty_ifc43 rfl | exact r_some_neq ty_ifc43 rfl) rfl rfl rfl ?_
          -- R15.2 60 := law.go:182 move
          refine WL.v (by first | exact r_move (v := .bool _) rfl | exact r_move rfl) rfl rfl rfl ?_
          -- R15.3 61 := law.go:182 move
          refine WL.v (by first | exact r_move (v := .slice _ _ _) rfl | exact r_move rfl) rfl rfl rfl ?_
          -- R15.4 62 := law.go:182 fieldAddr
          refine WL.v (by exact r_field ty_fld41_10 rfl) rfl rfl rfl ?_
          -- R15.5 63 := law.go:182 load
          refine WL.v (by exact r_load1 ty_one37 rfl ((st.cell (t := 41) (n := 16) (f := nth (opL (C i))) (by simp) (by decide)).trans (congrArg some hgal))) rfl rfl rfl ?_
          -- R15.6 64 := law.go:182 call
          refine WL.call (r_call ty_call8 rfl) rfl rfl rfl (equalGroups_ok ga2 xi (gn i) gc2 (gcp i) gb2 0 (xb i) (xo i) (I i) (fun _ => db2) S2 (db i) (dO i) (dl i) dc2 (dc i) (D i) (by omega) hdlN hga2 hxi
            (fun w' s => ⟨GAt.congr (hGA2 _ w' s (fun x hx => by simp [hx])) e1 e2 e3, (hgat.old s).gat fun t ht => (hVg t ht).2.2.1⟩) st) ?_
          rintro _ w ⟨rfl, st⟩
          -- R15.7 65 := law.go:182 unOp
          refine WL.v (by first | exact r_notT rfl | exact r_notF rfl | exact r_not rfl) rfl rfl rfl ?_
          -- R15.8 66 := law.go:182 pick
          refine WL.v (by first | exact r_pickT (v := .bool _) rfl rfl | exact r_pickF (v := .bool _) rfl rfl) rfl rfl rfl ?_
          refine WL.fin hK617 (fun _ _ h => h) ?_
          refine WC.condF rfl rfl ?_
          refine WC.skipF hK600 (fun _ _ h => h) ?_
          -- region 17
          refine WC.region ?_
          -- R17.0 67 := law.go:173 binOp
          refine WL.v (by first | exact r_add rfl rfl (wi64 (by omega) (by omega)) | exact r_add rfl rfl rfl) rfl rfl rfl ?_
          -- R17.1 19 := law.go:173 move
          refine WL.v (by first | exact r_move (v := .int _ _) rfl | exact r_move rfl) rfl rfl rfl ?_
          refine WL.next hK1 (fun _ _ h => h) (i + 1, F2, fv2, FI2) ⟨st.sublist (List.Sublist.cons_cons _ (List.sublist_append_left _ _)), by show i + 1 ≤ n; omega, hF2, hfew2⟩ (by show n - (i + 1) < n - i; omega) (by repeat (first | exact sub_nil _ | refine sub_cons rfl rfl ?_))
    · skip
      refine WC.seq fun K618 hK618 => ?_
      -- region 5
      refine WC.region ?_
      -- R5.0 20 := law.go:173 binOp
      refine WL.v (by first | exact r_lss rfl rfl (decide_eq_true (by omega)) | exact r_lss rfl rfl (decide_eq_false (by omega)) | exact r_lss rfl rfl rfl) rfl rfl rfl ?_
      refine WL.fin hK618 (fun _ _ h => h) ?_
      refine WC.seq fun K619 hK619 => ?_
      refine WC.condF rfl rfl ?_
      refine WC.exitF hK596 (fun _ _ h => h) ?_
      refine WC.seq fun K620 hK620 => ?_
      -- region 18
      refine WC.region ?_
      -- R18.0 2 := law.go:187 assign
      refine WL.v (by first | exact r_assign (v := .bool _) rfl | exact r_assign rfl) rfl rfl rfl ?_
      refine WL.fin hK620 (fun _ _ h => h) ?_
      refine WC.ret1 Try.results3 (fun _ _ h => h) rfl ?_
      exact ⟨_, rfl, rfl, st_none st⟩
  rw [hw0] at goal
  exact goal
end Go.Proofs.Qxb6500835a

