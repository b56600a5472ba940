import Derived.Test.Qxb6500841aDoorX5
set_option linter.unusedVariables false
set_option linter.unusedSimpArgs false
namespace Go.Proofs.Qxb6500841aDoor
open Go.RowKit Go.E1 Go.Wire
variable {w0 : World} {L : List HI} {w : World} {ET : Nat → TypeId} {EU : Nat → Value}

abbrev ethL (e : Nat → Int) : List Value := [.int .u8 (e 0), .int .u8 (e 1), .int .u8 (e 2), .int .u8 (e 3), .int .u8 (e 4), .int .u8 (e 5), .int .u8 (e 6), .int .u8 (e 7), .int .u8 (e 8), .int .u8 (e 9), .int .u8 (e 10), .int .u8 (e 11), .int .u16 (e 12)]
/-- A frame's cells. -/
abbrev frL (k : Int) (e x t y z : Nat → Int) (s1 s2 s3 s4 s5 : Value) : List Value := [.int .u8 k, .int .u8 (e 0), .int .u8 (e 1), .int .u8 (e 2), .int .u8 (e 3), .int .u8 (e 4), .int .u8 (e 5), .int .u8 (e 6), .int .u8 (e 7), .int .u8 (e 8), .int .u8 (e 9), .int .u8 (e 10), .int .u8 (e 11), .int .u16 (e 12), .int .u8 (x 0), .int .u16 (x 1), .int .u16 (x 2), .int .u8 (x 3), .int .u16 (x 4), .int .u8 (x 5), .int .u8 (x 6), .int .u16 (x 7), .int .u8 (x 8), .int .u8 (x 9), .int .u8 (x 10), .int .u8 (x 11), .int .u8 (x 12), .int .u8 (x 13), .int .u8 (x 14), .int .u8 (x 15), s1, .int .u16 (t 0), .int .u16 (t 1), .int .u32 (t 2), .int .u32 (t 3), .int .u8 (t 4), .int .u8 (t 5), .int .u16 (t 6), .int .u16 (t 7), .int .u16 (t 8), s2, .int .u8 (y 0), .int .u8 (y 1), .int .u16 (y 2), .int .u32 (y 3), .int .u8 (z 0), .int .u16 (z 1), .int .u16 (z 2), .int .u8 (z 3), .int .u16 (z 4), .int .u8 (z 5), .int .u8 (z 6), .int .u16 (z 7), .int .u8 (z 8), .int .u8 (z 9), .int .u8 (z 10), .int .u8 (z 11), .int .u8 (z 12), .int .u8 (z 13), .int .u8 (z 14), .int .u8 (z 15), s3, s4, s5]
def ethX (B : List Int) : Nat → Int := fun k => if k = 12 then B.getD 12 0 * 256 + B.getD 13 0 else B.getD k 0

theorem Part.sub {s : SV} (hs : s.ok) {l h m : Nat} (h1 : l ≤ h) (hh : h ≤ s.bs.length) (h2 : h ≤ m) (h3 : m ≤ s.c) : Part s (s.sub l h m) ((s.bs.take h).drop l) := ⟨SV.sub_ok hs h1 hh h2 h3, rfl, fun w' q => SV.sub_rd q hh⟩

set_option maxHeartbeats 4000000 in
set_option maxRecDepth 20000 in
theorem parseEth_ok (hE : ErrOk w0 ET EU) (s : SV) (hs : s.ok) (hl : s.bs.length ≤ 10000000000) (hrd : ∀ its w', S0 w0 (its ++ L) w' → s.rd w') (st : S0 w0 L w) :
    Calls Tryd.prog 27 #[.slice s.a s.bs.length s.c] w (Ret fun v w' => (∃ x r er, v = .tuple #[.agg (ethL x).toArray, r.v, er] ∧ (((∃ T u, er = .iface T u) ∧ Part s r []) ∨ (er = .nilIface ∧ 14 ≤ s.bs.length ∧ x = ethX s.bs ∧ Part s r (s.bs.drop 14)))) ∧ S0 w0 L w') := by
  have hsok := hs
  have hat : ∀ i, i < s.bs.length → 0 ≤ s.bs.getD i 0 ∧ s.bs.getD i 0 < 256 := fun i hi => hs.at hi
  by_cases h20 : s.bs.length < 14
  · skip
    refine enter [.slice s.a s.bs.length s.c] Tryd.func27 rfl Tryd.ntmps27 rfl ?_
    show WC _ _ _ 28 [] [(0, .slice s.a s.bs.length s.c)] _
    refine WC.seq fun K345 hK345 => ?_
    -- region 0
    refine WC.region ?_
    -- R0.0 2 := eth.go:11 alloc
    refine WL.alloc (m := 13) st ty_zero32 rfl rfl rfl ?_
    intro b2 w st
    -- R0.1 3 := eth.go:11 assign
    refine WL.v (by first | exact r_assign (v := .slice _ _ _) rfl | exact r_assign rfl) rfl rfl rfl ?_
    -- R0.2 4 := eth.go:11 assign
    refine WL.v (by first | exact r_assign (v := .nilIface) rfl | exact r_assign (v := .iface _ _) rfl | exact r_assign rfl) rfl rfl rfl ?_
    refine WL.fin hK345 (fun _ _ h => h) ?_
    refine WC.seq fun K346 hK346 => ?_
    refine WC.seq fun K347 hK347 => ?_
    -- region 1
    refine WC.region ?_
    -- R1.0 5 := eth.go:12 move
    refine WL.v (by first | exact r_move (v := .slice _ _ _) rfl | exact r_move rfl) rfl rfl rfl ?_
    -- R1.1 6 := eth.go:12 call
    refine WL.v (by exact r_len ty_usl25 rfl) rfl rfl rfl ?_
    -- R1.2 7 := eth.go:12 binOp
    refine WL.v (by first | exact r_lss rfl rfl (decide_eq_true (by omega)) | exact r_lss rfl rfl (decide_eq_false (by omega)) | exact r_lss rfl rfl rfl) rfl rfl rfl ?_
    refine WL.fin hK347 (fun _ _ h => h) ?_
    refine WC.condT rfl rfl ?_
    refine WC.seq fun K348 hK348 => ?_
    -- region 2
    refine WC.region ?_
    -- R2.0 8 := eth.go:13 build
    refine WL.v (by exact r_build (ps := []) (vs := [_, _, _, _, _, _, _, _, _, _, _, _, _]) ty_pl32 ty_zero32 rfl (fill_nil)) rfl rfl rfl ?_
    -- R2.1 9 := eth.go:13 load
    refine WL.v (by exact r_load1 ty_one47 rfl (st.old (fun h => h) (hE 2 (by decide)))) rfl rfl rfl ?_
    -- R2.2 None := eth.go:13 store
    first | refine WL.storeW (vs := [_, _, _, _, _, _, _, _, _, _, _, _, _]) st ty_agg32 rfl rfl rfl rfl rfl rfl ?_ | refine WL.storeL (vs := [_, _, _, _, _, _, _, _, _, _, _, _, _]) st ty_agg32 rfl rfl rfl rfl (by first | decide | omega) rfl rfl ?_ | refine WL.storeW (vs := [_, _, _, _, _, _, _, _, _, _, _, _, _]) st.front1 ty_agg32 rfl rfl rfl rfl rfl rfl ?_ | refine WL.storeL (vs := [_, _, _, _, _, _, _, _, _, _, _, _, _]) st.front1 ty_agg32 rfl rfl rfl rfl (by first | decide | omega) rfl rfl ?_ | refine WL.storeW (vs := [_, _, _, _, _, _, _, _, _, _, _, _, _]) st.front2 ty_agg32 rfl rfl rfl rfl rfl rfl ?_ | refine WL.storeL (vs := [_, _, _, _, _, _, _, _, _, _, _, _, _]) st.front2 ty_agg32 rfl rfl rfl rfl (by first | decide | omega) rfl rfl ?_ | refine WL.storeW (vs := [_, _, _, _, _, _, _, _, _, _, _, _, _]) st.front3 ty_agg32 rfl rfl rfl rfl rfl rfl ?_ | refine WL.storeL (vs := [_, _, _, _, _, _, _, _, _, _, _, _, _]) st.front3 ty_agg32 rfl rfl rfl rfl (by first | decide | omega) rfl rfl ?_ | refine WL.storeW (vs := [_, _, _, _, _, _, _, _, _, _, _, _, _]) st.front4 ty_agg32 rfl rfl rfl rfl rfl rfl ?_ | refine WL.storeL (vs := [_, _, _, _, _, _, _, _, _, _, _, _, _]) st.front4 ty_agg32 rfl rfl rfl rfl (by first | decide | omega) rfl rfl ?_ | refine WL.storeW (vs := [_, _, _, _, _, _, _, _, _, _, _, _, _]) st.front5 ty_agg32 rfl rfl rfl rfl rfl rfl ?_ | refine WL.storeL (vs := [_, _, _, _, _, _, _, _, _, _, _, _, _]) st.front5 ty_agg32 rfl rfl rfl rfl (by first | decide | omega) rfl rfl ?_ | refine WL.storeW (vs := [_, _, _, _, _, _, _, _, _, _, _, _, _]) st.front6 ty_agg32 rfl rfl rfl rfl rfl rfl ?_ | refine WL.storeL (vs := [_, _, _, _, _, _, _, _, _, _, _, _, _]) st.front6 ty_agg32 rfl rfl rfl rfl (by first | decide | omega) rfl rfl ?_ | refine WL.storeW (vs := [_, _, _, _, _, _, _, _, _, _, _, _, _]) st.front7 ty_agg32 rfl rfl rfl rfl rfl rfl ?_ | refine WL.storeL (vs := [_, _, _, _, _, _, _, _, _, _, _, _, _]) st.front7 ty_agg32 rfl rfl rfl rfl (by first | decide | omega) rfl rfl ?_ | refine WL.storeW (vs := [_, _, _, _, _, _, _, _, _, _, _, _, _]) st.front8 ty_agg32 rfl rfl rfl rfl rfl rfl ?_ | refine WL.storeL (vs := [_, _, _, _, _, _, _, _, _, _, _, _, _]) st.front8 ty_agg32 rfl rfl rfl rfl (by first | decide | omega) rfl rfl ?_
    intro w st
    -- R2.3 3 := eth.go:13 assign
    refine WL.v (by first | exact r_assign (v := .slice _ _ _) rfl | exact r_assign rfl) rfl rfl rfl ?_
    -- R2.4 4 := eth.go:13 assign
    refine WL.v (by first | exact r_assign (v := .nilIface) rfl | exact r_assign (v := .iface _ _) rfl | exact r_assign rfl) rfl rfl rfl ?_
    refine WL.fin hK348 (fun _ _ h => h) ?_
    refine WC.retCTT (vs := [_, _, _, _, _, _, _, _, _, _, _, _, _]) Tryd.results27 (fun _ _ h => h) rfl ty_agg32 rfl ⟨st.c0 (by decide), st.c0 (by decide), st.c0 (by decide), st.c0 (by decide), st.c0 (by decide), st.c0 (by decide), st.c0 (by decide), st.c0 (by decide), st.c0 (by decide), st.c0 (by decide), st.c0 (by decide), st.c0 (by decide), st.c0 (by decide), trivial⟩ ?_
    exact ⟨_, rfl, ⟨fun _ => 0, SV.nil, _, rfl, .inl ⟨⟨_, _, rfl⟩, Part.nil _⟩⟩, st.drop⟩
  have hp := Part.sub hs (l := 14) (h := s.bs.length) (m := s.c) (by omega) (Nat.le_refl _) hs.le (Nat.le_refl _)
  rw [List.take_length] at hp
  have hlec := hs.le
  have hadr := hs.adr (by omega)
  obtain ⟨a, c, b, o, bs⟩ := s
  simp only [SV.rd] at hadr hat hl hrd h20 hp hlec ⊢
  subst hadr
  have hbyt := hsok.byt
  simp only at hbyt
  refine enter [.slice (some ⟨b, o, none⟩) bs.length c] Tryd.func27 rfl Tryd.ntmps27 rfl ?_
  show WC _ _ _ 28 [] [(0, .slice (some ⟨b, o, none⟩) bs.length c)] _
  refine WC.seq fun K349 hK349 => ?_
  -- region 0
  refine WC.region ?_
  -- R0.0 2 := eth.go:11 alloc
  refine WL.alloc (m := 13) st ty_zero32 rfl rfl rfl ?_
  intro b2 w st
  -- R0.1 3 := eth.go:11 assign
  refine WL.v (by first | exact r_assign (v := .slice _ _ _) rfl | exact r_assign rfl) rfl rfl rfl ?_
  -- R0.2 4 := eth.go:11 assign
  refine WL.v (by first | exact r_assign (v := .nilIface) rfl | exact r_assign (v := .iface _ _) rfl | exact r_assign rfl) rfl rfl rfl ?_
  refine WL.fin hK349 (fun _ _ h => h) ?_
  refine WC.seq fun K350 hK350 => ?_
  refine WC.seq fun K351 hK351 => ?_
  -- region 1
  refine WC.region ?_
  -- R1.0 5 := eth.go:12 move
  refine WL.v (by first | exact r_move (v := .slice _ _ _) rfl | exact r_move rfl) rfl rfl rfl ?_
  -- R1.1 6 := eth.go:12 call
  refine WL.v (by exact r_len ty_usl25 rfl) rfl rfl rfl ?_
  -- R1.2 7 := eth.go:12 binOp
  refine WL.v (by first | exact r_lss rfl rfl (decide_eq_true (by omega)) | exact r_lss rfl rfl (decide_eq_false (by omega)) | exact r_lss rfl rfl rfl) rfl rfl rfl ?_
  refine WL.fin hK351 (fun _ _ h => h) ?_
  refine WC.condF rfl rfl ?_
  refine WC.skipF hK350 (fun _ _ h => h) ?_
  refine WC.seq fun K352 hK352 => ?_
  -- region 3 (draws)
  refine WC.tailS 4 st ty_mixed (by kernel_rfl) fun w st Kq hKq => ?_
  -- R3.0 10 := eth.go:15 fieldAddr
  refine SL.v (by exact r_field ty_fld32_0 rfl) rfl rfl rfl ?_
  -- R3.1 11 := eth.go:15 slice
  refine SL.v (by exact r_slAr ty_ar29 rfl) rfl rfl rfl ?_
  -- R3.2 12 := eth.go:15 move
  refine SL.v (by first | exact r_move (v := .slice _ _ _) rfl | exact r_move rfl) rfl rfl rfl ?_
  -- R3.3 13 := eth.go:15 slice
  refine SL.v (by first | exact r_slS (l := 0) (h := 6) ty_sl25 rfl ⟨_, rfl⟩ ⟨_, rfl⟩ rfl (fun h => by first | rfl | cases h) (by omega) (by omega) (by omega) (by omega) | exact r_sl (l := 0) (h := 6) ty_sl25 rfl ⟨_, rfl⟩ ⟨_, rfl⟩ rfl (fun h => by first | rfl | cases h) (by omega) (by omega) (by omega)) rfl rfl rfl ?_
  refine SL.fin hKq ?_
  -- R3.4 14 := eth.go:15 call
  refine WL.copyC (m := 6) (news := fun j => .int .u8 (bs.getD (0 + j) 0)) st ty_sl25 rfl rfl (by omega) (fun j hj => ?_) (fun j hj => rfl) rfl rfl rfl ?_
  · have := hrd [_] _ st (0 + j) (by omega)
    rw [show o + (0 + j) = o + 0 * 1 + j by omega] at this; exact this
  intro w st
  refine WL.fin hK352 (fun _ _ h => h) ?_
  refine WC.seq fun K353 hK353 => ?_
  -- region 4 (draws)
  refine WC.tailS 4 st ty_mixed (by kernel_rfl) fun w st Kq hKq => ?_
  -- R4.0 15 := eth.go:16 fieldAddr
  refine SL.v (by exact r_field ty_fld32_1 rfl) rfl rfl rfl ?_
  -- R4.1 16 := eth.go:16 slice
  refine SL.v (by exact r_slAr ty_ar29 rfl) rfl rfl rfl ?_
  -- R4.2 17 := eth.go:16 move
  refine SL.v (by first | exact r_move (v := .slice _ _ _) rfl | exact r_move rfl) rfl rfl rfl ?_
  -- R4.3 18 := eth.go:16 slice
  refine SL.v (by first | exact r_slS (l := 6) (h := 12) ty_sl25 rfl ⟨_, rfl⟩ ⟨_, rfl⟩ rfl (fun h => by first | rfl | cases h) (by omega) (by omega) (by omega) (by omega) | exact r_sl (l := 6) (h := 12) ty_sl25 rfl ⟨_, rfl⟩ ⟨_, rfl⟩ rfl (fun h => by first | rfl | cases h) (by omega) (by omega) (by omega)) rfl rfl rfl ?_
  refine SL.fin hKq ?_
  -- R4.4 19 := eth.go:16 call
  refine WL.copyC (m := 6) (news := fun j => .int .u8 (bs.getD (6 + j) 0)) st ty_sl25 rfl rfl (by omega) (fun j hj => ?_) (fun j hj => rfl) rfl rfl rfl ?_
  · have := hrd [_] _ st (6 + j) (by omega)
    rw [show o + (6 + j) = o + 6 * 1 + j by omega] at this; exact this
  intro w st
  refine WL.fin hK353 (fun _ _ h => h) ?_
  refine WC.seq fun K354 hK354 => ?_
  -- region 5 (draws)
  refine WC.tailS 3 st ty_mixed (by kernel_rfl) fun w st Kq hKq => ?_
  -- R5.0 20 := eth.go:17 load
  refine SL.v (by exact r_loadL (vs := []) ty_agg83 rfl trivial) rfl rfl rfl ?_
  -- R5.1 21 := eth.go:17 move
  refine SL.v (by first | exact r_move (v := .slice _ _ _) rfl | exact r_move rfl) rfl rfl rfl ?_
  -- R5.2 22 := eth.go:17 slice
  refine SL.v (by first | exact r_slS (l := 12) (h := 14) ty_sl25 rfl ⟨_, rfl⟩ ⟨_, rfl⟩ rfl (fun h => by first | rfl | cases h) (by omega) (by omega) (by omega) (by omega) | exact r_sl (l := 12) (h := 14) ty_sl25 rfl ⟨_, rfl⟩ ⟨_, rfl⟩ rfl (fun h => by first | rfl | cases h) (by omega) (by omega) (by omega)) rfl rfl rfl ?_
  refine SL.fin hKq ?_
  -- R5.3 23 := eth.go:17 call
  refine WL.call (r_call ty_call38 rfl) rfl rfl rfl (u16_at b o 12 _ _ bs (bs.getD 12 0 * 256 + bs.getD 13 0) rfl (by omega) rfl hbyt (moreL hrd [_]) st) ?_
  rintro _ w ⟨rfl, st⟩
  -- R5.4 24 := eth.go:17 fieldAddr
  refine WL.v (by exact r_field ty_fld32_2 rfl) rfl rfl rfl ?_
  -- R5.5 None := eth.go:17 store
  first | refine WL.store (v := .int _ _) st ty_one30 rfl rfl rfl (by first | decide | omega) rfl rfl ?_ | refine WL.store (v := _) st ty_one30 rfl rfl rfl (by first | decide | omega) rfl rfl ?_ | refine WL.store (v := .int _ _) st.front1 ty_one30 rfl rfl rfl (by first | decide | omega) rfl rfl ?_ | refine WL.store (v := _) st.front1 ty_one30 rfl rfl rfl (by first | decide | omega) rfl rfl ?_ | refine WL.store (v := .int _ _) st.front2 ty_one30 rfl rfl rfl (by first | decide | omega) rfl rfl ?_ | refine WL.store (v := _) st.front2 ty_one30 rfl rfl rfl (by first | decide | omega) rfl rfl ?_ | refine WL.store (v := .int _ _) st.front3 ty_one30 rfl rfl rfl (by first | decide | omega) rfl rfl ?_ | refine WL.store (v := _) st.front3 ty_one30 rfl rfl rfl (by first | decide | omega) rfl rfl ?_ | refine WL.store (v := .int _ _) st.front4 ty_one30 rfl rfl rfl (by first | decide | omega) rfl rfl ?_ | refine WL.store (v := _) st.front4 ty_one30 rfl rfl rfl (by first | decide | omega) rfl rfl ?_ | refine WL.store (v := .int _ _) st.front5 ty_one30 rfl rfl rfl (by first | decide | omega) rfl rfl ?_ | refine WL.store (v := _) st.front5 ty_one30 rfl rfl rfl (by first | decide | omega) rfl rfl ?_ | refine WL.store (v := .int _ _) st.front6 ty_one30 rfl rfl rfl (by first | decide | omega) rfl rfl ?_ | refine WL.store (v := _) st.front6 ty_one30 rfl rfl rfl (by first | decide | omega) rfl rfl ?_ | refine WL.store (v := .int _ _) st.front7 ty_one30 rfl rfl rfl (by first | decide | omega) rfl rfl ?_ | refine WL.store (v := _) st.front7 ty_one30 rfl rfl rfl (by first | decide | omega) rfl rfl ?_ | refine WL.store (v := .int _ _) st.front8 ty_one30 rfl rfl rfl (by first | decide | omega) rfl rfl ?_ | refine WL.store (v := _) st.front8 ty_one30 rfl rfl rfl (by first | decide | omega) rfl rfl ?_
  intro w st
  refine WL.fin hK354 (fun _ _ h => h) ?_
  refine WC.seq fun K355 hK355 => ?_
  -- region 6 (draws)
  have st := st_nrm (L' := ethL (ethX bs)) rfl st
  refine WC.heldS2 [3, 4, 5] [0] [1, 2] [3, 4, 5] st (st) ty_mixed (by kernel_rfl) fun w st Kq Kq2 hKq hKq2 => ?_
  -- R6.0 25 := eth.go:18 load
  refine HL.v (fun w st => by exact r_loadL (vs := [_, _, _, _, _, _, _, _, _, _, _, _, _]) ty_agg32 rfl ⟨st.c0 (by decide), st.c0 (by decide), st.c0 (by decide), st.c0 (by decide), st.c0 (by decide), st.c0 (by decide), st.c0 (by decide), st.c0 (by decide), st.c0 (by decide), st.c0 (by decide), st.c0 (by decide), st.c0 (by decide), st.c0 (by decide), trivial⟩) rfl rfl rfl ?_
  refine HL.pure hKq ?_
  -- R6.1 26 := eth.go:18 move
  refine HL.v (fun w _ => by first | exact r_move (v := .slice _ _ _) rfl | exact r_move rfl) rfl rfl rfl ?_
  -- R6.2 27 := eth.go:18 slice
  refine HL.v (fun w _ => by exact r_slV ⟨some ⟨b, o, none⟩, c, b, o, bs⟩ (l := 14) ty_sl25 rfl ⟨_, rfl⟩ rfl rfl (fun h => rfl) (by simp only; omega) (by simp only; omega) (Nat.le_refl _) (Nat.le_refl _)) rfl rfl rfl ?_
  refine HL.fin hKq2 ?_
  refine TL.at ?_
  -- R6.3 None := eth.go:18 store
  first | refine WL.storeW (vs := [_, _, _, _, _, _, _, _, _, _, _, _, _]) st ty_agg32 rfl rfl rfl rfl rfl rfl ?_ | refine WL.storeL (vs := [_, _, _, _, _, _, _, _, _, _, _, _, _]) st ty_agg32 rfl rfl rfl rfl (by first | decide | omega) rfl rfl ?_ | refine WL.storeW (vs := [_, _, _, _, _, _, _, _, _, _, _, _, _]) st.front1 ty_agg32 rfl rfl rfl rfl rfl rfl ?_ | refine WL.storeL (vs := [_, _, _, _, _, _, _, _, _, _, _, _, _]) st.front1 ty_agg32 rfl rfl rfl rfl (by first | decide | omega) rfl rfl ?_ | refine WL.storeW (vs := [_, _, _, _, _, _, _, _, _, _, _, _, _]) st.front2 ty_agg32 rfl rfl rfl rfl rfl rfl ?_ | refine WL.storeL (vs := [_, _, _, _, _, _, _, _, _, _, _, _, _]) st.front2 ty_agg32 rfl rfl rfl rfl (by first | decide | omega) rfl rfl ?_ | refine WL.storeW (vs := [_, _, _, _, _, _, _, _, _, _, _, _, _]) st.front3 ty_agg32 rfl rfl rfl rfl rfl rfl ?_ | refine WL.storeL (vs := [_, _, _, _, _, _, _, _, _, _, _, _, _]) st.front3 ty_agg32 rfl rfl rfl rfl (by first | decide | omega) rfl rfl ?_ | refine WL.storeW (vs := [_, _, _, _, _, _, _, _, _, _, _, _, _]) st.front4 ty_agg32 rfl rfl rfl rfl rfl rfl ?_ | refine WL.storeL (vs := [_, _, _, _, _, _, _, _, _, _, _, _, _]) st.front4 ty_agg32 rfl rfl rfl rfl (by first | decide | omega) rfl rfl ?_ | refine WL.storeW (vs := [_, _, _, _, _, _, _, _, _, _, _, _, _]) st.front5 ty_agg32 rfl rfl rfl rfl rfl rfl ?_ | refine WL.storeL (vs := [_, _, _, _, _, _, _, _, _, _, _, _, _]) st.front5 ty_agg32 rfl rfl rfl rfl (by first | decide | omega) rfl rfl ?_ | refine WL.storeW (vs := [_, _, _, _, _, _, _, _, _, _, _, _, _]) st.front6 ty_agg32 rfl rfl rfl rfl rfl rfl ?_ | refine WL.storeL (vs := [_, _, _, _, _, _, _, _, _, _, _, _, _]) st.front6 ty_agg32 rfl rfl rfl rfl (by first | decide | omega) rfl rfl ?_ | refine WL.storeW (vs := [_, _, _, _, _, _, _, _, _, _, _, _, _]) st.front7 ty_agg32 rfl rfl rfl rfl rfl rfl ?_ | refine WL.storeL (vs := [_, _, _, _, _, _, _, _, _, _, _, _, _]) st.front7 ty_agg32 rfl rfl rfl rfl (by first | decide | omega) rfl rfl ?_ | refine WL.storeW (vs := [_, _, _, _, _, _, _, _, _, _, _, _, _]) st.front8 ty_agg32 rfl rfl rfl rfl rfl rfl ?_ | refine WL.storeL (vs := [_, _, _, _, _, _, _, _, _, _, _, _, _]) st.front8 ty_agg32 rfl rfl rfl rfl (by first | decide | omega) rfl rfl ?_
  intro w st
  refine TL.nxt' rfl ?_
  refine TL.at ?_
  -- R6.4 3 := eth.go:18 assign
  refine WL.v (by first | exact r_assign (v := .slice _ _ _) rfl | exact r_assign rfl) rfl rfl rfl ?_
  refine TL.nxt' rfl ?_
  refine TL.at ?_
  -- R6.5 4 := eth.go:18 assign
  refine WL.v (by first | exact r_assign (v := .nilIface) rfl | exact r_assign (v := .iface _ _) rfl | exact r_assign rfl) rfl rfl rfl ?_
  refine TL.nxt' rfl ?_
  refine TL.wl ?_
  refine WL.fin hK355 (fun _ _ h => h) ?_
  refine WC.retCTT (vs := [_, _, _, _, _, _, _, _, _, _, _, _, _]) Tryd.results27 (fun _ _ h => h) rfl ty_agg32 rfl ⟨st.c0 (by decide), st.c0 (by decide), st.c0 (by decide), st.c0 (by decide), st.c0 (by decide), st.c0 (by decide), st.c0 (by decide), st.c0 (by decide), st.c0 (by decide), st.c0 (by decide), st.c0 (by decide), st.c0 (by decide), st.c0 (by decide), trivial⟩ ?_
  exact ⟨_, rfl, ⟨ethX bs, _, .nilIface, rfl, .inr ⟨rfl, by omega, rfl, hp⟩⟩, st.drop⟩

set_option maxHeartbeats 4000000 in
set_option maxRecDepth 20000 in
theorem parseIc_ok (hE : ErrOk w0 ET EU) (s : SV) (hs : s.ok) (hl : s.bs.length ≤ 10000000000) (hrd : ∀ its w', S0 w0 (its ++ L) w' → s.rd w') (st : S0 w0 L w) :
    Calls Tryd.prog 32 #[.slice s.a s.bs.length s.c] w (Ret fun v w' => (∃ y x t r er, v = .tuple #[.agg (icL y x t.v).toArray, r.v, er] ∧ (((∃ T u, er = .iface T u) ∧ Part s t [] ∧ Part s r []) ∨ (er = .nilIface ∧ IcIn s.bs ∧ y = icX s.bs ∧ x = ipX (s.bs.drop 8) ∧ Part s t (((s.bs.drop 8).take (ipHl (s.bs.drop 8))).drop 20) ∧ Part s r ((s.bs.drop 8).drop (ipHl (s.bs.drop 8)))))) ∧ S0 w0 L w') := by
  have hsok := hs
  have herr : ∀ T u, ∃ y x t r er, Value.tuple #[.agg (icL (fun _ => 0) (fun _ => 0) (.slice none 0 0)).toArray, .slice none 0 0, .iface T u] = .tuple #[.agg (icL y x t.v).toArray, r.v, er] ∧ (((∃ T u, er = .iface T u) ∧ Part s t [] ∧ Part s r []) ∨ (er = .nilIface ∧ IcIn s.bs ∧ y = icX s.bs ∧ x = ipX (s.bs.drop 8) ∧ Part s t (((s.bs.drop 8).take (ipHl (s.bs.drop 8))).drop 20) ∧ Part s r ((s.bs.drop 8).drop (ipHl (s.bs.drop 8))))) := fun T u =>
    ⟨fun _ => 0, fun _ => 0, SV.nil, SV.nil, _, rfl, .inl ⟨⟨T, u, rfl⟩, Part.nil _, Part.nil _⟩⟩
  by_cases h20 : s.bs.length < 8
  · skip
    refine enter [.slice s.a s.bs.length s.c] Tryd.func32 rfl Tryd.ntmps32 rfl ?_
    show WC _ _ _ 45 [] [(0, .slice s.a s.bs.length s.c)] _
    refine WC.seq fun K356 hK356 => ?_
    -- region 0
    refine WC.region ?_
    -- R0.0 2 := icmp.go:30 alloc
    refine WL.alloc (m := 21) st ty_zero41 rfl rfl rfl ?_
    intro b2 w st
    -- R0.1 3 := icmp.go:30 assign
    refine WL.v (by first | exact r_assign (v := .slice _ _ _) rfl | exact r_assign rfl) rfl rfl rfl ?_
    -- R0.2 4 := icmp.go:30 assign
    refine WL.v (by first | exact r_assign (v := .nilIface) rfl | exact r_assign (v := .iface _ _) rfl | exact r_assign rfl) rfl rfl rfl ?_
    refine WL.fin hK356 (fun _ _ h => h) ?_
    refine WC.seq fun K357 hK357 => ?_
    refine WC.seq fun K358 hK358 => ?_
    -- region 1
    refine WC.region ?_
    -- R1.0 6 := icmp.go:31 move
    refine WL.v (by first | exact r_move (v := .slice _ _ _) rfl | exact r_move rfl) rfl rfl rfl ?_
    -- R1.1 7 := icmp.go:31 call
    refine WL.v (by exact r_len ty_usl25 rfl) rfl rfl rfl ?_
    -- R1.2 8 := icmp.go:31 binOp
    refine WL.v (by first | exact r_lss rfl rfl (decide_eq_true (by omega)) | exact r_lss rfl rfl (decide_eq_false (by omega)) | exact r_lss rfl rfl rfl) rfl rfl rfl ?_
    refine WL.fin hK358 (fun _ _ h => h) ?_
    refine WC.condT rfl rfl ?_
    refine WC.seq fun K359 hK359 => ?_
    -- region 2 (draws)
    refine WC.heldS [4] [0, 1] [2, 3, 4] st (st) ty_mixed (by kernel_rfl) fun w st Kq hKq => ?_
    -- R2.0 9 := icmp.go:32 build
    refine HL.v (fun w st => by exact r_build (ps := []) (vs := [_, _, _, _, _, _, _, _, _, _, _, _, _, _, _, _, _, _, _, _, _]) ty_pl41 ty_zero41 rfl (fill_nil)) rfl rfl rfl ?_
    -- R2.1 10 := icmp.go:32 load
    refine HL.v (fun w st => by exact r_load1 ty_one47 rfl (st.old (fun h => h) (hE 9 (by decide)))) rfl rfl rfl ?_
    refine HL.fin hKq ?_
    refine TL.at ?_
    -- R2.2 None := icmp.go:32 store
    first | refine WL.storeW (vs := [_, _, _, _, _, _, _, _, _, _, _, _, _, _, _, _, _, _, _, _, _]) st ty_agg41 rfl rfl rfl rfl rfl rfl ?_ | refine WL.storeL (vs := [_, _, _, _, _, _, _, _, _, _, _, _, _, _, _, _, _, _, _, _, _]) st ty_agg41 rfl rfl rfl rfl (by first | decide | omega) rfl rfl ?_ | refine WL.storeW (vs := [_, _, _, _, _, _, _, _, _, _, _, _, _, _, _, _, _, _, _, _, _]) st.front1 ty_agg41 rfl rfl rfl rfl rfl rfl ?_ | refine WL.storeL (vs := [_, _, _, _, _, _, _, _, _, _, _, _, _, _, _, _, _, _, _, _, _]) st.front1 ty_agg41 rfl rfl rfl rfl (by first | decide | omega) rfl rfl ?_ | refine WL.storeW (vs := [_, _, _, _, _, _, _, _, _, _, _, _, _, _, _, _, _, _, _, _, _]) st.front2 ty_agg41 rfl rfl rfl rfl rfl rfl ?_ | refine WL.storeL (vs := [_, _, _, _, _, _, _, _, _, _, _, _, _, _, _, _, _, _, _, _, _]) st.front2 ty_agg41 rfl rfl rfl rfl (by first | decide | omega) rfl rfl ?_ | refine WL.storeW (vs := [_, _, _, _, _, _, _, _, _, _, _, _, _, _, _, _, _, _, _, _, _]) st.front3 ty_agg41 rfl rfl rfl rfl rfl rfl ?_ | refine WL.storeL (vs := [_, _, _, _, _, _, _, _, _, _, _, _, _, _, _, _, _, _, _, _, _]) st.front3 ty_agg41 rfl rfl rfl rfl (by first | decide | omega) rfl rfl ?_ | refine WL.storeW (vs := [_, _, _, _, _, _, _, _, _, _, _, _, _, _, _, _, _, _, _, _, _]) st.front4 ty_agg41 rfl rfl rfl rfl rfl rfl ?_ | refine WL.storeL (vs := [_, _, _, _, _, _, _, _, _, _, _, _, _, _, _, _, _, _, _, _, _]) st.front4 ty_agg41 rfl rfl rfl rfl (by first | decide | omega) rfl rfl ?_ | refine WL.storeW (vs := [_, _, _, _, _, _, _, _, _, _, _, _, _, _, _, _, _, _, _, _, _]) st.front5 ty_agg41 rfl rfl rfl rfl rfl rfl ?_ | refine WL.storeL (vs := [_, _, _, _, _, _, _, _, _, _, _, _, _, _, _, _, _, _, _, _, _]) st.front5 ty_agg41 rfl rfl rfl rfl (by first | decide | omega) rfl rfl ?_ | refine WL.storeW (vs := [_, _, _, _, _, _, _, _, _, _, _, _, _, _, _, _, _, _, _, _, _]) st.front6 ty_agg41 rfl rfl rfl rfl rfl rfl ?_ | refine WL.storeL (vs := [_, _, _, _, _, _, _, _, _, _, _, _, _, _, _, _, _, _, _, _, _]) st.front6 ty_agg41 rfl rfl rfl rfl (by first | decide | omega) rfl rfl ?_ | refine WL.storeW (vs := [_, _, _, _, _, _, _, _, _, _, _, _, _, _, _, _, _, _, _, _, _]) st.front7 ty_agg41 rfl rfl rfl rfl rfl rfl ?_ | refine WL.storeL (vs := [_, _, _, _, _, _, _, _, _, _, _, _, _, _, _, _, _, _, _, _, _]) st.front7 ty_agg41 rfl rfl rfl rfl (by first | decide | omega) rfl rfl ?_ | refine WL.storeW (vs := [_, _, _, _, _, _, _, _, _, _, _, _, _, _, _, _, _, _, _, _, _]) st.front8 ty_agg41 rfl rfl rfl rfl rfl rfl ?_ | refine WL.storeL (vs := [_, _, _, _, _, _, _, _, _, _, _, _, _, _, _, _, _, _, _, _, _]) st.front8 ty_agg41 rfl rfl rfl rfl (by first | decide | omega) rfl rfl ?_
    intro w st
    refine TL.nxt (by first | exact st | exact st.drop | exact st.drop1 | exact st.drop2 | exact st.drop3 | exact st.drop4 | exact st.drop.drop | exact st.drop.drop1 | exact st.drop.drop2 | exact st.drop.drop3 | exact st.drop.drop4 | exact st.drop.drop.drop | exact st_dropL st | exact st_dropL st.drop | exact st_none st) ?_
    refine TL.at ?_
    -- R2.3 3 := icmp.go:32 assign
    refine WL.v (by first | exact r_assign (v := .slice _ _ _) rfl | exact r_assign rfl) rfl rfl rfl ?_
    refine TL.nxt (by first | exact st | exact st.drop | exact st.drop1 | exact st.drop2 | exact st.drop3 | exact st.drop4 | exact st.drop.drop | exact st.drop.drop1 | exact st.drop.drop2 | exact st.drop.drop3 | exact st.drop.drop4 | exact st.drop.drop.drop | exact st_dropL st | exact st_dropL st.drop | exact st_none st) ?_
    refine TL.at ?_
    -- R2.4 4 := icmp.go:32 assign
    refine WL.v (by first | exact r_assign (v := .nilIface) rfl | exact r_assign (v := .iface _ _) rfl | exact r_assign rfl) rfl rfl rfl ?_
    refine TL.nxt' rfl ?_
    refine TL.wl ?_
    refine WL.fin hK359 (fun _ _ h => h) ?_
    refine WC.retCTT (vs := [_, _, _, _, _, _, _, _, _, _, _, _, _, _, _, _, _, _, _, _, _]) Tryd.results32 (fun _ _ h => h) rfl ty_agg41 rfl ⟨st.c0 (by decide), st.c0 (by decide), st.c0 (by decide), st.c0 (by decide), st.c0 (by decide), st.c0 (by decide), st.c0 (by decide), st.c0 (by decide), st.c0 (by decide), st.c0 (by decide), st.c0 (by decide), st.c0 (by decide), st.c0 (by decide), st.c0 (by decide), st.c0 (by decide), st.c0 (by decide), st.c0 (by decide), st.c0 (by decide), st.c0 (by decide), st.c0 (by decide), st.c0 (by decide), trivial⟩ ?_
    exact ⟨_, rfl, herr _ _, st.drop⟩
  have hp := Part.sub hs (l := 8) (h := s.bs.length) (m := s.c) (by omega) (Nat.le_refl _) hs.le (Nat.le_refl _)
  rw [List.take_length] at hp
  have hlec := hs.le
  refine enter [.slice s.a s.bs.length s.c] Tryd.func32 rfl Tryd.ntmps32 rfl ?_
  show WC _ _ _ 45 [] [(0, .slice s.a s.bs.length s.c)] _
  refine WC.seq fun K360 hK360 => ?_
  -- region 0
  refine WC.region ?_
  -- R0.0 2 := icmp.go:30 alloc
  refine WL.alloc (m := 21) st ty_zero41 rfl rfl rfl ?_
  intro b2 w st
  -- R0.1 3 := icmp.go:30 assign
  refine WL.v (by first | exact r_assign (v := .slice _ _ _) rfl | exact r_assign rfl) rfl rfl rfl ?_
  -- R0.2 4 := icmp.go:30 assign
  refine WL.v (by first | exact r_assign (v := .nilIface) rfl | exact r_assign (v := .iface _ _) rfl | exact r_assign rfl) rfl rfl rfl ?_
  refine WL.fin hK360 (fun _ _ h => h) ?_
  refine WC.seq fun K361 hK361 => ?_
  refine WC.seq fun K362 hK362 => ?_
  -- region 1
  refine WC.region ?_
  -- R1.0 6 := icmp.go:31 move
  refine WL.v (by first | exact r_move (v := .slice _ _ _) rfl | exact r_move rfl) rfl rfl rfl ?_
  -- R1.1 7 := icmp.go:31 call
  refine WL.v (by exact r_len ty_usl25 rfl) rfl rfl rfl ?_
  -- R1.2 8 := icmp.go:31 binOp
  refine WL.v (by first | exact r_lss rfl rfl (decide_eq_true (by omega)) | exact r_lss rfl rfl (decide_eq_false (by omega)) | exact r_lss rfl rfl rfl) rfl rfl rfl ?_
  refine WL.fin hK362 (fun _ _ h => h) ?_
  refine WC.condF rfl rfl ?_
  refine WC.skipF hK361 (fun _ _ h => h) ?_
  refine WC.seq fun K363 hK363 => ?_
  -- region 3
  refine WC.region ?_
  -- R3.0 12 := icmp.go:34 move
  refine WL.v (by first | exact r_move (v := .slice _ _ _) rfl | exact r_move rfl) rfl rfl rfl ?_
  -- R3.1 13 := icmp.go:34 slice
  refine WL.v (by exact r_slV s (l := 8) ty_sl25 rfl ⟨_, rfl⟩ rfl rfl (fun h => rfl) (by omega) (by omega) (Nat.le_refl _) (Nat.le_refl _)) rfl rfl rfl ?_
  -- R3.2 14 := icmp.go:34 call
  refine WL.call (r_call ty_call28 rfl) rfl rfl rfl (parseIp_ok hE (s.sub 8 s.bs.length s.c) hp.ok (by rw [hp.bs_]; simp; omega) (fun its w' q => hp.rd w' (hrd (its ++ [_]) w' (by rw [List.append_assoc]; exact q))) st) ?_
  rintro v w ⟨hv, st⟩
  obtain ⟨x, t, r, er, rfl, hv2⟩ := hv.hd hp.ok
  -- R3.3 11 := icmp.go:34 move
  refine WL.v (by first | exact r_move (v := .tuple _) rfl | exact r_move rfl) rfl rfl rfl ?_
  -- R3.4 15 := icmp.go:34 extract
  refine WL.v (by first | exact r_extract (v := .agg _) rfl rfl | exact r_extract rfl rfl) rfl rfl rfl ?_
  -- R3.5 16 := icmp.go:34 extract
  refine WL.v (by first | exact r_extract (v := .slice _ _ _) rfl rfl | exact r_extract rfl rfl) rfl rfl rfl ?_
  -- R3.6 17 := icmp.go:34 extract
  refine WL.v (by first | exact r_extract (v := .nilIface) rfl rfl | exact r_extract (v := .iface _ _) rfl rfl | exact r_extract rfl rfl) rfl rfl rfl ?_
  -- R3.7 5 := icmp.go:34 alloc
  refine WL.alloc (m := 17) st ty_zero36 rfl rfl rfl ?_
  intro b5 w st
  -- R3.8 None := icmp.go:34 store
  first | refine WL.storeW (vs := [_, _, _, _, _, _, _, _, _, _, _, _, _, _, _, _, _]) st ty_agg36 rfl rfl rfl rfl rfl rfl ?_ | refine WL.storeL (vs := [_, _, _, _, _, _, _, _, _, _, _, _, _, _, _, _, _]) st ty_agg36 rfl rfl rfl rfl (by first | decide | omega) rfl rfl ?_ | refine WL.storeW (vs := [_, _, _, _, _, _, _, _, _, _, _, _, _, _, _, _, _]) st.front1 ty_agg36 rfl rfl rfl rfl rfl rfl ?_ | refine WL.storeL (vs := [_, _, _, _, _, _, _, _, _, _, _, _, _, _, _, _, _]) st.front1 ty_agg36 rfl rfl rfl rfl (by first | decide | omega) rfl rfl ?_ | refine WL.storeW (vs := [_, _, _, _, _, _, _, _, _, _, _, _, _, _, _, _, _]) st.front2 ty_agg36 rfl rfl rfl rfl rfl rfl ?_ | refine WL.storeL (vs := [_, _, _, _, _, _, _, _, _, _, _, _, _, _, _, _, _]) st.front2 ty_agg36 rfl rfl rfl rfl (by first | decide | omega) rfl rfl ?_ | refine WL.storeW (vs := [_, _, _, _, _, _, _, _, _, _, _, _, _, _, _, _, _]) st.front3 ty_agg36 rfl rfl rfl rfl rfl rfl ?_ | refine WL.storeL (vs := [_, _, _, _, _, _, _, _, _, _, _, _, _, _, _, _, _]) st.front3 ty_agg36 rfl rfl rfl rfl (by first | decide | omega) rfl rfl ?_ | refine WL.storeW (vs := [_, _, _, _, _, _, _, _, _, _, _, _, _, _, _, _, _]) st.front4 ty_agg36 rfl rfl rfl rfl rfl rfl ?_ | refine WL.storeL (vs := [_, _, _, _, _, _, _, _, _, _, _, _, _, _, _, _, _]) st.front4 ty_agg36 rfl rfl rfl rfl (by first | decide | omega) rfl rfl ?_ | refine WL.storeW (vs := [_, _, _, _, _, _, _, _, _, _, _, _, _, _, _, _, _]) st.front5 ty_agg36 rfl rfl rfl rfl rfl rfl ?_ | refine WL.storeL (vs := [_, _, _, _, _, _, _, _, _, _, _, _, _, _, _, _, _]) st.front5 ty_agg36 rfl rfl rfl rfl (by first | decide | omega) rfl rfl ?_ | refine WL.storeW (vs := [_, _, _, _, _, _, _, _, _, _, _, _, _, _, _, _, _]) st.front6 ty_agg36 rfl rfl rfl rfl rfl rfl ?_ | refine WL.storeL (vs := [_, _, _, _, _, _, _, _, _, _, _, _, _, _, _, _, _]) st.front6 ty_agg36 rfl rfl rfl rfl (by first | decide | omega) rfl rfl ?_ | refine WL.storeW (vs := [_, _, _, _, _, _, _, _, _, _, _, _, _, _, _, _, _]) st.front7 ty_agg36 rfl rfl rfl rfl rfl rfl ?_ | refine WL.storeL (vs := [_, _, _, _, _, _, _, _, _, _, _, _, _, _, _, _, _]) st.front7 ty_agg36 rfl rfl rfl rfl (by first | decide | omega) rfl rfl ?_ | refine WL.storeW (vs := [_, _, _, _, _, _, _, _, _, _, _, _, _, _, _, _, _]) st.front8 ty_agg36 rfl rfl rfl rfl rfl rfl ?_ | refine WL.storeL (vs := [_, _, _, _, _, _, _, _, _, _, _, _, _, _, _, _, _]) st.front8 ty_agg36 rfl rfl rfl rfl (by first | decide | omega) rfl rfl ?_
  intro w st
  -- R3.9 3 := icmp.go:34 assign
  refine WL.v (by first | exact r_assign (v := .slice _ _ _) rfl | exact r_assign rfl) rfl rfl rfl ?_
  -- R3.10 4 := icmp.go:34 assign
  refine WL.v (by first | exact r_assign (v := .nilIface) rfl | exact r_assign (v := .iface _ _) rfl | exact r_assign rfl) rfl rfl rfl ?_
  refine WL.fin hK363 (fun _ _ h => h) ?_
  rcases hv2 with ⟨⟨T, u, rfl⟩, _, _⟩ | ⟨rfl, hI, rfl, hpt, hpr⟩
  · skip
    refine WC.seq fun K364 hK364 => ?_
    refine WC.seq fun K365 hK365 => ?_
    -- region 4
    refine WC.region ?_
    -- R4.0 18 := icmp.go:35 move
    refine WL.v (by first | exact r_move (v := .nilIface) rfl | exact r_move (v := .iface _ _) rfl | exact r_move rfl) rfl rfl rfl ?_
    -- R4.1 19 := icmp.go:35 binOp
    refine WL.v (by first | exact r_nil_neq ty_ifc47 rfl | exact r_some_neq ty_ifc47 rfl) rfl rfl rfl ?_
    -- R4.2 20 := icmp.go:35 move
    refine WL.v (by first | exact r_move (v := .bool _) rfl | exact r_move rfl) rfl rfl rfl ?_
    -- R4.3 21 := icmp.go:35 move
    refine WL.no rfl rfl ?_
    -- R4.4 22 := icmp.go:35 call
    refine WL.no rfl rfl ?_
    -- R4.5 23 := icmp.go:35 binOp
    refine WL.no rfl rfl ?_
    -- R4.6 24 := icmp.go:35 pick
    refine WL.v (by first | exact r_pickT (v := .bool _) rfl rfl | exact r_pickF (v := .bool _) rfl rfl) rfl rfl rfl ?_
    refine WL.fin hK365 (fun _ _ h => h) ?_
    refine WC.condT rfl rfl ?_
    refine WC.seq fun K366 hK366 => ?_
    -- region 5 (draws)
    refine WC.heldS [4] [0, 1] [2, 3, 4] st (st.drop1) ty_mixed (by kernel_rfl) fun w st Kq hKq => ?_
    -- R5.0 25 := icmp.go:36 build
    refine HL.v (fun w st => by exact r_build (ps := []) (vs := [_, _, _, _, _, _, _, _, _, _, _, _, _, _, _, _, _, _, _, _, _]) ty_pl41 ty_zero41 rfl (fill_nil)) rfl rfl rfl ?_
    -- R5.1 26 := icmp.go:36 load
    refine HL.v (fun w st => by exact r_load1 ty_one47 rfl (st.old (fun h => h) (hE 10 (by decide)))) rfl rfl rfl ?_
    refine HL.fin hKq ?_
    refine TL.at ?_
    -- R5.2 None := icmp.go:36 store
    first | refine WL.storeW (vs := [_, _, _, _, _, _, _, _, _, _, _, _, _, _, _, _, _, _, _, _, _]) st ty_agg41 rfl rfl rfl rfl rfl rfl ?_ | refine WL.storeL (vs := [_, _, _, _, _, _, _, _, _, _, _, _, _, _, _, _, _, _, _, _, _]) st ty_agg41 rfl rfl rfl rfl (by first | decide | omega) rfl rfl ?_ | refine WL.storeW (vs := [_, _, _, _, _, _, _, _, _, _, _, _, _, _, _, _, _, _, _, _, _]) st.front1 ty_agg41 rfl rfl rfl rfl rfl rfl ?_ | refine WL.storeL (vs := [_, _, _, _, _, _, _, _, _, _, _, _, _, _, _, _, _, _, _, _, _]) st.front1 ty_agg41 rfl rfl rfl rfl (by first | decide | omega) rfl rfl ?_ | refine WL.storeW (vs := [_, _, _, _, _, _, _, _, _, _, _, _, _, _, _, _, _, _, _, _, _]) st.front2 ty_agg41 rfl rfl rfl rfl rfl rfl ?_ | refine WL.storeL (vs := [_, _, _, _, _, _, _, _, _, _, _, _, _, _, _, _, _, _, _, _, _]) st.front2 ty_agg41 rfl rfl rfl rfl (by first | decide | omega) rfl rfl ?_ | refine WL.storeW (vs := [_, _, _, _, _, _, _, _, _, _, _, _, _, _, _, _, _, _, _, _, _]) st.front3 ty_agg41 rfl rfl rfl rfl rfl rfl ?_ | refine WL.storeL (vs := [_, _, _, _, _, _, _, _, _, _, _, _, _, _, _, _, _, _, _, _, _]) st.front3 ty_agg41 rfl rfl rfl rfl (by first | decide | omega) rfl rfl ?_ | refine WL.storeW (vs := [_, _, _, _, _, _, _, _, _, _, _, _, _, _, _, _, _, _, _, _, _]) st.front4 ty_agg41 rfl rfl rfl rfl rfl rfl ?_ | refine WL.storeL (vs := [_, _, _, _, _, _, _, _, _, _, _, _, _, _, _, _, _, _, _, _, _]) st.front4 ty_agg41 rfl rfl rfl rfl (by first | decide | omega) rfl rfl ?_ | refine WL.storeW (vs := [_, _, _, _, _, _, _, _, _, _, _, _, _, _, _, _, _, _, _, _, _]) st.front5 ty_agg41 rfl rfl rfl rfl rfl rfl ?_ | refine WL.storeL (vs := [_, _, _, _, _, _, _, _, _, _, _, _, _, _, _, _, _, _, _, _, _]) st.front5 ty_agg41 rfl rfl rfl rfl (by first | decide | omega) rfl rfl ?_ | refine WL.storeW (vs := [_, _, _, _, _, _, _, _, _, _, _, _, _, _, _, _, _, _, _, _, _]) st.front6 ty_agg41 rfl rfl rfl rfl rfl rfl ?_ | refine WL.storeL (vs := [_, _, _, _, _, _, _, _, _, _, _, _, _, _, _, _, _, _, _, _, _]) st.front6 ty_agg41 rfl rfl rfl rfl (by first | decide | omega) rfl rfl ?_ | refine WL.storeW (vs := [_, _, _, _, _, _, _, _, _, _, _, _, _, _, _, _, _, _, _, _, _]) st.front7 ty_agg41 rfl rfl rfl rfl rfl rfl ?_ | refine WL.storeL (vs := [_, _, _, _, _, _, _, _, _, _, _, _, _, _, _, _, _, _, _, _, _]) st.front7 ty_agg41 rfl rfl rfl rfl (by first | decide | omega) rfl rfl ?_ | refine WL.storeW (vs := [_, _, _, _, _, _, _, _, _, _, _, _, _, _, _, _, _, _, _, _, _]) st.front8 ty_agg41 rfl rfl rfl rfl rfl rfl ?_ | refine WL.storeL (vs := [_, _, _, _, _, _, _, _, _, _, _, _, _, _, _, _, _, _, _, _, _]) st.front8 ty_agg41 rfl rfl rfl rfl (by first | decide | omega) rfl rfl ?_
    intro w st
    refine TL.nxt (by first | exact st | exact st.drop | exact st.drop1 | exact st.drop2 | exact st.drop3 | exact st.drop4 | exact st.drop.drop | exact st.drop.drop1 | exact st.drop.drop2 | exact st.drop.drop3 | exact st.drop.drop4 | exact st.drop.drop.drop | exact st_dropL st | exact st_dropL st.drop | exact st_none st) ?_
    refine TL.at ?_
    -- R5.3 3 := icmp.go:36 assign
    refine WL.v (by first | exact r_assign (v := .slice _ _ _) rfl | exact r_assign rfl) rfl rfl rfl ?_
    refine TL.nxt (by first | exact st | exact st.drop | exact st.drop1 | exact st.drop2 | exact st.drop3 | exact st.drop4 | exact st.drop.drop | exact st.drop.drop1 | exact st.drop.drop2 | exact st.drop.drop3 | exact st.drop.drop4 | exact st.drop.drop.drop | exact st_dropL st | exact st_dropL st.drop | exact st_none st) ?_
    refine TL.at ?_
    -- R5.4 4 := icmp.go:36 assign
    refine WL.v (by first | exact r_assign (v := .nilIface) rfl | exact r_assign (v := .iface _ _) rfl | exact r_assign rfl) rfl rfl rfl ?_
    refine TL.nxt' rfl ?_
    refine TL.wl ?_
    refine WL.fin hK366 (fun _ _ h => h) ?_
    refine WC.retCTT (vs := [_, _, _, _, _, _, _, _, _, _, _, _, _, _, _, _, _, _, _, _, _]) Tryd.results32 (fun _ _ h => h) rfl ty_agg41 rfl ⟨st.c0 (by decide), st.c0 (by decide), st.c0 (by decide), st.c0 (by decide), st.c0 (by decide), st.c0 (by decide), st.c0 (by decide), st.c0 (by decide), st.c0 (by decide), st.c0 (by decide), st.c0 (by decide), st.c0 (by decide), st.c0 (by decide), st.c0 (by decide), st.c0 (by decide), st.c0 (by decide), st.c0 (by decide), st.c0 (by decide), st.c0 (by decide), st.c0 (by decide), st.c0 (by decide), trivial⟩ ?_
    exact ⟨_, rfl, herr _ _, st.drop.drop⟩
  rw [hp.bs_] at hI hpt hpr
  have hrl := congrArg List.length hpr.bs_
  by_cases hq : r.bs.length < 8
  · skip
    refine WC.seq fun K367 hK367 => ?_
    refine WC.seq fun K368 hK368 => ?_
    -- region 4
    refine WC.region ?_
    -- R4.0 18 := icmp.go:35 move
    refine WL.v (by first | exact r_move (v := .nilIface) rfl | exact r_move (v := .iface _ _) rfl | exact r_move rfl) rfl rfl rfl ?_
    -- R4.1 19 := icmp.go:35 binOp
    refine WL.v (by first | exact r_nil_neq ty_ifc47 rfl | exact r_some_neq ty_ifc47 rfl) rfl rfl rfl ?_
    -- R4.2 20 := icmp.go:35 move
    refine WL.v (by first | exact r_move (v := .bool _) rfl | exact r_move rfl) rfl rfl rfl ?_
    -- R4.3 21 := icmp.go:35 move
    refine WL.v (by first | exact r_move (v := .slice _ _ _) rfl | exact r_move rfl) rfl rfl rfl ?_
    -- R4.4 22 := icmp.go:35 call
    refine WL.v (by exact r_len ty_usl25 rfl) rfl rfl rfl ?_
    -- R4.5 23 := icmp.go:35 binOp
    refine WL.v (by first | exact r_lss rfl rfl (decide_eq_true (by omega)) | exact r_lss rfl rfl (decide_eq_false (by omega)) | exact r_lss rfl rfl rfl) rfl rfl rfl ?_
    -- R4.6 24 := icmp.go:35 pick
    refine WL.v (by first | exact r_pickT (v := .bool _) rfl rfl | exact r_pickF (v := .bool _) rfl rfl) rfl rfl rfl ?_
    refine WL.fin hK368 (fun _ _ h => h) ?_
    refine WC.condT rfl rfl ?_
    refine WC.seq fun K369 hK369 => ?_
    -- region 5 (draws)
    refine WC.heldS [4] [0, 1] [2, 3, 4] st (st.drop1) ty_mixed (by kernel_rfl) fun w st Kq hKq => ?_
    -- R5.0 25 := icmp.go:36 build
    refine HL.v (fun w st => by exact r_build (ps := []) (vs := [_, _, _, _, _, _, _, _, _, _, _, _, _, _, _, _, _, _, _, _, _]) ty_pl41 ty_zero41 rfl (fill_nil)) rfl rfl rfl ?_
    -- R5.1 26 := icmp.go:36 load
    refine HL.v (fun w st => by exact r_load1 ty_one47 rfl (st.old (fun h => h) (hE 10 (by decide)))) rfl rfl rfl ?_
    refine HL.fin hKq ?_
    refine TL.at ?_
    -- R5.2 None := icmp.go:36 store
    first | refine WL.storeW (vs := [_, _, _, _, _, _, _, _, _, _, _, _, _, _, _, _, _, _, _, _, _]) st ty_agg41 rfl rfl rfl rfl rfl rfl ?_ | refine WL.storeL (vs := [_, _, _, _, _, _, _, _, _, _, _, _, _, _, _, _, _, _, _, _, _]) st ty_agg41 rfl rfl rfl rfl (by first | decide | omega) rfl rfl ?_ | refine WL.storeW (vs := [_, _, _, _, _, _, _, _, _, _, _, _, _, _, _, _, _, _, _, _, _]) st.front1 ty_agg41 rfl rfl rfl rfl rfl rfl ?_ | refine WL.storeL (vs := [_, _, _, _, _, _, _, _, _, _, _, _, _, _, _, _, _, _, _, _, _]) st.front1 ty_agg41 rfl rfl rfl rfl (by first | decide | omega) rfl rfl ?_ | refine WL.storeW (vs := [_, _, _, _, _, _, _, _, _, _, _, _, _, _, _, _, _, _, _, _, _]) st.front2 ty_agg41 rfl rfl rfl rfl rfl rfl ?_ | refine WL.storeL (vs := [_, _, _, _, _, _, _, _, _, _, _, _, _, _, _, _, _, _, _, _, _]) st.front2 ty_agg41 rfl rfl rfl rfl (by first | decide | omega) rfl rfl ?_ | refine WL.storeW (vs := [_, _, _, _, _, _, _, _, _, _, _, _, _, _, _, _, _, _, _, _, _]) st.front3 ty_agg41 rfl rfl rfl rfl rfl rfl ?_ | refine WL.storeL (vs := [_, _, _, _, _, _, _, _, _, _, _, _, _, _, _, _, _, _, _, _, _]) st.front3 ty_agg41 rfl rfl rfl rfl (by first | decide | omega) rfl rfl ?_ | refine WL.storeW (vs := [_, _, _, _, _, _, _, _, _, _, _, _, _, _, _, _, _, _, _, _, _]) st.front4 ty_agg41 rfl rfl rfl rfl rfl rfl ?_ | refine WL.storeL (vs := [_, _, _, _, _, _, _, _, _, _, _, _, _, _, _, _, _, _, _, _, _]) st.front4 ty_agg41 rfl rfl rfl rfl (by first | decide | omega) rfl rfl ?_ | refine WL.storeW (vs := [_, _, _, _, _, _, _, _, _, _, _, _, _, _, _, _, _, _, _, _, _]) st.front5 ty_agg41 rfl rfl rfl rfl rfl rfl ?_ | refine WL.storeL (vs := [_, _, _, _, _, _, _, _, _, _, _, _, _, _, _, _, _, _, _, _, _]) st.front5 ty_agg41 rfl rfl rfl rfl (by first | decide | omega) rfl rfl ?_ | refine WL.storeW (vs := [_, _, _, _, _, _, _, _, _, _, _, _, _, _, _, _, _, _, _, _, _]) st.front6 ty_agg41 rfl rfl rfl rfl rfl rfl ?_ | refine WL.storeL (vs := [_, _, _, _, _, _, _, _, _, _, _, _, _, _, _, _, _, _, _, _, _]) st.front6 ty_agg41 rfl rfl rfl rfl (by first | decide | omega) rfl rfl ?_ | refine WL.storeW (vs := [_, _, _, _, _, _, _, _, _, _, _, _, _, _, _, _, _, _, _, _, _]) st.front7 ty_agg41 rfl rfl rfl rfl rfl rfl ?_ | refine WL.storeL (vs := [_, _, _, _, _, _, _, _, _, _, _, _, _, _, _, _, _, _, _, _, _]) st.front7 ty_agg41 rfl rfl rfl rfl (by first | decide | omega) rfl rfl ?_ | refine WL.storeW (vs := [_, _, _, _, _, _, _, _, _, _, _, _, _, _, _, _, _, _, _, _, _]) st.front8 ty_agg41 rfl rfl rfl rfl rfl rfl ?_ | refine WL.storeL (vs := [_, _, _, _, _, _, _, _, _, _, _, _, _, _, _, _, _, _, _, _, _]) st.front8 ty_agg41 rfl rfl rfl rfl (by first | decide | omega) rfl rfl ?_
    intro w st
    refine TL.nxt (by first | exact st | exact st.drop | exact st.drop1 | exact st.drop2 | exact st.drop3 | exact st.drop4 | exact st.drop.drop | exact st.drop.drop1 | exact st.drop.drop2 | exact st.drop.drop3 | exact st.drop.drop4 | exact st.drop.drop.drop | exact st_dropL st | exact st_dropL st.drop | exact st_none st) ?_
    refine TL.at ?_
    -- R5.3 3 := icmp.go:36 assign
    refine WL.v (by first | exact r_assign (v := .slice _ _ _) rfl | exact r_assign rfl) rfl rfl rfl ?_
    refine TL.nxt (by first | exact st | exact st.drop | exact st.drop1 | exact st.drop2 | exact st.drop3 | exact st.drop4 | exact st.drop.drop | exact st.drop.drop1 | exact st.drop.drop2 | exact st.drop.drop3 | exact st.drop.drop4 | exact st.drop.drop.drop | exact st_dropL st | exact st_dropL st.drop | exact st_none st) ?_
    refine TL.at ?_
    -- R5.4 4 := icmp.go:36 assign
    refine WL.v (by first | exact r_assign (v := .nilIface) rfl | exact r_assign (v := .iface _ _) rfl | exact r_assign rfl) rfl rfl rfl ?_
    refine TL.nxt' rfl ?_
    refine TL.wl ?_
    refine WL.fin hK369 (fun _ _ h => h) ?_
    refine WC.retCTT (vs := [_, _, _, _, _, _, _, _, _, _, _, _, _, _, _, _, _, _, _, _, _]) Tryd.results32 (fun _ _ h => h) rfl ty_agg41 rfl ⟨st.c0 (by decide), st.c0 (by decide), st.c0 (by decide), st.c0 (by decide), st.c0 (by decide), st.c0 (by decide), st.c0 (by decide), st.c0 (by decide), st.c0 (by decide), st.c0 (by decide), st.c0 (by decide), st.c0 (by decide), st.c0 (by decide), st.c0 (by decide), st.c0 (by decide), st.c0 (by decide), st.c0 (by decide), st.c0 (by decide), st.c0 (by decide), st.c0 (by decide), st.c0 (by decide), trivial⟩ ?_
    exact ⟨_, rfl, herr _ _, st.drop.drop⟩
  have hIc : IcIn s.bs := ⟨by omega, hI, by simp at hrl; omega⟩
  rw [hp.bs_] at st
  have hadr := hs.adr (by omega)
  obtain ⟨a, c, b, o, bs⟩ := s
  simp only [SV.rd] at hadr hl hrd h20 hp hlec hI hpt hpr hIc herr st ⊢
  subst hadr
  have hbyt := hsok.byt
  simp only at hbyt
  refine WC.seq fun K370 hK370 => ?_
  refine WC.seq fun K371 hK371 => ?_
  -- region 4
  refine WC.region ?_
  -- R4.0 18 := icmp.go:35 move
  refine WL.v (by first | exact r_move (v := .nilIface) rfl | exact r_move (v := .iface _ _) rfl | exact r_move rfl) rfl rfl rfl ?_
  -- R4.1 19 := icmp.go:35 binOp
  refine WL.v (by first | exact r_nil_neq ty_ifc47 rfl | exact r_some_neq ty_ifc47 rfl) rfl rfl rfl ?_
  -- R4.2 20 := icmp.go:35 move
  refine WL.v (by first | exact r_move (v := .bool _) rfl | exact r_move rfl) rfl rfl rfl ?_
  -- R4.3 21 := icmp.go:35 move
  refine WL.v (by first | exact r_move (v := .slice _ _ _) rfl | exact r_move rfl) rfl rfl rfl ?_
  -- R4.4 22 := icmp.go:35 call
  refine WL.v (by exact r_len ty_usl25 rfl) rfl rfl rfl ?_
  -- R4.5 23 := icmp.go:35 binOp
  refine WL.v (by first | exact r_lss rfl rfl (decide_eq_true (by omega)) | exact r_lss rfl rfl (decide_eq_false (by omega)) | exact r_lss rfl rfl rfl) rfl rfl rfl ?_
  -- R4.6 24 := icmp.go:35 pick
  refine WL.v (by first | exact r_pickT (v := .bool _) rfl rfl | exact r_pickF (v := .bool _) rfl rfl) rfl rfl rfl ?_
  refine WL.fin hK371 (fun _ _ h => h) ?_
  refine WC.condF rfl rfl ?_
  refine WC.skipF hK370 (fun _ _ h => h) ?_
  refine WC.seq fun K372 hK372 => ?_
  -- region 6 (draws)
  refine WC.heldS2 [15, 16] [0, 1, 2, 3, 4, 5, 6, 10, 14] [7, 8, 11, 12] [9, 13, 15, 16] st (st) ty_mixed (by kernel_rfl) fun w st Kq Kq2 hKq hKq2 => ?_
  -- R6.0 27 := icmp.go:38 move
  refine HL.v (fun w st => by first | exact r_move (v := .slice _ _ _) rfl | exact r_move rfl) rfl rfl rfl ?_
  -- R6.1 28 := icmp.go:38 indexAddr
  refine HL.v (fun w st => by exact r_indexS (j := 0) ty_sl25 rfl rfl rfl (by first | decide | omega)) rfl rfl rfl ?_
  -- R6.2 29 := icmp.go:38 load
  refine HL.v (fun w st => by exact r_load1 ty_one5 rfl (hrd [_, _] _ st 0 (by omega))) rfl rfl rfl ?_
  -- R6.3 30 := icmp.go:38 move
  refine HL.v (fun w st => by first | exact r_move (v := .slice _ _ _) rfl | exact r_move rfl) rfl rfl rfl ?_
  -- R6.4 31 := icmp.go:38 indexAddr
  refine HL.v (fun w st => by exact r_indexS (j := 1) ty_sl25 rfl rfl rfl (by first | decide | omega)) rfl rfl rfl ?_
  -- R6.5 32 := icmp.go:38 load
  refine HL.v (fun w st => by exact r_load1 ty_one5 rfl (hrd [_, _] _ st 1 (by omega))) rfl rfl rfl ?_
  -- R6.6 33 := icmp.go:38 load
  refine HL.v (fun w st => by exact r_loadL (vs := []) ty_agg83 rfl trivial) rfl rfl rfl ?_
  -- R6.10 37 := icmp.go:38 load
  refine HL.v (fun w st => by exact r_loadL (vs := []) ty_agg83 rfl trivial) rfl rfl rfl ?_
  -- R6.14 41 := icmp.go:38 load
  refine HL.v (fun w st => by exact r_loadL (vs := [_, _, _, _, _, _, _, _, _, _, _, _, _, _, _, _, _]) ty_agg36 rfl ⟨st.c0 (by decide), st.c0 (by decide), st.c0 (by decide), st.c0 (by decide), st.c0 (by decide), st.c0 (by decide), st.c0 (by decide), st.c0 (by decide), st.c0 (by decide), st.c0 (by decide), st.c0 (by decide), st.c0 (by decide), st.c0 (by decide), st.c0 (by decide), st.c0 (by decide), st.c0 (by decide), st.c0 (by decide), trivial⟩) rfl rfl rfl ?_
  refine HL.pure hKq ?_
  -- R6.7 34 := icmp.go:38 move
  refine HL.v (fun w _ => by first | exact r_move (v := .slice _ _ _) rfl | exact r_move rfl) rfl rfl rfl ?_
  -- R6.8 35 := icmp.go:38 slice
  refine HL.v (fun w _ => by first | exact r_slS (l := 2) (h := 4) ty_sl25 rfl ⟨_, rfl⟩ ⟨_, rfl⟩ rfl (fun h => by first | rfl | cases h) (by omega) (by omega) (by omega) (by omega) | exact r_sl (l := 2) (h := 4) ty_sl25 rfl ⟨_, rfl⟩ ⟨_, rfl⟩ rfl (fun h => by first | rfl | cases h) (by omega) (by omega) (by omega)) rfl rfl rfl ?_
  -- R6.11 38 := icmp.go:38 move
  refine HL.v (fun w _ => by first | exact r_move (v := .slice _ _ _) rfl | exact r_move rfl) rfl rfl rfl ?_
  -- R6.12 39 := icmp.go:38 slice
  refine HL.v (fun w _ => by first | exact r_slS (l := 4) (h := 8) ty_sl25 rfl ⟨_, rfl⟩ ⟨_, rfl⟩ rfl (fun h => by first | rfl | cases h) (by omega) (by omega) (by omega) (by omega) | exact r_sl (l := 4) (h := 8) ty_sl25 rfl ⟨_, rfl⟩ ⟨_, rfl⟩ rfl (fun h => by first | rfl | cases h) (by omega) (by omega) (by omega)) rfl rfl rfl ?_
  refine HL.fin hKq2 ?_
  refine TL.at ?_
  -- R6.9 36 := icmp.go:41 call
  refine WL.call (r_call ty_call38 rfl) rfl rfl rfl (u16_at b o 2 _ _ bs (bs.getD 2 0 * 256 + bs.getD 3 0) rfl (by omega) rfl hbyt (moreL hrd [_, _]) st) ?_
  rintro _ w ⟨rfl, st⟩
  refine TL.nxt (by first | exact st | exact st.drop | exact st.drop1 | exact st.drop2 | exact st.drop3 | exact st.drop4 | exact st.drop.drop | exact st.drop.drop1 | exact st.drop.drop2 | exact st.drop.drop3 | exact st.drop.drop4 | exact st.drop.drop.drop | exact st_dropL st | exact st_dropL st.drop | exact st_none st) ?_
  refine TL.at ?_
  -- R6.13 40 := icmp.go:42 call
  refine WL.call (r_call ty_call37 rfl) rfl rfl rfl (u32_at b o 4 _ _ bs (bs.getD 4 0 * 16777216 + bs.getD 5 0 * 65536 + bs.getD 6 0 * 256 + bs.getD 7 0) rfl (by omega) rfl hbyt (moreL hrd [_, _]) st) ?_
  rintro _ w ⟨rfl, st⟩
  refine TL.nxt (by first | exact st | exact st.drop | exact st.drop1 | exact st.drop2 | exact st.drop3 | exact st.drop4 | exact st.drop.drop | exact st.drop.drop1 | exact st.drop.drop2 | exact st.drop.drop3 | exact st.drop.drop4 | exact st.drop.drop.drop | exact st_dropL st | exact st_dropL st.drop | exact st_none st) ?_
  refine TL.at ?_
  -- R6.15 42 := icmp.go:38 build
  refine WL.v (by exact r_build (ps := [(0, .int _ _), (1, .int _ _), (2, .int _ _), (3, .int _ _), (4, .agg _)]) (vs := [_, _, _, _, _, _, _, _, _, _, _, _, _, _, _, _, _, _, _, _, _]) ty_pl41 ty_zero41 rfl (fill_step (pv := [_]) (cs' := [_, _, _, _, _, _, _, _, _, _, _, _, _, _, _, _, _, _, _, _, _]) rfl rfl rfl rfl (fill_step (pv := [_]) (cs' := [_, _, _, _, _, _, _, _, _, _, _, _, _, _, _, _, _, _, _, _, _]) rfl rfl rfl rfl (fill_step (pv := [_]) (cs' := [_, _, _, _, _, _, _, _, _, _, _, _, _, _, _, _, _, _, _, _, _]) rfl rfl rfl rfl (fill_step (pv := [_]) (cs' := [_, _, _, _, _, _, _, _, _, _, _, _, _, _, _, _, _, _, _, _, _]) rfl rfl rfl rfl (fill_step (pv := [_, _, _, _, _, _, _, _, _, _, _, _, _, _, _, _, _]) (cs' := [_, _, _, _, _, _, _, _, _, _, _, _, _, _, _, _, _, _, _, _, _]) rfl rfl rfl rfl (fill_nil))))))) rfl rfl rfl ?_
  refine TL.nxt' rfl ?_
  refine TL.at ?_
  -- R6.16 None := icmp.go:38 store
  first | refine WL.storeW (vs := [_, _, _, _, _, _, _, _, _, _, _, _, _, _, _, _, _, _, _, _, _]) st ty_agg41 rfl rfl rfl rfl rfl rfl ?_ | refine WL.storeL (vs := [_, _, _, _, _, _, _, _, _, _, _, _, _, _, _, _, _, _, _, _, _]) st ty_agg41 rfl rfl rfl rfl (by first | decide | omega) rfl rfl ?_ | refine WL.storeW (vs := [_, _, _, _, _, _, _, _, _, _, _, _, _, _, _, _, _, _, _, _, _]) st.front1 ty_agg41 rfl rfl rfl rfl rfl rfl ?_ | refine WL.storeL (vs := [_, _, _, _, _, _, _, _, _, _, _, _, _, _, _, _, _, _, _, _, _]) st.front1 ty_agg41 rfl rfl rfl rfl (by first | decide | omega) rfl rfl ?_ | refine WL.storeW (vs := [_, _, _, _, _, _, _, _, _, _, _, _, _, _, _, _, _, _, _, _, _]) st.front2 ty_agg41 rfl rfl rfl rfl rfl rfl ?_ | refine WL.storeL (vs := [_, _, _, _, _, _, _, _, _, _, _, _, _, _, _, _, _, _, _, _, _]) st.front2 ty_agg41 rfl rfl rfl rfl (by first | decide | omega) rfl rfl ?_ | refine WL.storeW (vs := [_, _, _, _, _, _, _, _, _, _, _, _, _, _, _, _, _, _, _, _, _]) st.front3 ty_agg41 rfl rfl rfl rfl rfl rfl ?_ | refine WL.storeL (vs := [_, _, _, _, _, _, _, _, _, _, _, _, _, _, _, _, _, _, _, _, _]) st.front3 ty_agg41 rfl rfl rfl rfl (by first | decide | omega) rfl rfl ?_ | refine WL.storeW (vs := [_, _, _, _, _, _, _, _, _, _, _, _, _, _, _, _, _, _, _, _, _]) st.front4 ty_agg41 rfl rfl rfl rfl rfl rfl ?_ | refine WL.storeL (vs := [_, _, _, _, _, _, _, _, _, _, _, _, _, _, _, _, _, _, _, _, _]) st.front4 ty_agg41 rfl rfl rfl rfl (by first | decide | omega) rfl rfl ?_ | refine WL.storeW (vs := [_, _, _, _, _, _, _, _, _, _, _, _, _, _, _, _, _, _, _, _, _]) st.front5 ty_agg41 rfl rfl rfl rfl rfl rfl ?_ | refine WL.storeL (vs := [_, _, _, _, _, _, _, _, _, _, _, _, _, _, _, _, _, _, _, _, _]) st.front5 ty_agg41 rfl rfl rfl rfl (by first | decide | omega) rfl rfl ?_ | refine WL.storeW (vs := [_, _, _, _, _, _, _, _, _, _, _, _, _, _, _, _, _, _, _, _, _]) st.front6 ty_agg41 rfl rfl rfl rfl rfl rfl ?_ | refine WL.storeL (vs := [_, _, _, _, _, _, _, _, _, _, _, _, _, _, _, _, _, _, _, _, _]) st.front6 ty_agg41 rfl rfl rfl rfl (by first | decide | omega) rfl rfl ?_ | refine WL.storeW (vs := [_, _, _, _, _, _, _, _, _, _, _, _, _, _, _, _, _, _, _, _, _]) st.front7 ty_agg41 rfl rfl rfl rfl rfl rfl ?_ | refine WL.storeL (vs := [_, _, _, _, _, _, _, _, _, _, _, _, _, _, _, _, _, _, _, _, _]) st.front7 ty_agg41 rfl rfl rfl rfl (by first | decide | omega) rfl rfl ?_ | refine WL.storeW (vs := [_, _, _, _, _, _, _, _, _, _, _, _, _, _, _, _, _, _, _, _, _]) st.front8 ty_agg41 rfl rfl rfl rfl rfl rfl ?_ | refine WL.storeL (vs := [_, _, _, _, _, _, _, _, _, _, _, _, _, _, _, _, _, _, _, _, _]) st.front8 ty_agg41 rfl rfl rfl rfl (by first | decide | omega) rfl rfl ?_
  intro w st
  refine TL.nxt' rfl ?_
  refine TL.wl ?_
  refine WL.fin hK372 (fun _ _ h => h) ?_
  refine WC.seq fun K373 hK373 => ?_
  -- region 7
  have st := st_nrm (L' := icL (icX bs) (ipX (bs.drop 8)) t.v) rfl st
  refine WC.region ?_
  -- R7.0 43 := icmp.go:45 load
  refine WL.v (by exact r_loadL (vs := [_, _, _, _, _, _, _, _, _, _, _, _, _, _, _, _, _, _, _, _, _]) ty_agg41 rfl ⟨st.c0 (by decide), st.c0 (by decide), st.c0 (by decide), st.c0 (by decide), st.c0 (by decide), st.c0 (by decide), st.c0 (by decide), st.c0 (by decide), st.c0 (by decide), st.c0 (by decide), st.c0 (by decide), st.c0 (by decide), st.c0 (by decide), st.c0 (by decide), st.c0 (by decide), st.c0 (by decide), st.c0 (by decide), st.c0 (by decide), st.c0 (by decide), st.c0 (by decide), st.c0 (by decide), trivial⟩) rfl rfl rfl ?_
  -- R7.1 44 := icmp.go:45 move
  refine WL.v (by first | exact r_move (v := .slice _ _ _) rfl | exact r_move rfl) rfl rfl rfl ?_
  -- R7.2 None := icmp.go:45 store
  first | refine WL.storeW (vs := [_, _, _, _, _, _, _, _, _, _, _, _, _, _, _, _, _, _, _, _, _]) st ty_agg41 rfl rfl rfl rfl rfl rfl ?_ | refine WL.storeL (vs := [_, _, _, _, _, _, _, _, _, _, _, _, _, _, _, _, _, _, _, _, _]) st ty_agg41 rfl rfl rfl rfl (by first | decide | omega) rfl rfl ?_ | refine WL.storeW (vs := [_, _, _, _, _, _, _, _, _, _, _, _, _, _, _, _, _, _, _, _, _]) st.front1 ty_agg41 rfl rfl rfl rfl rfl rfl ?_ | refine WL.storeL (vs := [_, _, _, _, _, _, _, _, _, _, _, _, _, _, _, _, _, _, _, _, _]) st.front1 ty_agg41 rfl rfl rfl rfl (by first | decide | omega) rfl rfl ?_ | refine WL.storeW (vs := [_, _, _, _, _, _, _, _, _, _, _, _, _, _, _, _, _, _, _, _, _]) st.front2 ty_agg41 rfl rfl rfl rfl rfl rfl ?_ | refine WL.storeL (vs := [_, _, _, _, _, _, _, _, _, _, _, _, _, _, _, _, _, _, _, _, _]) st.front2 ty_agg41 rfl rfl rfl rfl (by first | decide | omega) rfl rfl ?_ | refine WL.storeW (vs := [_, _, _, _, _, _, _, _, _, _, _, _, _, _, _, _, _, _, _, _, _]) st.front3 ty_agg41 rfl rfl rfl rfl rfl rfl ?_ | refine WL.storeL (vs := [_, _, _, _, _, _, _, _, _, _, _, _, _, _, _, _, _, _, _, _, _]) st.front3 ty_agg41 rfl rfl rfl rfl (by first | decide | omega) rfl rfl ?_ | refine WL.storeW (vs := [_, _, _, _, _, _, _, _, _, _, _, _, _, _, _, _, _, _, _, _, _]) st.front4 ty_agg41 rfl rfl rfl rfl rfl rfl ?_ | refine WL.storeL (vs := [_, _, _, _, _, _, _, _, _, _, _, _, _, _, _, _, _, _, _, _, _]) st.front4 ty_agg41 rfl rfl rfl rfl (by first | decide | omega) rfl rfl ?_ | refine WL.storeW (vs := [_, _, _, _, _, _, _, _, _, _, _, _, _, _, _, _, _, _, _, _, _]) st.front5 ty_agg41 rfl rfl rfl rfl rfl rfl ?_ | refine WL.storeL (vs := [_, _, _, _, _, _, _, _, _, _, _, _, _, _, _, _, _, _, _, _, _]) st.front5 ty_agg41 rfl rfl rfl rfl (by first | decide | omega) rfl rfl ?_ | refine WL.storeW (vs := [_, _, _, _, _, _, _, _, _, _, _, _, _, _, _, _, _, _, _, _, _]) st.front6 ty_agg41 rfl rfl rfl rfl rfl rfl ?_ | refine WL.storeL (vs := [_, _, _, _, _, _, _, _, _, _, _, _, _, _, _, _, _, _, _, _, _]) st.front6 ty_agg41 rfl rfl rfl rfl (by first | decide | omega) rfl rfl ?_ | refine WL.storeW (vs := [_, _, _, _, _, _, _, _, _, _, _, _, _, _, _, _, _, _, _, _, _]) st.front7 ty_agg41 rfl rfl rfl rfl rfl rfl ?_ | refine WL.storeL (vs := [_, _, _, _, _, _, _, _, _, _, _, _, _, _, _, _, _, _, _, _, _]) st.front7 ty_agg41 rfl rfl rfl rfl (by first | decide | omega) rfl rfl ?_ | refine WL.storeW (vs := [_, _, _, _, _, _, _, _, _, _, _, _, _, _, _, _, _, _, _, _, _]) st.front8 ty_agg41 rfl rfl rfl rfl rfl rfl ?_ | refine WL.storeL (vs := [_, _, _, _, _, _, _, _, _, _, _, _, _, _, _, _, _, _, _, _, _]) st.front8 ty_agg41 rfl rfl rfl rfl (by first | decide | omega) rfl rfl ?_
  intro w st
  -- R7.3 3 := icmp.go:45 assign
  refine WL.v (by first | exact r_assign (v := .slice _ _ _) rfl | exact r_assign rfl) rfl rfl rfl ?_
  -- R7.4 4 := icmp.go:45 assign
  refine WL.v (by first | exact r_assign (v := .nilIface) rfl | exact r_assign (v := .iface _ _) rfl | exact r_assign rfl) rfl rfl rfl ?_
  refine WL.fin hK373 (fun _ _ h => h) ?_
  refine WC.retCTT (vs := [_, _, _, _, _, _, _, _, _, _, _, _, _, _, _, _, _, _, _, _, _]) Tryd.results32 (fun _ _ h => h) rfl ty_agg41 rfl ⟨st.c0 (by decide), st.c0 (by decide), st.c0 (by decide), st.c0 (by decide), st.c0 (by decide), st.c0 (by decide), st.c0 (by decide), st.c0 (by decide), st.c0 (by decide), st.c0 (by decide), st.c0 (by decide), st.c0 (by decide), st.c0 (by decide), st.c0 (by decide), st.c0 (by decide), st.c0 (by decide), st.c0 (by decide), st.c0 (by decide), st.c0 (by decide), st.c0 (by decide), st.c0 (by decide), trivial⟩ ?_
  exact ⟨_, rfl, ⟨icX bs, ipX (bs.drop 8), t, r, .nilIface, rfl, .inr ⟨rfl, hIc, rfl, rfl, hp.trans hpt, hp.trans hpr⟩⟩, st.drop.drop⟩
end Go.Proofs.Qxb6500841aDoor

