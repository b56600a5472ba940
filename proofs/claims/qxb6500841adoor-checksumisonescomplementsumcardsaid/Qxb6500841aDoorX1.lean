import Derived.Test.Qxb6500841aDoorTy
import Derived.Test.Qxb6500841aDoorC7
set_option linter.unusedVariables false
set_option linter.unusedSimpArgs false
namespace Go.Proofs.Qxb6500841aDoor
open Go.RowKit Go.E1 Go.Wire

abbrev S0 (w0 : World) (l : List HI) (w : World) : Prop := St w0 (fun _ => False) l w

theorem st_cut {w0 : World} {M : Nat → Prop} {X P L : List HI} {w : World} (h : St w0 M (X ++ (P ++ L)) w) : St w0 M (X ++ L) w :=
  h.sublist (List.Sublist.append_left (List.sublist_append_right P L) X)

variable {w0 : World} {L : List HI} {w : World}

theorem u16_ok (b o n c : Nat) (B : List Int) (hn : 2 ≤ B.length) (h0 : 0 ≤ B.getD 0 0 ∧ B.getD 0 0 < 256) (h1 : 0 ≤ B.getD 1 0 ∧ B.getD 1 0 < 256) (hl : B.length = n) (hrd : ∀ its w', S0 w0 (its ++ L) w' → BA w' b o B) (st : S0 w0 L w) :
    Calls Tryd.prog 38 #[.agg #[], .slice (some ⟨b, o, none⟩) n c] w (Ret fun v w' => v = .int .u16 (B.getD 0 0 * 256 + B.getD 1 0) ∧ S0 w0 L w') := by
  refine enter [.agg #[], .slice (some ⟨b, o, none⟩) n c] Tryd.func38 rfl Tryd.ntmps38 rfl ?_
  show WC _ _ _ 18 [] [(0, .agg #[]), (1, .slice (some ⟨b, o, none⟩) n c)] _
  refine WC.seq fun K1 hK1 => ?_
  -- region 0
  refine WC.region ?_
  -- R0.0 2 := binary.go:155 box
  first | refine WL.box (m := 0) (vs := []) st rfl rfl rfl rfl rfl rfl ?_
  intro b2 w st
  -- R0.1 4 := binary.go:155 assign
  refine WL.v (by first | exact r_assign (v := .int _ _) rfl | exact r_assign rfl) rfl rfl rfl ?_
  refine WL.fin hK1 (fun _ _ h => h) ?_
  refine WC.seq fun K2 hK2 => ?_
  -- region 1
  refine WC.region ?_
  -- R1.0 5 := binary.go:156 move
  refine WL.v (by first | exact r_move (v := .slice _ _ _) rfl | exact r_move rfl) rfl rfl rfl ?_
  -- R1.1 6 := binary.go:156 indexAddr
  refine WL.v (by exact r_indexS (j := 1) ty_sl25 rfl rfl rfl (by first | decide | omega)) rfl rfl rfl ?_
  -- R1.2 7 := binary.go:156 load
  refine WL.v (by exact r_load1 ty_one5 rfl (hrd [_] _ st 1 (by omega))) rfl rfl rfl ?_
  refine WL.fin hK2 (fun _ _ h => h) ?_
  refine WC.seq fun K3 hK3 => ?_
  -- region 2 (draws)
  refine WC.quietS st ty_mixed (by kernel_rfl) fun Kq hKq => ?_
  -- R2.0 8 := binary.go:157 move
  refine QL.v (fun w st => by first | exact r_move (v := .slice _ _ _) rfl | exact r_move rfl) rfl rfl rfl ?_
  -- R2.1 9 := binary.go:157 indexAddr
  refine QL.v (fun w st => by exact r_indexS (j := 1) ty_sl25 rfl rfl rfl (by first | decide | omega)) rfl rfl rfl ?_
  -- R2.2 10 := binary.go:157 load
  refine QL.v (fun w st => by exact r_load1 ty_one5 rfl (hrd [_] _ st 1 (by omega))) rfl rfl rfl ?_
  -- R2.3 11 := binary.go:157 convert
  refine QL.v (fun w st => by first | exact r_conv ty_cv5_30 rfl (wu16 (by omega) (by omega)) | exact r_conv ty_cv5_30 rfl rfl) rfl rfl rfl ?_
  -- R2.4 12 := binary.go:157 move
  refine QL.v (fun w st => by first | exact r_move (v := .slice _ _ _) rfl | exact r_move rfl) rfl rfl rfl ?_
  -- R2.5 13 := binary.go:157 indexAddr
  refine QL.v (fun w st => by exact r_indexS (j := 0) ty_sl25 rfl rfl rfl (by first | decide | omega)) rfl rfl rfl ?_
  -- R2.6 14 := binary.go:157 load
  refine QL.v (fun w st => by exact r_load1 ty_one5 rfl (hrd [_] _ st 0 (by omega))) rfl rfl rfl ?_
  -- R2.7 15 := binary.go:157 convert
  refine QL.v (fun w st => by first | exact r_conv ty_cv5_30 rfl (wu16 (by omega) (by omega)) | exact r_conv ty_cv5_30 rfl rfl) rfl rfl rfl ?_
  -- R2.8 16 := binary.go:157 binOp
  refine QL.v (fun w st => by exact r_shl (r := B.getD 0 0 * 2 ^ 8) rfl rfl (by omega) (wu16 (x := B.getD 0 0 * 2 ^ 8) (by omega) (by omega))) rfl rfl rfl ?_
  -- R2.9 17 := binary.go:157 binOp
  refine QL.v (fun w st => by exact r_or (r := B.getD 1 0 + B.getD 0 0 * 2 ^ 8) rfl rfl ((congrArg IntKind.u16.wrap (or_u 16 8 h1.1 (by omega) h0.1 (by omega) (by omega))).trans (wu16 (by omega) (by omega)))) rfl rfl rfl ?_
  -- R2.10 4 := binary.go:157 assign
  refine QL.v (fun w st => by first | exact r_assign (v := .int _ _) rfl | exact r_assign rfl) rfl rfl rfl ?_
  refine QL.wl hKq fun w st => ?_
  refine WL.fin hK3 (fun _ _ h => h) ?_
  refine WC.ret1 Tryd.results38 (fun _ _ h => h) rfl ?_
  exact ⟨_, rfl, congrArg (Value.int .u16) (by omega), st.drop⟩

theorem u32_ok (b o n c : Nat) (B : List Int) (hn : 4 ≤ B.length) (h0 : 0 ≤ B.getD 0 0 ∧ B.getD 0 0 < 256) (h1 : 0 ≤ B.getD 1 0 ∧ B.getD 1 0 < 256) (h2 : 0 ≤ B.getD 2 0 ∧ B.getD 2 0 < 256) (h3 : 0 ≤ B.getD 3 0 ∧ B.getD 3 0 < 256) (hl : B.length = n) (hrd : ∀ its w', S0 w0 (its ++ L) w' → BA w' b o B) (st : S0 w0 L w) :
    Calls Tryd.prog 37 #[.agg #[], .slice (some ⟨b, o, none⟩) n c] w (Ret fun v w' => v = .int .u32 (B.getD 0 0 * 16777216 + B.getD 1 0 * 65536 + B.getD 2 0 * 256 + B.getD 3 0) ∧ S0 w0 L w') := by
  refine enter [.agg #[], .slice (some ⟨b, o, none⟩) n c] Tryd.func37 rfl Tryd.ntmps37 rfl ?_
  show WC _ _ _ 30 [] [(0, .agg #[]), (1, .slice (some ⟨b, o, none⟩) n c)] _
  refine WC.seq fun K4 hK4 => ?_
  -- region 0
  refine WC.region ?_
  -- R0.0 2 := binary.go:176 box
  first | refine WL.box (m := 0) (vs := []) st rfl rfl rfl rfl rfl rfl ?_
  intro b2 w st
  -- R0.1 4 := binary.go:176 assign
  refine WL.v (by first | exact r_assign (v := .int _ _) rfl | exact r_assign rfl) rfl rfl rfl ?_
  refine WL.fin hK4 (fun _ _ h => h) ?_
  refine WC.seq fun K5 hK5 => ?_
  -- region 1
  refine WC.region ?_
  -- R1.0 5 := binary.go:177 move
  refine WL.v (by first | exact r_move (v := .slice _ _ _) rfl | exact r_move rfl) rfl rfl rfl ?_
  -- R1.1 6 := binary.go:177 indexAddr
  refine WL.v (by exact r_indexS (j := 3) ty_sl25 rfl rfl rfl (by first | decide | omega)) rfl rfl rfl ?_
  -- R1.2 7 := binary.go:177 load
  refine WL.v (by exact r_load1 ty_one5 rfl (hrd [_] _ st 3 (by omega))) rfl rfl rfl ?_
  refine WL.fin hK5 (fun _ _ h => h) ?_
  refine WC.seq fun K6 hK6 => ?_
  -- region 2 (draws)
  refine WC.quietS st ty_mixed (by kernel_rfl) fun Kq hKq => ?_
  -- R2.0 8 := binary.go:178 move
  refine QL.v (fun w st => by first | exact r_move (v := .slice _ _ _) rfl | exact r_move rfl) rfl rfl rfl ?_
  -- R2.1 9 := binary.go:178 indexAddr
  refine QL.v (fun w st => by exact r_indexS (j := 3) ty_sl25 rfl rfl rfl (by first | decide | omega)) rfl rfl rfl ?_
  -- R2.2 10 := binary.go:178 load
  refine QL.v (fun w st => by exact r_load1 ty_one5 rfl (hrd [_] _ st 3 (by omega))) rfl rfl rfl ?_
  -- R2.3 11 := binary.go:178 convert
  refine QL.v (fun w st => by first | exact r_conv ty_cv5_37 rfl (wu32 (by omega) (by omega)) | exact r_conv ty_cv5_37 rfl rfl) rfl rfl rfl ?_
  -- R2.4 12 := binary.go:178 move
  refine QL.v (fun w st => by first | exact r_move (v := .slice _ _ _) rfl | exact r_move rfl) rfl rfl rfl ?_
  -- R2.5 13 := binary.go:178 indexAddr
  refine QL.v (fun w st => by exact r_indexS (j := 2) ty_sl25 rfl rfl rfl (by first | decide | omega)) rfl rfl rfl ?_
  -- R2.6 14 := binary.go:178 load
  refine QL.v (fun w st => by exact r_load1 ty_one5 rfl (hrd [_] _ st 2 (by omega))) rfl rfl rfl ?_
  -- R2.7 15 := binary.go:178 convert
  refine QL.v (fun w st => by first | exact r_conv ty_cv5_37 rfl (wu32 (by omega) (by omega)) | exact r_conv ty_cv5_37 rfl rfl) rfl rfl rfl ?_
  -- R2.8 16 := binary.go:178 binOp
  refine QL.v (fun w st => by exact r_shl (r := B.getD 2 0 * 2 ^ 8) rfl rfl (by omega) (wu32 (x := B.getD 2 0 * 2 ^ 8) (by omega) (by omega))) rfl rfl rfl ?_
  -- R2.9 17 := binary.go:178 binOp
  refine QL.v (fun w st => by exact r_or (r := B.getD 3 0 + B.getD 2 0 * 2 ^ 8) rfl rfl ((congrArg IntKind.u32.wrap (or_u 32 8 h3.1 (by omega) h2.1 (by omega) (by omega))).trans (wu32 (by omega) (by omega)))) rfl rfl rfl ?_
  -- R2.10 18 := binary.go:178 move
  refine QL.v (fun w st => by first | exact r_move (v := .slice _ _ _) rfl | exact r_move rfl) rfl rfl rfl ?_
  -- R2.11 19 := binary.go:178 indexAddr
  refine QL.v (fun w st => by exact r_indexS (j := 1) ty_sl25 rfl rfl rfl (by first | decide | omega)) rfl rfl rfl ?_
  -- R2.12 20 := binary.go:178 load
  refine QL.v (fun w st => by exact r_load1 ty_one5 rfl (hrd [_] _ st 1 (by omega))) rfl rfl rfl ?_
  -- R2.13 21 := binary.go:178 convert
  refine QL.v (fun w st => by first | exact r_conv ty_cv5_37 rfl (wu32 (by omega) (by omega)) | exact r_conv ty_cv5_37 rfl rfl) rfl rfl rfl ?_
  -- R2.14 22 := binary.go:178 binOp
  refine QL.v (fun w st => by exact r_shl (r := B.getD 1 0 * 2 ^ 16) rfl rfl (by omega) (wu32 (x := B.getD 1 0 * 2 ^ 16) (by omega) (by omega))) rfl rfl rfl ?_
  -- R2.15 23 := binary.go:178 binOp
  refine QL.v (fun w st => by exact r_or (r := B.getD 3 0 + B.getD 2 0 * 2 ^ 8 + B.getD 1 0 * 2 ^ 16) rfl rfl ((congrArg IntKind.u32.wrap (or_u 32 16 (by omega) (by omega) h1.1 (by omega) (by omega))).trans (wu32 (by omega) (by omega)))) rfl rfl rfl ?_
  -- R2.16 24 := binary.go:178 move
  refine QL.v (fun w st => by first | exact r_move (v := .slice _ _ _) rfl | exact r_move rfl) rfl rfl rfl ?_
  -- R2.17 25 := binary.go:178 indexAddr
  refine QL.v (fun w st => by exact r_indexS (j := 0) ty_sl25 rfl rfl rfl (by first | decide | omega)) rfl rfl rfl ?_
  -- R2.18 26 := binary.go:178 load
  refine QL.v (fun w st => by exact r_load1 ty_one5 rfl (hrd [_] _ st 0 (by omega))) rfl rfl rfl ?_
  -- R2.19 27 := binary.go:178 convert
  refine QL.v (fun w st => by first | exact r_conv ty_cv5_37 rfl (wu32 (by omega) (by omega)) | exact r_conv ty_cv5_37 rfl rfl) rfl rfl rfl ?_
  -- R2.20 28 := binary.go:178 binOp
  refine QL.v (fun w st => by exact r_shl (r := B.getD 0 0 * 2 ^ 24) rfl rfl (by omega) (wu32 (x := B.getD 0 0 * 2 ^ 24) (by omega) (by omega))) rfl rfl rfl ?_
  -- R2.21 29 := binary.go:178 binOp
  refine QL.v (fun w st => by exact r_or (r := B.getD 3 0 + B.getD 2 0 * 2 ^ 8 + B.getD 1 0 * 2 ^ 16 + B.getD 0 0 * 2 ^ 24) rfl rfl ((congrArg IntKind.u32.wrap (or_u 32 24 (by omega) (by omega) h0.1 (by omega) (by omega))).trans (wu32 (by omega) (by omega)))) rfl rfl rfl ?_
  -- R2.22 4 := binary.go:178 assign
  refine QL.v (fun w st => by first | exact r_assign (v := .int _ _) rfl | exact r_assign rfl) rfl rfl rfl ?_
  refine QL.wl hKq fun w st => ?_
  refine WL.fin hK6 (fun _ _ h => h) ?_
  refine WC.ret1 Tryd.results37 (fun _ _ h => h) rfl ?_
  exact ⟨_, rfl, congrArg (Value.int .u32) (by omega), st.drop⟩

theorem ap16_ok {v : Value} {bs : List Int} {XI : List HI} (x : Int) (hx : 0 ≤ x ∧ x < 65536) (ho : BO 5 v bs XI) (hb : bs.length ≤ 100000000000) (st : S0 w0 (XI ++ L) w) :
    Calls Tryd.prog 77 #[.agg #[], v, .int .u16 x] w (Ret fun v' w' => ∃ XI', BO 5 v' (bs ++ be16 x) XI' ∧ S0 w0 (XI' ++ L) w') := by
  refine enter [.agg #[], v, .int .u16 x] Tryd.func77 rfl Tryd.ntmps77 rfl ?_
  show WC _ _ _ 15 [] [(0, .agg #[]), (1, v), (2, .int .u16 x)] _
  refine WC.seq fun K7 hK7 => ?_
  -- region 0
  refine WC.region ?_
  -- R0.0 3 := binary.go:168 box
  first | refine WL.box (m := 0) (vs := []) st rfl rfl rfl rfl rfl rfl ?_
  intro b3 w st
  -- R0.1 6 := binary.go:168 assign
  refine WL.v (by first | exact r_assign (v := .slice _ _ _) rfl | exact r_assign rfl) rfl rfl rfl ?_
  refine WL.fin hK7 (fun _ _ h => h) ?_
  refine WC.seq fun K8 hK8 => ?_
  -- region 1
  refine WC.region ?_
  -- R1.0 7 := binary.go:169 move
  refine WL.v (by first | exact r_move (v := .slice _ _ _) rfl | exact r_move rfl) rfl rfl rfl ?_
  -- R1.1 8 := binary.go:169 move
  refine WL.v (by first | exact r_move (v := .int _ _) rfl | exact r_move rfl) rfl rfl rfl ?_
  -- R1.2 9 := binary.go:169 binOp
  refine WL.v (by exact r_shr (r := x / 256) rfl rfl (by omega) (shr_u 8)) rfl rfl rfl ?_
  -- R1.3 10 := binary.go:169 convert
  refine WL.v (by exact r_conv ty_cv30_5 rfl (wu8 (by omega) (by omega))) rfl rfl rfl ?_
  -- R1.4 11 := binary.go:169 move
  refine WL.v (by first | exact r_move (v := .int _ _) rfl | exact r_move rfl) rfl rfl rfl ?_
  -- R1.5 12 := binary.go:169 convert
  refine WL.v (by exact r_conv (r := x % 256) ty_cv30_5 rfl (wrap8 x)) rfl rfl rfl ?_
  -- R1.6 13 := binary.go:169 buildSlice
  first | refine WL.mkslice (m := 2) (vs := [.int _ _, .int _ _]) st ty_sl25 ty_zero5 rfl rfl rfl rfl rfl rfl ?_ | refine WL.mkslice (m := 2) (vs := [_, _]) st ty_sl25 ty_zero5 rfl rfl rfl rfl rfl rfl ?_ | refine WL.mkslice st ty_sl25 ty_zero5 rfl rfl rfl rfl rfl rfl ?_
  intro b13 w st
  -- R1.7 14 := binary.go:169 call
  refine WL.appB (s := ⟨some ⟨b13, 0, none⟩, 2, b13, 0, be16 x⟩) ho ⟨Nat.le_refl _, by simp, fun _ => rfl, be16_byt hx⟩ (fun i hi => ?_) (st_pull (P := [_, _]) (Q := XI) st) ty_mk25 ty_sl25 ty_zero5 rfl rfl rfl (by simp only [be16, List.length_cons, List.length_nil]; omega) (by simp only [be16, List.length_cons, List.length_nil]; omega) rfl rfl rfl ?_
  · match i, hi with
    | 0, _ => exact st.c0 (show (0 : Nat) + 0 < 2 by decide)
    | 1, _ => exact st.c0 (show (0 : Nat) + 1 < 2 by decide)
  intro v' XI' w ho' st
  -- R1.8 6 := binary.go:169 assign
  refine WL.v (by first | exact r_assign (v := .slice _ _ _) rfl | exact r_assign rfl) rfl rfl rfl ?_
  refine WL.fin hK8 (fun _ _ h => h) ?_
  refine WC.ret1 Tryd.results77 (fun _ _ h => h) rfl ?_
  exact ⟨_, rfl, XI', ho', st_cut (P := [_, _]) st⟩

theorem ap32_ok {v : Value} {bs : List Int} {XI : List HI} (x : Int) (hx : 0 ≤ x ∧ x < 4294967296) (ho : BO 5 v bs XI) (hb : bs.length ≤ 100000000000) (st : S0 w0 (XI ++ L) w) :
    Calls Tryd.prog 79 #[.agg #[], v, .int .u32 x] w (Ret fun v' w' => ∃ XI', BO 5 v' (bs ++ be32 x) XI' ∧ S0 w0 (XI' ++ L) w') := by
  refine enter [.agg #[], v, .int .u32 x] Tryd.func79 rfl Tryd.ntmps79 rfl ?_
  show WC _ _ _ 21 [] [(0, .agg #[]), (1, v), (2, .int .u32 x)] _
  refine WC.seq fun K9 hK9 => ?_
  -- region 0
  refine WC.region ?_
  -- R0.0 3 := binary.go:191 box
  first | refine WL.box (m := 0) (vs := []) st rfl rfl rfl rfl rfl rfl ?_
  intro b3 w st
  -- R0.1 6 := binary.go:191 assign
  refine WL.v (by first | exact r_assign (v := .slice _ _ _) rfl | exact r_assign rfl) rfl rfl rfl ?_
  refine WL.fin hK9 (fun _ _ h => h) ?_
  refine WC.seq fun K10 hK10 => ?_
  -- region 1
  refine WC.region ?_
  -- R1.0 7 := binary.go:192 move
  refine WL.v (by first | exact r_move (v := .slice _ _ _) rfl | exact r_move rfl) rfl rfl rfl ?_
  -- R1.1 8 := binary.go:192 move
  refine WL.v (by first | exact r_move (v := .int _ _) rfl | exact r_move rfl) rfl rfl rfl ?_
  -- R1.2 9 := binary.go:192 binOp
  refine WL.v (by exact r_shr (r := x / 16777216) rfl rfl (by omega) (shr_u 24)) rfl rfl rfl ?_
  -- R1.3 10 := binary.go:192 convert
  refine WL.v (by exact r_conv ty_cv37_5 rfl (wu8 (by omega) (by omega))) rfl rfl rfl ?_
  -- R1.4 11 := binary.go:192 move
  refine WL.v (by first | exact r_move (v := .int _ _) rfl | exact r_move rfl) rfl rfl rfl ?_
  -- R1.5 12 := binary.go:192 binOp
  refine WL.v (by exact r_shr (r := x / 65536) rfl rfl (by omega) (shr_u 16)) rfl rfl rfl ?_
  -- R1.6 13 := binary.go:192 convert
  refine WL.v (by exact r_conv (r := x / 65536 % 256) ty_cv37_5 rfl (wrap8 _)) rfl rfl rfl ?_
  -- R1.7 14 := binary.go:192 move
  refine WL.v (by first | exact r_move (v := .int _ _) rfl | exact r_move rfl) rfl rfl rfl ?_
  -- R1.8 15 := binary.go:192 binOp
  refine WL.v (by exact r_shr (r := x / 256) rfl rfl (by omega) (shr_u 8)) rfl rfl rfl ?_
  -- R1.9 16 := binary.go:192 convert
  refine WL.v (by exact r_conv (r := x / 256 % 256) ty_cv37_5 rfl (wrap8 _)) rfl rfl rfl ?_
  -- R1.10 17 := binary.go:192 move
  refine WL.v (by first | exact r_move (v := .int _ _) rfl | exact r_move rfl) rfl rfl rfl ?_
  -- R1.11 18 := binary.go:192 convert
  refine WL.v (by exact r_conv (r := x % 256) ty_cv37_5 rfl (wrap8 x)) rfl rfl rfl ?_
  -- R1.12 19 := binary.go:192 buildSlice
  first | refine WL.mkslice (m := 4) (vs := [.int _ _, .int _ _, .int _ _, .int _ _]) st ty_sl25 ty_zero5 rfl rfl rfl rfl rfl rfl ?_ | refine WL.mkslice (m := 4) (vs := [_, _, _, _]) st ty_sl25 ty_zero5 rfl rfl rfl rfl rfl rfl ?_ | refine WL.mkslice st ty_sl25 ty_zero5 rfl rfl rfl rfl rfl rfl ?_
  intro b19 w st
  -- R1.13 20 := binary.go:192 call
  refine WL.appB (s := ⟨some ⟨b19, 0, none⟩, 4, b19, 0, be32 x⟩) ho ⟨Nat.le_refl _, by simp, fun _ => rfl, be32_byt hx⟩ (fun i hi => ?_) (st_pull (P := [_, _]) (Q := XI) st) ty_mk25 ty_sl25 ty_zero5 rfl rfl rfl (by simp only [be32, List.length_cons, List.length_nil]; omega) (by simp only [be32, List.length_cons, List.length_nil]; omega) rfl rfl rfl ?_
  · match i, hi with
    | 0, _ => exact st.c0 (show (0 : Nat) + 0 < 4 by decide)
    | 1, _ => exact st.c0 (show (0 : Nat) + 1 < 4 by decide)
    | 2, _ => exact st.c0 (show (0 : Nat) + 2 < 4 by decide)
    | 3, _ => exact st.c0 (show (0 : Nat) + 3 < 4 by decide)
  intro v' XI' w ho' st
  -- R1.14 6 := binary.go:192 assign
  refine WL.v (by first | exact r_assign (v := .slice _ _ _) rfl | exact r_assign rfl) rfl rfl rfl ?_
  refine WL.fin hK10 (fun _ _ h => h) ?_
  refine WC.ret1 Tryd.results79 (fun _ _ h => h) rfl ?_
  exact ⟨_, rfl, XI', ho', st_cut (P := [_, _]) st⟩

theorem equal_ok (s t : SV) (hs : s.ok) (ht : t.ok) (hrs : ∀ w', S0 w0 L w' → s.rd w') (hrt : ∀ w', S0 w0 L w' → t.rd w') (st : S0 w0 L w) :
    Calls Tryd.prog 12 #[s.v, t.v] w (Ret fun v w' => (∃ r, v = .bool r ∧ (s.bs = t.bs → r = true)) ∧ S0 w0 L w') := by
  refine enter [s.v, t.v] Tryd.func12 rfl Tryd.ntmps12 rfl ?_
  show WC _ _ _ 10 [] [(0, s.v), (1, t.v)] _
  refine WC.seq fun K11 hK11 => ?_
  -- region 0
  refine WC.region ?_
  -- R0.0 4 := bytes.go:20 assign
  refine WL.v (by first | exact r_assign (v := .bool _) rfl | exact r_assign rfl) rfl rfl rfl ?_
  refine WL.fin hK11 (fun _ _ h => h) ?_
  refine WC.seq fun K12 hK12 => ?_
  -- region 1
  refine WC.region ?_
  -- R1.0 5 := bytes.go:22 move
  refine WL.v (by first | exact r_move (v := .slice _ _ _) rfl | exact r_move rfl) rfl rfl rfl ?_
  -- R1.1 6 := bytes.go:22 convert
  refine WL.v (by exact r_bstr ty_usl25 ty_uint5 ty_ustr9 hs (hrs _ st) rfl) rfl rfl rfl ?_
  -- R1.2 7 := bytes.go:22 move
  refine WL.v (by first | exact r_move (v := .slice _ _ _) rfl | exact r_move rfl) rfl rfl rfl ?_
  -- R1.3 8 := bytes.go:22 convert
  refine WL.v (by exact r_bstr ty_usl25 ty_uint5 ty_ustr9 ht (hrt _ st) rfl) rfl rfl rfl ?_
  -- R1.4 9 := bytes.go:22 binOp
  refine WL.v (by exact r_seql rfl rfl rfl) rfl rfl rfl ?_
  -- R1.5 4 := bytes.go:22 assign
  refine WL.v (by first | exact r_assign (v := .bool _) rfl | exact r_assign rfl) rfl rfl rfl ?_
  refine WL.fin hK12 (fun _ _ h => h) ?_
  refine WC.ret1 Tryd.results12 (fun _ _ h => h) rfl ?_
  exact ⟨_, rfl, ⟨_, rfl, fun h => by rw [h]; simp⟩, st⟩
end Go.Proofs.Qxb6500841aDoor

