import Derived.Test.Qxb6500841aDoorX12
set_option linter.unusedVariables false
set_option linter.unusedSimpArgs false
set_option maxRecDepth 20000
namespace Go.Proofs.Qxb6500841aDoor
open Go.RowKit Go.E1 Go.Wire
variable {w0 : World} {L : List HI} {w : World} {ET : Nat → TypeId} {EU : Nat → Value}

def u4 (a b c d : Int) : Int := a * 16777216 + b * 65536 + c * 256 + d
theorem u4_rng {a b c d : Int} (h0 : 0 ≤ a ∧ a < 256) (h1 : 0 ≤ b ∧ b < 256) (h2 : 0 ≤ c ∧ c < 256) (h3 : 0 ≤ d ∧ d < 256) : 0 ≤ u4 a b c d ∧ u4 a b c d < 4294967296 := by unfold u4; omega

theorem u32_4 (b o : Nat) (a0 a1 a2 a3 : Int) (h0 : 0 ≤ a0 ∧ a0 < 256) (h1 : 0 ≤ a1 ∧ a1 < 256) (h2 : 0 ≤ a2 ∧ a2 < 256) (h3 : 0 ≤ a3 ∧ a3 < 256) (hrd : ∀ its w', S0 w0 (its ++ L) w' → BA w' b o [a0, a1, a2, a3]) (st : S0 w0 L w) :
    Calls Tryd.prog 37 #[.agg #[], .slice (some ⟨b, o, none⟩) 4 4] w (Ret fun v w' => v = .int .u32 (u4 a0 a1 a2 a3) ∧ S0 w0 L w') :=
  u32_ok b o 4 4 [a0, a1, a2, a3] (by simp) h0 h1 h2 h3 rfl hrd st

set_option maxHeartbeats 4000000 in
theorem pseudo_ok (a0 a1 a2 a3 d0 d1 d2 d3 p n : Int) (h0 : 0 ≤ a0 ∧ a0 < 256) (h1 : 0 ≤ a1 ∧ a1 < 256) (h2 : 0 ≤ a2 ∧ a2 < 256) (h3 : 0 ≤ a3 ∧ a3 < 256) (g0 : 0 ≤ d0 ∧ d0 < 256) (g1 : 0 ≤ d1 ∧ d1 < 256) (g2 : 0 ≤ d2 ∧ d2 < 256) (g3 : 0 ≤ d3 ∧ d3 < 256) (hp : 0 ≤ p ∧ p < 256) (hn : 0 ≤ n ∧ n < 65536) (st : S0 w0 L w) :
    Calls Tryd.prog 18 #[.agg #[.int .u8 a0, .int .u8 a1, .int .u8 a2, .int .u8 a3], .agg #[.int .u8 d0, .int .u8 d1, .int .u8 d2, .int .u8 d3], .int .u8 p, .int .u16 n] w (Ret fun v w' => v = .int .u16 (foldV (u4 a0 a1 a2 a3 + u4 d0 d1 d2 d3 + p + n)) ∧ S0 w0 L w') := by
  have q1 := u4_rng h0 h1 h2 h3
  have q2 := u4_rng g0 g1 g2 g3
  refine enter [.agg #[.int .u8 a0, .int .u8 a1, .int .u8 a2, .int .u8 a3], .agg #[.int .u8 d0, .int .u8 d1, .int .u8 d2, .int .u8 d3], .int .u8 p, .int .u16 n] Tryd.func18 rfl Tryd.ntmps18 rfl ?_
  show WC _ _ _ 25 [] [(0, .agg #[.int .u8 a0, .int .u8 a1, .int .u8 a2, .int .u8 a3]), (1, .agg #[.int .u8 d0, .int .u8 d1, .int .u8 d2, .int .u8 d3]), (2, .int .u8 p), (3, .int .u16 n)] _
  refine WC.seq fun K771 hK771 => ?_
  -- region 0
  refine WC.region ?_
  -- R0.0 4 := checksum.go:57 box
  first | refine WL.box (m := 4) (vs := [.int _ _, .int _ _, .int _ _, .int _ _]) st rfl rfl rfl rfl rfl rfl ?_ | refine WL.box (m := 4) (vs := [_, _, _, _]) st rfl rfl rfl rfl rfl rfl ?_ | refine WL.box st rfl rfl rfl rfl rfl rfl ?_
  intro b4 w st
  -- R0.1 5 := checksum.go:57 box
  first | refine WL.box (m := 4) (vs := [.int _ _, .int _ _, .int _ _, .int _ _]) st rfl rfl rfl rfl rfl rfl ?_ | refine WL.box (m := 4) (vs := [_, _, _, _]) st rfl rfl rfl rfl rfl rfl ?_ | refine WL.box st rfl rfl rfl rfl rfl rfl ?_
  intro b5 w st
  -- R0.2 8 := checksum.go:57 assign
  refine WL.v (by first | exact r_assign (v := .int _ _) rfl | exact r_assign rfl) rfl rfl rfl ?_
  refine WL.fin hK771 (fun _ _ h => h) ?_
  refine WC.seq fun K772 hK772 => ?_
  -- region 1 (draws)
  refine WC.quietS st ty_mixed (by kernel_rfl) fun Kq hKq => ?_
  -- R1.0 9 := checksum.go:58 load
  refine QL.v (fun w st => by exact r_loadL (vs := []) ty_agg83 rfl trivial) rfl rfl rfl ?_
  -- R1.1 10 := checksum.go:58 slice
  refine QL.v (fun w st => by exact r_slAr ty_ar34 rfl) rfl rfl rfl ?_
  -- R1.2 11 := checksum.go:58 call
  refine QL.call (val := .int .u32 (u4 a0 a1 a2 a3)) (fun w st => r_call ty_call37 rfl) rfl rfl rfl (fun w st => u32_4 b4 0 a0 a1 a2 a3 h0 h1 h2 h3 (fun its w' q => cf_ba (k := 0) (cf_row (t := 34) (n := 4) (f := nth [.int .u8 a0, .int .u8 a1, .int .u8 a2, .int .u8 a3]) q (by simp)) (by simp) rfl) st) ?_
  -- R1.3 12 := checksum.go:58 convert
  refine QL.v (fun w st => by first | exact r_conv ty_cv37_81 rfl (wu64 (by omega) (by omega)) | exact r_conv ty_cv37_81 rfl rfl) rfl rfl rfl ?_
  -- R1.4 13 := checksum.go:58 load
  refine QL.v (fun w st => by exact r_loadL (vs := []) ty_agg83 rfl trivial) rfl rfl rfl ?_
  -- R1.5 14 := checksum.go:58 slice
  refine QL.v (fun w st => by exact r_slAr ty_ar34 rfl) rfl rfl rfl ?_
  -- R1.6 15 := checksum.go:59 call
  refine QL.call (val := .int .u32 (u4 d0 d1 d2 d3)) (fun w st => r_call ty_call37 rfl) rfl rfl rfl (fun w st => u32_4 b5 0 d0 d1 d2 d3 g0 g1 g2 g3 (fun its w' q => cf_ba (k := 0) (cf_row (t := 34) (n := 4) (f := nth [.int .u8 d0, .int .u8 d1, .int .u8 d2, .int .u8 d3]) q (by simp)) (by simp) rfl) st) ?_
  -- R1.7 16 := checksum.go:58 convert
  refine QL.v (fun w st => by first | exact r_conv ty_cv37_81 rfl (wu64 (by omega) (by omega)) | exact r_conv ty_cv37_81 rfl rfl) rfl rfl rfl ?_
  -- R1.8 17 := checksum.go:58 binOp
  refine QL.v (fun w st => by first | exact r_add rfl rfl (wu64 (by omega) (by omega)) | exact r_add rfl rfl rfl) rfl rfl rfl ?_
  -- R1.9 18 := checksum.go:58 move
  refine QL.v (fun w st => by first | exact r_move (v := .int _ _) rfl | exact r_move rfl) rfl rfl rfl ?_
  -- R1.10 19 := checksum.go:58 convert
  refine QL.v (fun w st => by first | exact r_conv ty_cv5_81 rfl (wu64 (by omega) (by omega)) | exact r_conv ty_cv5_81 rfl rfl) rfl rfl rfl ?_
  -- R1.11 20 := checksum.go:58 binOp
  refine QL.v (fun w st => by first | exact r_add rfl rfl (wu64 (by omega) (by omega)) | exact r_add rfl rfl rfl) rfl rfl rfl ?_
  -- R1.12 21 := checksum.go:58 move
  refine QL.v (fun w st => by first | exact r_move (v := .int _ _) rfl | exact r_move rfl) rfl rfl rfl ?_
  -- R1.13 22 := checksum.go:58 convert
  refine QL.v (fun w st => by first | exact r_conv ty_cv30_81 rfl (wu64 (by omega) (by omega)) | exact r_conv ty_cv30_81 rfl rfl) rfl rfl rfl ?_
  -- R1.14 23 := checksum.go:58 binOp
  refine QL.v (fun w st => by first | exact r_add rfl rfl (wu64 (by omega) (by omega)) | exact r_add rfl rfl rfl) rfl rfl rfl ?_
  -- R1.15 24 := checksum.go:58 call
  refine QL.call (val := .int .u16 (foldV (u4 a0 a1 a2 a3 + u4 d0 d1 d2 d3 + p + n))) (fun w st => r_call ty_call39 rfl) rfl rfl rfl (fun w st => fold_ok _ (by omega) (by omega) st) ?_
  -- R1.16 8 := checksum.go:58 assign
  refine QL.v (fun w st => by first | exact r_assign (v := .int _ _) rfl | exact r_assign rfl) rfl rfl rfl ?_
  refine QL.wl hKq fun w st => ?_
  refine WL.fin hK772 (fun _ _ h => h) ?_
  refine WC.ret1 Tryd.results18 (fun _ _ h => h) rfl ?_
  exact ⟨_, rfl, rfl, st.drop.drop⟩

def ipAcc (x : Nat → Int) (n : Nat) : Int := 16384 + ((20 + n) / 4 : Nat) * 256 + x 0 + x 1 + x 2 + (x 3 * 8192 + x 4) + x 5 * 256 + x 6 + u4 (x 8) (x 9) (x 10) (x 11) + u4 (x 12) (x 13) (x 14) (x 15)
def ipSumV (x : Nat → Int) (o : List Int) : Int := foldV (foldV (ipAcc x o.length) + wsum o)

set_option maxHeartbeats 4000000 in
theorem ipSum_ok (b o : Nat) (x : Nat → Int) (s : SV) (hx : IpR x) (hs : s.ok) (hP : ipP x s.bs.length) (hr : ∀ its w', S0 w0 (its ++ L) w' → CF w' b o 17 (nth (ipL x s.v))) (hsr : ∀ its w', S0 w0 (its ++ L) w' → s.rd w') (st : S0 w0 L w) :
    Calls Tryd.prog 57 #[.pointer (some ⟨b, o, none⟩)] w (Ret fun v w' => v = .int .u16 (ipSumV x s.bs) ∧ S0 w0 L w') := by
  have hP' := hP
  obtain ⟨p3, p4, ⟨pm, p40⟩, p1⟩ := hP'
  have q1 := u4_rng hx.r8 hx.r9 hx.r10 hx.r11
  have q2 := u4_rng hx.r12 hx.r13 hx.r14 hx.r15
  have h0 := hx.r0
  have h1 := hx.r1
  have h2 := hx.r2
  have h3 := hx.r3
  have h4 := hx.r4
  have h5 := hx.r5
  have h6 := hx.r6
  have hacc : ipAcc x s.bs.length = 16384 + ((20 + s.bs.length) / 4 : Nat) * 256 + x 0 + x 1 + x 2 + (x 3 * 8192 + x 4) + x 5 * 256 + x 6 + u4 (x 8) (x 9) (x 10) (x 11) + u4 (x 12) (x 13) (x 14) (x 15) := rfl
  have hf := foldV_rng (ipAcc x s.bs.length)
  refine enter [.pointer (some ⟨b, o, none⟩)] Tryd.func57 rfl Tryd.ntmps57 rfl ?_
  show WC _ _ _ 64 [] [(0, .pointer (some ⟨b, o, none⟩))] _
  refine WC.seq fun K773 hK773 => ?_
  -- region 0
  refine WC.region ?_
  -- R0.0 2 := ipv4.go:109 assign
  refine WL.v (by first | exact r_assign (v := .int _ _) rfl | exact r_assign rfl) rfl rfl rfl ?_
  refine WL.fin hK773 (fun _ _ h => h) ?_
  refine WC.seq fun K774 hK774 => ?_
  -- region 1
  refine WC.region ?_
  -- R1.0 7 := ipv4.go:110 move
  refine WL.v (by first | exact r_move (v := .pointer _) rfl | exact r_move rfl) rfl rfl rfl ?_
  -- R1.1 8 := ipv4.go:110 call
  refine WL.call (r_call ty_call78 rfl) rfl rfl rfl (ipWords_ok b o x s hx hP hr st) ?_
  rintro _ w ⟨rfl, st⟩
  -- R1.2 6 := ipv4.go:110 move
  refine WL.v (by first | exact r_move (v := .tuple _) rfl | exact r_move rfl) rfl rfl rfl ?_
  -- R1.3 9 := ipv4.go:110 extract
  refine WL.v (by first | exact r_extract (v := .int _ _) rfl rfl | exact r_extract rfl rfl) rfl rfl rfl ?_
  -- R1.4 10 := ipv4.go:110 extract
  refine WL.v (by first | exact r_extract (v := .int _ _) rfl rfl | exact r_extract rfl rfl) rfl rfl rfl ?_
  -- R1.5 3 := ipv4.go:110 assign
  refine WL.v (by first | exact r_assign (v := .int _ _) rfl | exact r_assign rfl) rfl rfl rfl ?_
  -- R1.6 4 := ipv4.go:110 assign
  refine WL.v (by first | exact r_assign (v := .int _ _) rfl | exact r_assign rfl) rfl rfl rfl ?_
  refine WL.fin hK774 (fun _ _ h => h) ?_
  refine WC.seq fun K775 hK775 => ?_
  -- region 2 (draws)
  refine WC.quietS st ty_mixed (by kernel_rfl) fun Kq hKq => ?_
  -- R2.0 11 := ipv4.go:111 move
  refine QL.v (fun w st => by first | exact r_move (v := .int _ _) rfl | exact r_move rfl) rfl rfl rfl ?_
  -- R2.1 12 := ipv4.go:111 convert
  refine QL.v (fun w st => by first | exact r_conv ty_cv30_81 rfl (wu64 (by omega) (by omega)) | exact r_conv ty_cv30_81 rfl rfl) rfl rfl rfl ?_
  -- R2.2 13 := ipv4.go:111 move
  refine QL.v (fun w st => by first | exact r_move (v := .pointer _) rfl | exact r_move rfl) rfl rfl rfl ?_
  -- R2.3 14 := ipv4.go:111 nilCheck
  refine QL.v (fun w st => by exact r_nilCheck rfl) rfl rfl rfl ?_
  -- R2.4 15 := ipv4.go:111 fieldAddr
  refine QL.v (fun w st => by exact r_field ty_fld36_1 rfl) rfl rfl rfl ?_
  -- R2.5 16 := ipv4.go:111 load
  refine QL.v (fun w st => by first | exact r_load1 ty_one30 rfl (hr [] _ st 1 (by decide)) | exact r_load1 ty_one30 rfl (hr _ _ st 1 (by decide)) | exact r_load1 ty_one30 rfl (hr [_] _ st 1 (by decide)) | exact r_load1 ty_one30 rfl (hr [_, _] _ st 1 (by decide)) | exact r_load1 ty_one30 rfl (hr [_, _, _] _ st 1 (by decide))) rfl rfl rfl ?_
  -- R2.6 17 := ipv4.go:111 convert
  refine QL.v (fun w st => by first | exact r_conv ty_cv30_81 rfl (wu64 (by omega) (by omega)) | exact r_conv ty_cv30_81 rfl rfl) rfl rfl rfl ?_
  -- R2.7 18 := ipv4.go:111 binOp
  refine QL.v (fun w st => by first | exact r_add rfl rfl (wu64 (by omega) (by omega)) | exact r_add rfl rfl rfl) rfl rfl rfl ?_
  -- R2.8 19 := ipv4.go:111 move
  refine QL.v (fun w st => by first | exact r_move (v := .pointer _) rfl | exact r_move rfl) rfl rfl rfl ?_
  -- R2.9 20 := ipv4.go:111 nilCheck
  refine QL.v (fun w st => by exact r_nilCheck rfl) rfl rfl rfl ?_
  -- R2.10 21 := ipv4.go:111 fieldAddr
  refine QL.v (fun w st => by exact r_field ty_fld36_2 rfl) rfl rfl rfl ?_
  -- R2.11 22 := ipv4.go:111 load
  refine QL.v (fun w st => by first | exact r_load1 ty_one30 rfl (hr [] _ st 2 (by decide)) | exact r_load1 ty_one30 rfl (hr _ _ st 2 (by decide)) | exact r_load1 ty_one30 rfl (hr [_] _ st 2 (by decide)) | exact r_load1 ty_one30 rfl (hr [_, _] _ st 2 (by decide)) | exact r_load1 ty_one30 rfl (hr [_, _, _] _ st 2 (by decide))) rfl rfl rfl ?_
  -- R2.12 23 := ipv4.go:111 convert
  refine QL.v (fun w st => by first | exact r_conv ty_cv30_81 rfl (wu64 (by omega) (by omega)) | exact r_conv ty_cv30_81 rfl rfl) rfl rfl rfl ?_
  -- R2.13 24 := ipv4.go:111 binOp
  refine QL.v (fun w st => by first | exact r_add rfl rfl (wu64 (by omega) (by omega)) | exact r_add rfl rfl rfl) rfl rfl rfl ?_
  -- R2.14 25 := ipv4.go:111 move
  refine QL.v (fun w st => by first | exact r_move (v := .int _ _) rfl | exact r_move rfl) rfl rfl rfl ?_
  -- R2.15 26 := ipv4.go:111 convert
  refine QL.v (fun w st => by first | exact r_conv ty_cv30_81 rfl (wu64 (by omega) (by omega)) | exact r_conv ty_cv30_81 rfl rfl) rfl rfl rfl ?_
  -- R2.16 27 := ipv4.go:111 binOp
  refine QL.v (fun w st => by first | exact r_add rfl rfl (wu64 (by omega) (by omega)) | exact r_add rfl rfl rfl) rfl rfl rfl ?_
  -- R2.17 28 := ipv4.go:111 move
  refine QL.v (fun w st => by first | exact r_move (v := .pointer _) rfl | exact r_move rfl) rfl rfl rfl ?_
  -- R2.18 29 := ipv4.go:111 nilCheck
  refine QL.v (fun w st => by exact r_nilCheck rfl) rfl rfl rfl ?_
  -- R2.19 30 := ipv4.go:111 fieldAddr
  refine QL.v (fun w st => by exact r_field ty_fld36_5 rfl) rfl rfl rfl ?_
  -- R2.20 31 := ipv4.go:111 load
  refine QL.v (fun w st => by first | exact r_load1 ty_one5 rfl (hr [] _ st 5 (by decide)) | exact r_load1 ty_one5 rfl (hr _ _ st 5 (by decide)) | exact r_load1 ty_one5 rfl (hr [_] _ st 5 (by decide)) | exact r_load1 ty_one5 rfl (hr [_, _] _ st 5 (by decide)) | exact r_load1 ty_one5 rfl (hr [_, _, _] _ st 5 (by decide))) rfl rfl rfl ?_
  -- R2.21 32 := ipv4.go:111 convert
  refine QL.v (fun w st => by first | exact r_conv ty_cv5_81 rfl (wu64 (by omega) (by omega)) | exact r_conv ty_cv5_81 rfl rfl) rfl rfl rfl ?_
  -- R2.22 33 := ipv4.go:111 binOp
  refine QL.v (fun w st => by exact r_shl (r := x 5 * 256) rfl rfl (by omega) (wu64 (x := x 5 * 256) (by omega) (by omega))) rfl rfl rfl ?_
  -- R2.23 34 := ipv4.go:111 binOp
  refine QL.v (fun w st => by first | exact r_add rfl rfl (wu64 (by omega) (by omega)) | exact r_add rfl rfl rfl) rfl rfl rfl ?_
  -- R2.24 35 := ipv4.go:111 move
  refine QL.v (fun w st => by first | exact r_move (v := .pointer _) rfl | exact r_move rfl) rfl rfl rfl ?_
  -- R2.25 36 := ipv4.go:111 nilCheck
  refine QL.v (fun w st => by exact r_nilCheck rfl) rfl rfl rfl ?_
  -- R2.26 37 := ipv4.go:111 fieldAddr
  refine QL.v (fun w st => by exact r_field ty_fld36_6 rfl) rfl rfl rfl ?_
  -- R2.27 38 := ipv4.go:111 load
  refine QL.v (fun w st => by first | exact r_load1 ty_one5 rfl (hr [] _ st 6 (by decide)) | exact r_load1 ty_one5 rfl (hr _ _ st 6 (by decide)) | exact r_load1 ty_one5 rfl (hr [_] _ st 6 (by decide)) | exact r_load1 ty_one5 rfl (hr [_, _] _ st 6 (by decide)) | exact r_load1 ty_one5 rfl (hr [_, _, _] _ st 6 (by decide))) rfl rfl rfl ?_
  -- R2.28 39 := ipv4.go:111 convert
  refine QL.v (fun w st => by first | exact r_conv ty_cv5_81 rfl (wu64 (by omega) (by omega)) | exact r_conv ty_cv5_81 rfl rfl) rfl rfl rfl ?_
  -- R2.29 40 := ipv4.go:111 binOp
  refine QL.v (fun w st => by first | exact r_add rfl rfl (wu64 (by omega) (by omega)) | exact r_add rfl rfl rfl) rfl rfl rfl ?_
  -- R2.30 41 := ipv4.go:111 load
  refine QL.v (fun w st => by exact r_loadL (vs := []) ty_agg83 rfl trivial) rfl rfl rfl ?_
  -- R2.31 42 := ipv4.go:111 move
  refine QL.v (fun w st => by first | exact r_move (v := .pointer _) rfl | exact r_move rfl) rfl rfl rfl ?_
  -- R2.32 43 := ipv4.go:111 nilCheck
  refine QL.v (fun w st => by exact r_nilCheck rfl) rfl rfl rfl ?_
  -- R2.33 44 := ipv4.go:111 fieldAddr
  refine QL.v (fun w st => by exact r_field ty_fld36_8 rfl) rfl rfl rfl ?_
  -- R2.34 45 := ipv4.go:111 slice
  refine QL.v (fun w st => by exact r_slAr ty_ar34 rfl) rfl rfl rfl ?_
  -- R2.35 46 := ipv4.go:113 call
  refine QL.call (val := .int .u32 (u4 (x 8) (x 9) (x 10) (x 11))) (fun w st => r_call ty_call37 rfl) rfl rfl rfl (fun w st => u32_4 b (o + 8) _ _ _ _ hx.r8 hx.r9 hx.r10 hx.r11 (fun its w' q => cf_ba (k := 8) (hr its w' q) (by simp) rfl) st) ?_
  -- R2.36 47 := ipv4.go:111 convert
  refine QL.v (fun w st => by first | exact r_conv ty_cv37_81 rfl (wu64 (by omega) (by omega)) | exact r_conv ty_cv37_81 rfl rfl) rfl rfl rfl ?_
  -- R2.37 48 := ipv4.go:111 binOp
  refine QL.v (fun w st => by first | exact r_add rfl rfl (wu64 (by omega) (by omega)) | exact r_add rfl rfl rfl) rfl rfl rfl ?_
  -- R2.38 49 := ipv4.go:111 load
  refine QL.v (fun w st => by exact r_loadL (vs := []) ty_agg83 rfl trivial) rfl rfl rfl ?_
  -- R2.39 50 := ipv4.go:111 move
  refine QL.v (fun w st => by first | exact r_move (v := .pointer _) rfl | exact r_move rfl) rfl rfl rfl ?_
  -- R2.40 51 := ipv4.go:111 nilCheck
  refine QL.v (fun w st => by exact r_nilCheck rfl) rfl rfl rfl ?_
  -- R2.41 52 := ipv4.go:111 fieldAddr
  refine QL.v (fun w st => by exact r_field ty_fld36_9 rfl) rfl rfl rfl ?_
  -- R2.42 53 := ipv4.go:111 slice
  refine QL.v (fun w st => by exact r_slAr ty_ar34 rfl) rfl rfl rfl ?_
  -- R2.43 54 := ipv4.go:114 call
  refine QL.call (val := .int .u32 (u4 (x 12) (x 13) (x 14) (x 15))) (fun w st => r_call ty_call37 rfl) rfl rfl rfl (fun w st => u32_4 b (o + 12) _ _ _ _ hx.r12 hx.r13 hx.r14 hx.r15 (fun its w' q => cf_ba (k := 12) (hr its w' q) (by simp) rfl) st) ?_
  -- R2.44 55 := ipv4.go:111 convert
  refine QL.v (fun w st => by first | exact r_conv ty_cv37_81 rfl (wu64 (by omega) (by omega)) | exact r_conv ty_cv37_81 rfl rfl) rfl rfl rfl ?_
  -- R2.45 56 := ipv4.go:111 binOp
  refine QL.v (fun w st => by exact r_add (r := ipAcc x s.bs.length) rfl rfl ((wu64 (by omega) (by omega)).trans (by omega))) rfl rfl rfl ?_
  -- R2.46 5 := ipv4.go:111 assign
  refine QL.v (fun w st => by first | exact r_assign (v := .int _ _) rfl | exact r_assign rfl) rfl rfl rfl ?_
  refine QL.wl hKq fun w st => ?_
  refine WL.fin hK775 (fun _ _ h => h) ?_
  refine WC.seq fun K776 hK776 => ?_
  -- region 3 (draws)
  refine WC.quietS st ty_mixed (by kernel_rfl) fun Kq hKq => ?_
  -- R3.0 57 := ipv4.go:115 move
  refine QL.v (fun w st => by first | exact r_move (v := .int _ _) rfl | exact r_move rfl) rfl rfl rfl ?_
  -- R3.1 58 := ipv4.go:115 call
  refine QL.call (val := .int .u16 (foldV (ipAcc x s.bs.length))) (fun w st => r_call ty_call39 rfl) rfl rfl rfl (fun w st => fold_ok (ipAcc x s.bs.length) (by omega) (by omega) st) ?_
  -- R3.2 59 := ipv4.go:115 move
  refine QL.v (fun w st => by first | exact r_move (v := .pointer _) rfl | exact r_move rfl) rfl rfl rfl ?_
  -- R3.3 60 := ipv4.go:115 nilCheck
  refine QL.v (fun w st => by exact r_nilCheck rfl) rfl rfl rfl ?_
  -- R3.4 61 := ipv4.go:115 fieldAddr
  refine QL.v (fun w st => by exact r_field ty_fld36_10 rfl) rfl rfl rfl ?_
  -- R3.5 62 := ipv4.go:115 load
  refine QL.v (fun w st => by first | exact r_load1 ty_one25 rfl (hr [] _ st 16 (by decide)) | exact r_load1 ty_one25 rfl (hr _ _ st 16 (by decide)) | exact r_load1 ty_one25 rfl (hr [_] _ st 16 (by decide)) | exact r_load1 ty_one25 rfl (hr [_, _] _ st 16 (by decide)) | exact r_load1 ty_one25 rfl (hr [_, _, _] _ st 16 (by decide))) rfl rfl rfl ?_
  -- R3.6 63 := ipv4.go:115 call
  refine QL.call (val := .int .u16 (ipSumV x s.bs)) (fun w st => r_call ty_call16 rfl) rfl rfl rfl (fun w st => sum_ok _ s hf.1 hf.2 hs (by omega) hsr st) ?_
  -- R3.7 2 := ipv4.go:115 assign
  refine QL.v (fun w st => by first | exact r_assign (v := .int _ _) rfl | exact r_assign rfl) rfl rfl rfl ?_
  refine QL.wl hKq fun w st => ?_
  refine WL.fin hK776 (fun _ _ h => h) ?_
  refine WC.ret1 Tryd.results57 (fun _ _ h => h) rfl ?_
  exact ⟨_, rfl, rfl, st⟩

theorem compl16 {x : Int} (h : 0 ≤ x ∧ x < 65536) : IntKind.u16.wrap ((BitVec.ofInt 16 65535 ^^^ BitVec.ofInt 16 x).toNat : Int) = 65535 - x := by
  have e : BitVec.ofInt 16 65535 = BitVec.allOnes 16 := by decide
  rw [e, BitVec.allOnes_xor, BitVec.toNat_not, ofInt_nat 16 h.1 h.2, wrap16]
  omega
theorem r_compl {P : Program} {ρ : Operand → Value} {w : World} {d : Option Tmp} {ty : TypeId} {pos : String} {af : Array Edge} {g : Option (Nat × Bool)} {y : Operand} {T : TypeId} {x : Int} (hx : ρ y = .int .u16 x) (h : 0 ≤ x ∧ x < 65536) :
    (execOp ρ ⟨d, .unOp .xor T y, ty, pos, af, g⟩).run P w = .ok (.value (.int .u16 (65535 - x))) w := by
  rw [← compl16 h]
  simp [execOp, hx, Op.unary, Op.intBits, go_sem]
  rfl

theorem ipCk_ok (b o : Nat) (x : Nat → Int) (s : SV) (hx : IpR x) (hs : s.ok) (hP : ipP x s.bs.length) (hr : ∀ its w', S0 w0 (its ++ L) w' → CF w' b o 17 (nth (ipL x s.v))) (hsr : ∀ its w', S0 w0 (its ++ L) w' → s.rd w') (st : S0 w0 L w) :
    Calls Tryd.prog 69 #[.pointer (some ⟨b, o, none⟩)] w (Ret fun v w' => v = .int .u16 (65535 - ipSumV x s.bs) ∧ S0 w0 L w') := by
  refine enter [.pointer (some ⟨b, o, none⟩)] Tryd.func69 rfl Tryd.ntmps69 rfl ?_
  show WC _ _ _ 6 [] [(0, .pointer (some ⟨b, o, none⟩))] _
  refine WC.seq fun K777 hK777 => ?_
  -- region 0
  refine WC.region ?_
  -- R0.0 2 := ipv4.go:120 assign
  refine WL.v (by first | exact r_assign (v := .int _ _) rfl | exact r_assign rfl) rfl rfl rfl ?_
  refine WL.fin hK777 (fun _ _ h => h) ?_
  refine WC.seq fun K778 hK778 => ?_
  -- region 1
  refine WC.region ?_
  -- R1.0 3 := ipv4.go:121 move
  refine WL.v (by first | exact r_move (v := .pointer _) rfl | exact r_move rfl) rfl rfl rfl ?_
  -- R1.1 4 := ipv4.go:121 call
  refine WL.call (r_call ty_call57 rfl) rfl rfl rfl (ipSum_ok b o x s hx hs hP hr hsr st) ?_
  rintro _ w ⟨rfl, st⟩
  -- R1.2 5 := ipv4.go:121 unOp
  refine WL.v (by exact r_compl rfl (foldV_rng _)) rfl rfl rfl ?_
  -- R1.3 2 := ipv4.go:121 assign
  refine WL.v (by first | exact r_assign (v := .int _ _) rfl | exact r_assign rfl) rfl rfl rfl ?_
  refine WL.fin hK778 (fun _ _ h => h) ?_
  refine WC.ret1 Tryd.results69 (fun _ _ h => h) rfl ?_
  exact ⟨_, rfl, rfl, st⟩
end Go.Proofs.Qxb6500841aDoor

