import Derived.Test.Qxb6500841aDoorX13
set_option linter.unusedVariables false
set_option linter.unusedSimpArgs false
set_option maxRecDepth 20000
namespace Go.Proofs.Qxb6500841aDoor
open Go.RowKit Go.E1 Go.Wire
variable {w0 : World} {L : List HI} {w : World} {ET : Nat → TypeId} {EU : Nat → Value}

def tcpAcc (p : Int) (x : Nat → Int) (n : Nat) : Int := p + x 0 + x 1 + x 2 + x 3 + (((20 + n) / 4 : Nat) * 4096 + x 4 * 256 + x 5) + x 6 + x 8
def tcpSumV (p : Int) (x : Nat → Int) (o d : List Int) : Int := foldV (foldV (foldV (tcpAcc p x o.length) + wsum o) + wsum d)
def tcpPs (a0 a1 a2 a3 d0 d1 d2 d3 : Int) (n m : Nat) : Int := foldV (u4 a0 a1 a2 a3 + u4 d0 d1 d2 d3 + 6 + ((20 + n + m : Nat) : Int) % 65536)

set_option maxHeartbeats 8000000 in
theorem tcpSum_ok (a0 a1 a2 a3 d0 d1 d2 d3 : Int) (h0 : 0 ≤ a0 ∧ a0 < 256) (h1 : 0 ≤ a1 ∧ a1 < 256) (h2 : 0 ≤ a2 ∧ a2 < 256) (h3 : 0 ≤ a3 ∧ a3 < 256) (g0 : 0 ≤ d0 ∧ d0 < 256) (g1 : 0 ≤ d1 ∧ d1 < 256) (g2 : 0 ≤ d2 ∧ d2 < 256) (g3 : 0 ≤ d3 ∧ d3 < 256)
    (b o : Nat) (x : Nat → Int) (s q : SV) (hx : TcpR x) (hs : s.ok) (hq : q.ok) (hl : q.bs.length ≤ 1000000000) (hP : tcpP x s.bs.length) (hr : ∀ its w', S0 w0 (its ++ L) w' → CF w' b o 10 (nth (tcpL x s.v))) (hsr : ∀ its w', S0 w0 (its ++ L) w' → s.rd w') (hqr : ∀ its w', S0 w0 (its ++ L) w' → q.rd w') (st : S0 w0 L w) :
    Calls Tryd.prog 43 #[.agg #[.int .u8 a0, .int .u8 a1, .int .u8 a2, .int .u8 a3], .agg #[.int .u8 d0, .int .u8 d1, .int .u8 d2, .int .u8 d3], .pointer (some ⟨b, o, none⟩), .slice q.a q.bs.length q.c] w
      (Ret fun v w' => v = .int .u16 (tcpSumV (tcpPs a0 a1 a2 a3 d0 d1 d2 d3 s.bs.length q.bs.length) x s.bs q.bs) ∧ S0 w0 L w') := by
  have hP' := hP
  obtain ⟨p4, pm, p40⟩ := hP'
  have r0 := hx.r0
  have r1 := hx.r1
  have r2 := hx.r2
  have r3 := hx.r3
  have r4 := hx.r4
  have r5 := hx.r5
  have r6 := hx.r6
  have r8 := hx.r8
  obtain ⟨ps, hps⟩ : ∃ ps, ps = tcpPs a0 a1 a2 a3 d0 d1 d2 d3 s.bs.length q.bs.length := ⟨_, rfl⟩
  have hpr : 0 ≤ ps ∧ ps < 65536 := by rw [hps]; exact foldV_rng _
  have hacc : tcpAcc ps x s.bs.length = ps + x 0 + x 1 + x 2 + x 3 + (((20 + s.bs.length) / 4 : Nat) * 4096 + x 4 * 256 + x 5) + x 6 + x 8 := rfl
  have hf := foldV_rng (tcpAcc ps x s.bs.length)
  have hf2 := foldV_rng (foldV (tcpAcc ps x s.bs.length) + wsum s.bs)
  rw [← hps]
  refine enter [.agg #[.int .u8 a0, .int .u8 a1, .int .u8 a2, .int .u8 a3], .agg #[.int .u8 d0, .int .u8 d1, .int .u8 d2, .int .u8 d3], .pointer (some ⟨b, o, none⟩), .slice q.a q.bs.length q.c] Tryd.func43 rfl Tryd.ntmps43 rfl ?_
  show WC _ _ _ 71 [] [(0, .agg #[.int .u8 a0, .int .u8 a1, .int .u8 a2, .int .u8 a3]), (1, .agg #[.int .u8 d0, .int .u8 d1, .int .u8 d2, .int .u8 d3]), (2, .pointer (some ⟨b, o, none⟩)), (3, .slice q.a q.bs.length q.c)] _
  refine WC.seq fun K779 hK779 => ?_
  -- region 0
  refine WC.region ?_
  -- R0.0 4 := tcp.go:69 box
  first | refine WL.box (m := 4) (vs := [.int _ _, .int _ _, .int _ _, .int _ _]) st rfl rfl rfl rfl rfl rfl ?_ | refine WL.box (m := 4) (vs := [_, _, _, _]) st rfl rfl rfl rfl rfl rfl ?_ | refine WL.box st rfl rfl rfl rfl rfl rfl ?_
  intro b4 w st
  -- R0.1 5 := tcp.go:69 box
  first | refine WL.box (m := 4) (vs := [.int _ _, .int _ _, .int _ _, .int _ _]) st rfl rfl rfl rfl rfl rfl ?_ | refine WL.box (m := 4) (vs := [_, _, _, _]) st rfl rfl rfl rfl rfl rfl ?_ | refine WL.box st rfl rfl rfl rfl rfl rfl ?_
  intro b5 w st
  -- R0.2 8 := tcp.go:69 assign
  refine WL.v (by first | exact r_assign (v := .int _ _) rfl | exact r_assign rfl) rfl rfl rfl ?_
  refine WL.fin hK779 (fun _ _ h => h) ?_
  refine WC.seq fun K780 hK780 => ?_
  -- region 1
  refine WC.region ?_
  -- R1.0 11 := tcp.go:70 move
  refine WL.v (by first | exact r_move (v := .pointer _) rfl | exact r_move rfl) rfl rfl rfl ?_
  -- R1.1 12 := tcp.go:70 call
  refine WL.call (r_call ty_call58 rfl) rfl rfl rfl (tcpLen_ok b o x s (by omega) (moreL hr [_, _]) st) ?_
  rintro _ w ⟨rfl, st⟩
  -- R1.2 13 := tcp.go:70 move
  refine WL.v (by first | exact r_move (v := .slice _ _ _) rfl | exact r_move rfl) rfl rfl rfl ?_
  -- R1.3 14 := tcp.go:70 call
  refine WL.v (by exact r_len ty_usl25 rfl) rfl rfl rfl ?_
  -- R1.4 15 := tcp.go:70 binOp
  refine WL.v (by exact r_add (r := ((20 + s.bs.length + q.bs.length : Nat) : Int)) rfl rfl (by rw [wi64 (by omega) (by omega)]; omega)) rfl rfl rfl ?_
  -- R1.5 16 := tcp.go:70 convert
  refine WL.v (by exact r_conv (r := ((20 + s.bs.length + q.bs.length : Nat) : Int) % 65536) ty_cv3_30 rfl (wrap16 _)) rfl rfl rfl ?_
  -- R1.6 9 := tcp.go:70 assign
  refine WL.v (by first | exact r_assign (v := .int _ _) rfl | exact r_assign rfl) rfl rfl rfl ?_
  refine WL.fin hK780 (fun _ _ h => h) ?_
  refine WC.seq fun K781 hK781 => ?_
  -- region 2 (draws)
  refine WC.quietS st ty_mixed (by kernel_rfl) fun Kq hKq => ?_
  -- R2.0 17 := tcp.go:71 load
  refine QL.v (fun w st => by exact r_loadL (vs := [_, _, _, _]) ty_agg34 rfl ⟨st.c1 (by decide), st.c1 (by decide), st.c1 (by decide), st.c1 (by decide), trivial⟩) rfl rfl rfl ?_
  -- R2.1 18 := tcp.go:71 load
  refine QL.v (fun w st => by exact r_loadL (vs := [_, _, _, _]) ty_agg34 rfl ⟨st.c0 (by decide), st.c0 (by decide), st.c0 (by decide), st.c0 (by decide), trivial⟩) rfl rfl rfl ?_
  -- R2.2 19 := tcp.go:71 move
  refine QL.v (fun w st => by first | exact r_move (v := .int _ _) rfl | exact r_move rfl) rfl rfl rfl ?_
  -- R2.3 20 := tcp.go:71 call
  refine QL.call (val := .int .u16 ps) (fun w st => r_call ty_call18 rfl) rfl rfl rfl (fun w st => by
    rw [hps]
    exact pseudo_ok a0 a1 a2 a3 d0 d1 d2 d3 6 (((20 + s.bs.length + q.bs.length : Nat) : Int) % 65536) h0 h1 h2 h3 g0 g1 g2 g3 (by omega) (by omega) st) ?_
  -- R2.4 21 := tcp.go:71 convert
  refine QL.v (fun w st => by first | exact r_conv ty_cv30_81 rfl (wu64 (by omega) (by omega)) | exact r_conv ty_cv30_81 rfl rfl) rfl rfl rfl ?_
  -- R2.5 22 := tcp.go:71 move
  refine QL.v (fun w st => by first | exact r_move (v := .pointer _) rfl | exact r_move rfl) rfl rfl rfl ?_
  -- R2.6 23 := tcp.go:71 nilCheck
  refine QL.v (fun w st => by exact r_nilCheck rfl) rfl rfl rfl ?_
  -- R2.7 24 := tcp.go:71 fieldAddr
  refine QL.v (fun w st => by exact r_field ty_fld39_0 rfl) rfl rfl rfl ?_
  -- R2.8 25 := tcp.go:71 load
  refine QL.v (fun w st => by first | exact r_load1 ty_one30 rfl (hr [] _ st 0 (by decide)) | exact r_load1 ty_one30 rfl (hr _ _ st 0 (by decide)) | exact r_load1 ty_one30 rfl (hr [_] _ st 0 (by decide)) | exact r_load1 ty_one30 rfl (hr [_, _] _ st 0 (by decide)) | exact r_load1 ty_one30 rfl (hr [_, _, _] _ st 0 (by decide))) rfl rfl rfl ?_
  -- R2.9 26 := tcp.go:71 convert
  refine QL.v (fun w st => by first | exact r_conv ty_cv30_81 rfl (wu64 (by omega) (by omega)) | exact r_conv ty_cv30_81 rfl rfl) rfl rfl rfl ?_
  -- R2.10 27 := tcp.go:71 binOp
  refine QL.v (fun w st => by first | exact r_add rfl rfl (wu64 (by omega) (by omega)) | exact r_add rfl rfl rfl) rfl rfl rfl ?_
  -- R2.11 28 := tcp.go:71 move
  refine QL.v (fun w st => by first | exact r_move (v := .pointer _) rfl | exact r_move rfl) rfl rfl rfl ?_
  -- R2.12 29 := tcp.go:71 nilCheck
  refine QL.v (fun w st => by exact r_nilCheck rfl) rfl rfl rfl ?_
  -- R2.13 30 := tcp.go:71 fieldAddr
  refine QL.v (fun w st => by exact r_field ty_fld39_1 rfl) rfl rfl rfl ?_
  -- R2.14 31 := tcp.go:71 load
  refine QL.v (fun w st => by first | exact r_load1 ty_one30 rfl (hr [] _ st 1 (by decide)) | exact r_load1 ty_one30 rfl (hr _ _ st 1 (by decide)) | exact r_load1 ty_one30 rfl (hr [_] _ st 1 (by decide)) | exact r_load1 ty_one30 rfl (hr [_, _] _ st 1 (by decide)) | exact r_load1 ty_one30 rfl (hr [_, _, _] _ st 1 (by decide))) rfl rfl rfl ?_
  -- R2.15 32 := tcp.go:71 convert
  refine QL.v (fun w st => by first | exact r_conv ty_cv30_81 rfl (wu64 (by omega) (by omega)) | exact r_conv ty_cv30_81 rfl rfl) rfl rfl rfl ?_
  -- R2.16 33 := tcp.go:71 binOp
  refine QL.v (fun w st => by first | exact r_add rfl rfl (wu64 (by omega) (by omega)) | exact r_add rfl rfl rfl) rfl rfl rfl ?_
  -- R2.17 34 := tcp.go:71 move
  refine QL.v (fun w st => by first | exact r_move (v := .pointer _) rfl | exact r_move rfl) rfl rfl rfl ?_
  -- R2.18 35 := tcp.go:71 nilCheck
  refine QL.v (fun w st => by exact r_nilCheck rfl) rfl rfl rfl ?_
  -- R2.19 36 := tcp.go:71 fieldAddr
  refine QL.v (fun w st => by exact r_field ty_fld39_2 rfl) rfl rfl rfl ?_
  -- R2.20 37 := tcp.go:71 load
  refine QL.v (fun w st => by first | exact r_load1 ty_one37 rfl (hr [] _ st 2 (by decide)) | exact r_load1 ty_one37 rfl (hr _ _ st 2 (by decide)) | exact r_load1 ty_one37 rfl (hr [_] _ st 2 (by decide)) | exact r_load1 ty_one37 rfl (hr [_, _] _ st 2 (by decide)) | exact r_load1 ty_one37 rfl (hr [_, _, _] _ st 2 (by decide))) rfl rfl rfl ?_
  -- R2.21 38 := tcp.go:71 convert
  refine QL.v (fun w st => by first | exact r_conv ty_cv37_81 rfl (wu64 (by omega) (by omega)) | exact r_conv ty_cv37_81 rfl rfl) rfl rfl rfl ?_
  -- R2.22 39 := tcp.go:71 binOp
  refine QL.v (fun w st => by first | exact r_add rfl rfl (wu64 (by omega) (by omega)) | exact r_add rfl rfl rfl) rfl rfl rfl ?_
  -- R2.23 40 := tcp.go:71 move
  refine QL.v (fun w st => by first | exact r_move (v := .pointer _) rfl | exact r_move rfl) rfl rfl rfl ?_
  -- R2.24 41 := tcp.go:71 nilCheck
  refine QL.v (fun w st => by exact r_nilCheck rfl) rfl rfl rfl ?_
  -- R2.25 42 := tcp.go:71 fieldAddr
  refine QL.v (fun w st => by exact r_field ty_fld39_3 rfl) rfl rfl rfl ?_
  -- R2.26 43 := tcp.go:71 load
  refine QL.v (fun w st => by first | exact r_load1 ty_one37 rfl (hr [] _ st 3 (by decide)) | exact r_load1 ty_one37 rfl (hr _ _ st 3 (by decide)) | exact r_load1 ty_one37 rfl (hr [_] _ st 3 (by decide)) | exact r_load1 ty_one37 rfl (hr [_, _] _ st 3 (by decide)) | exact r_load1 ty_one37 rfl (hr [_, _, _] _ st 3 (by decide))) rfl rfl rfl ?_
  -- R2.27 44 := tcp.go:71 convert
  refine QL.v (fun w st => by first | exact r_conv ty_cv37_81 rfl (wu64 (by omega) (by omega)) | exact r_conv ty_cv37_81 rfl rfl) rfl rfl rfl ?_
  -- R2.28 45 := tcp.go:71 binOp
  refine QL.v (fun w st => by first | exact r_add rfl rfl (wu64 (by omega) (by omega)) | exact r_add rfl rfl rfl) rfl rfl rfl ?_
  -- R2.29 46 := tcp.go:71 move
  refine QL.v (fun w st => by first | exact r_move (v := .pointer _) rfl | exact r_move rfl) rfl rfl rfl ?_
  -- R2.30 47 := tcp.go:73 call
  refine QL.call (val := .int .u16 (((20 + s.bs.length) / 4 : Nat) * 4096 + x 4 * 256 + x 5)) (fun w st => r_call ty_call59 rfl) rfl rfl rfl (fun w st => tcpWord_ok b o x s hx hP (moreL hr [_, _]) st) ?_
  -- R2.31 48 := tcp.go:71 convert
  refine QL.v (fun w st => by first | exact r_conv ty_cv30_81 rfl (wu64 (by omega) (by omega)) | exact r_conv ty_cv30_81 rfl rfl) rfl rfl rfl ?_
  -- R2.32 49 := tcp.go:71 binOp
  refine QL.v (fun w st => by first | exact r_add rfl rfl (wu64 (by omega) (by omega)) | exact r_add rfl rfl rfl) rfl rfl rfl ?_
  -- R2.33 50 := tcp.go:71 move
  refine QL.v (fun w st => by first | exact r_move (v := .pointer _) rfl | exact r_move rfl) rfl rfl rfl ?_
  -- R2.34 51 := tcp.go:71 nilCheck
  refine QL.v (fun w st => by exact r_nilCheck rfl) rfl rfl rfl ?_
  -- R2.35 52 := tcp.go:71 fieldAddr
  refine QL.v (fun w st => by exact r_field ty_fld39_6 rfl) rfl rfl rfl ?_
  -- R2.36 53 := tcp.go:71 load
  refine QL.v (fun w st => by first | exact r_load1 ty_one30 rfl (hr [] _ st 6 (by decide)) | exact r_load1 ty_one30 rfl (hr _ _ st 6 (by decide)) | exact r_load1 ty_one30 rfl (hr [_] _ st 6 (by decide)) | exact r_load1 ty_one30 rfl (hr [_, _] _ st 6 (by decide)) | exact r_load1 ty_one30 rfl (hr [_, _, _] _ st 6 (by decide))) rfl rfl rfl ?_
  -- R2.37 54 := tcp.go:71 convert
  refine QL.v (fun w st => by first | exact r_conv ty_cv30_81 rfl (wu64 (by omega) (by omega)) | exact r_conv ty_cv30_81 rfl rfl) rfl rfl rfl ?_
  -- R2.38 55 := tcp.go:71 binOp
  refine QL.v (fun w st => by first | exact r_add rfl rfl (wu64 (by omega) (by omega)) | exact r_add rfl rfl rfl) rfl rfl rfl ?_
  -- R2.39 56 := tcp.go:71 move
  refine QL.v (fun w st => by first | exact r_move (v := .pointer _) rfl | exact r_move rfl) rfl rfl rfl ?_
  -- R2.40 57 := tcp.go:71 nilCheck
  refine QL.v (fun w st => by exact r_nilCheck rfl) rfl rfl rfl ?_
  -- R2.41 58 := tcp.go:71 fieldAddr
  refine QL.v (fun w st => by exact r_field ty_fld39_8 rfl) rfl rfl rfl ?_
  -- R2.42 59 := tcp.go:71 load
  refine QL.v (fun w st => by first | exact r_load1 ty_one30 rfl (hr [] _ st 8 (by decide)) | exact r_load1 ty_one30 rfl (hr _ _ st 8 (by decide)) | exact r_load1 ty_one30 rfl (hr [_] _ st 8 (by decide)) | exact r_load1 ty_one30 rfl (hr [_, _] _ st 8 (by decide)) | exact r_load1 ty_one30 rfl (hr [_, _, _] _ st 8 (by decide))) rfl rfl rfl ?_
  -- R2.43 60 := tcp.go:71 convert
  refine QL.v (fun w st => by first | exact r_conv ty_cv30_81 rfl (wu64 (by omega) (by omega)) | exact r_conv ty_cv30_81 rfl rfl) rfl rfl rfl ?_
  -- R2.44 61 := tcp.go:71 binOp
  refine QL.v (fun w st => by exact r_add (r := tcpAcc ps x s.bs.length) rfl rfl ((wu64 (by omega) (by omega)).trans (by omega))) rfl rfl rfl ?_
  -- R2.45 10 := tcp.go:71 assign
  refine QL.v (fun w st => by first | exact r_assign (v := .int _ _) rfl | exact r_assign rfl) rfl rfl rfl ?_
  refine QL.wl hKq fun w st => ?_
  refine WL.fin hK781 (fun _ _ h => h) ?_
  refine WC.seq fun K782 hK782 => ?_
  -- region 3 (draws)
  refine WC.quietS st ty_mixed (by kernel_rfl) fun Kq hKq => ?_
  -- R3.0 62 := tcp.go:74 move
  refine QL.v (fun w st => by first | exact r_move (v := .int _ _) rfl | exact r_move rfl) rfl rfl rfl ?_
  -- R3.1 63 := tcp.go:74 call
  refine QL.call (val := .int .u16 (foldV (tcpAcc ps x s.bs.length))) (fun w st => r_call ty_call39 rfl) rfl rfl rfl (fun w st => fold_ok _ (by omega) (by omega) st) ?_
  -- R3.2 64 := tcp.go:74 move
  refine QL.v (fun w st => by first | exact r_move (v := .pointer _) rfl | exact r_move rfl) rfl rfl rfl ?_
  -- R3.3 65 := tcp.go:74 nilCheck
  refine QL.v (fun w st => by exact r_nilCheck rfl) rfl rfl rfl ?_
  -- R3.4 66 := tcp.go:74 fieldAddr
  refine QL.v (fun w st => by exact r_field ty_fld39_9 rfl) rfl rfl rfl ?_
  -- R3.5 67 := tcp.go:74 load
  refine QL.v (fun w st => by first | exact r_load1 ty_one25 rfl (hr [] _ st 9 (by decide)) | exact r_load1 ty_one25 rfl (hr _ _ st 9 (by decide)) | exact r_load1 ty_one25 rfl (hr [_] _ st 9 (by decide)) | exact r_load1 ty_one25 rfl (hr [_, _] _ st 9 (by decide)) | exact r_load1 ty_one25 rfl (hr [_, _, _] _ st 9 (by decide))) rfl rfl rfl ?_
  -- R3.6 68 := tcp.go:74 call
  refine QL.call (val := .int .u16 (foldV (foldV (tcpAcc ps x s.bs.length) + wsum s.bs))) (fun w st => r_call ty_call16 rfl) rfl rfl rfl (fun w st => sum_ok _ s hf.1 hf.2 hs (by omega) (moreL hsr [_, _]) st) ?_
  -- R3.7 69 := tcp.go:74 move
  refine QL.v (fun w st => by first | exact r_move (v := .slice _ _ _) rfl | exact r_move rfl) rfl rfl rfl ?_
  -- R3.8 70 := tcp.go:74 call
  refine QL.call (val := .int .u16 (tcpSumV ps x s.bs q.bs)) (fun w st => r_call ty_call16 rfl) rfl rfl rfl (fun w st => sum_ok _ q hf2.1 hf2.2 hq hl (moreL hqr [_, _]) st) ?_
  -- R3.9 8 := tcp.go:74 assign
  refine QL.v (fun w st => by first | exact r_assign (v := .int _ _) rfl | exact r_assign rfl) rfl rfl rfl ?_
  refine QL.wl hKq fun w st => ?_
  refine WL.fin hK782 (fun _ _ h => h) ?_
  refine WC.ret1 Tryd.results43 (fun _ _ h => h) rfl ?_
  exact ⟨_, rfl, rfl, st.drop.drop⟩

set_option maxHeartbeats 8000000 in
theorem tcpCk_ok (a0 a1 a2 a3 d0 d1 d2 d3 : Int) (h0 : 0 ≤ a0 ∧ a0 < 256) (h1 : 0 ≤ a1 ∧ a1 < 256) (h2 : 0 ≤ a2 ∧ a2 < 256) (h3 : 0 ≤ a3 ∧ a3 < 256) (g0 : 0 ≤ d0 ∧ d0 < 256) (g1 : 0 ≤ d1 ∧ d1 < 256) (g2 : 0 ≤ d2 ∧ d2 < 256) (g3 : 0 ≤ d3 ∧ d3 < 256)
    (b o : Nat) (x : Nat → Int) (s q : SV) (hx : TcpR x) (hs : s.ok) (hq : q.ok) (hl : q.bs.length ≤ 1000000000) (hP : tcpP x s.bs.length) (hr : ∀ its w', S0 w0 (its ++ L) w' → CF w' b o 10 (nth (tcpL x s.v))) (hsr : ∀ its w', S0 w0 (its ++ L) w' → s.rd w') (hqr : ∀ its w', S0 w0 (its ++ L) w' → q.rd w') (st : S0 w0 L w) :
    Calls Tryd.prog 67 #[.agg #[.int .u8 a0, .int .u8 a1, .int .u8 a2, .int .u8 a3], .agg #[.int .u8 d0, .int .u8 d1, .int .u8 d2, .int .u8 d3], .pointer (some ⟨b, o, none⟩), .slice q.a q.bs.length q.c] w
      (Ret fun v w' => v = .int .u16 (65535 - tcpSumV (tcpPs a0 a1 a2 a3 d0 d1 d2 d3 s.bs.length q.bs.length) x s.bs q.bs) ∧ S0 w0 L w') := by
  refine enter [.agg #[.int .u8 a0, .int .u8 a1, .int .u8 a2, .int .u8 a3], .agg #[.int .u8 d0, .int .u8 d1, .int .u8 d2, .int .u8 d3], .pointer (some ⟨b, o, none⟩), .slice q.a q.bs.length q.c] Tryd.func67 rfl Tryd.ntmps67 rfl ?_
  show WC _ _ _ 15 [] [(0, .agg #[.int .u8 a0, .int .u8 a1, .int .u8 a2, .int .u8 a3]), (1, .agg #[.int .u8 d0, .int .u8 d1, .int .u8 d2, .int .u8 d3]), (2, .pointer (some ⟨b, o, none⟩)), (3, .slice q.a q.bs.length q.c)] _
  refine WC.seq fun K783 hK783 => ?_
  -- region 0
  refine WC.region ?_
  -- R0.0 4 := tcp.go:80 box
  first | refine WL.box (m := 4) (vs := [.int _ _, .int _ _, .int _ _, .int _ _]) st rfl rfl rfl rfl rfl rfl ?_ | refine WL.box (m := 4) (vs := [_, _, _, _]) st rfl rfl rfl rfl rfl rfl ?_ | refine WL.box st rfl rfl rfl rfl rfl rfl ?_
  intro b4 w st
  -- R0.1 5 := tcp.go:80 box
  first | refine WL.box (m := 4) (vs := [.int _ _, .int _ _, .int _ _, .int _ _]) st rfl rfl rfl rfl rfl rfl ?_ | refine WL.box (m := 4) (vs := [_, _, _, _]) st rfl rfl rfl rfl rfl rfl ?_ | refine WL.box st rfl rfl rfl rfl rfl rfl ?_
  intro b5 w st
  -- R0.2 8 := tcp.go:80 assign
  refine WL.v (by first | exact r_assign (v := .int _ _) rfl | exact r_assign rfl) rfl rfl rfl ?_
  refine WL.fin hK783 (fun _ _ h => h) ?_
  refine WC.seq fun K784 hK784 => ?_
  -- region 1
  refine WC.region ?_
  -- R1.0 9 := tcp.go:81 load
  refine WL.v (by exact r_loadL (vs := [_, _, _, _]) ty_agg34 rfl ⟨st.c1 (by decide), st.c1 (by decide), st.c1 (by decide), st.c1 (by decide), trivial⟩) rfl rfl rfl ?_
  -- R1.1 10 := tcp.go:81 load
  refine WL.v (by exact r_loadL (vs := [_, _, _, _]) ty_agg34 rfl ⟨st.c0 (by decide), st.c0 (by decide), st.c0 (by decide), st.c0 (by decide), trivial⟩) rfl rfl rfl ?_
  -- R1.2 11 := tcp.go:81 move
  refine WL.v (by first | exact r_move (v := .pointer _) rfl | exact r_move rfl) rfl rfl rfl ?_
  -- R1.3 12 := tcp.go:81 move
  refine WL.v (by first | exact r_move (v := .slice _ _ _) rfl | exact r_move rfl) rfl rfl rfl ?_
  -- R1.4 13 := tcp.go:81 call
  refine WL.call (r_call ty_call43 rfl) rfl rfl rfl (tcpSum_ok a0 a1 a2 a3 d0 d1 d2 d3 h0 h1 h2 h3 g0 g1 g2 g3 b o x s q hx hs hq hl hP (moreL hr [_, _]) (moreL hsr [_, _]) (moreL hqr [_, _]) st) ?_
  rintro _ w ⟨rfl, st⟩
  -- R1.5 14 := tcp.go:81 unOp
  refine WL.v (by exact r_compl rfl (foldV_rng _)) rfl rfl rfl ?_
  -- R1.6 8 := tcp.go:81 assign
  refine WL.v (by first | exact r_assign (v := .int _ _) rfl | exact r_assign rfl) rfl rfl rfl ?_
  refine WL.fin hK784 (fun _ _ h => h) ?_
  refine WC.ret1 Tryd.results67 (fun _ _ h => h) rfl ?_
  exact ⟨_, rfl, rfl, st.drop.drop⟩

def icAcc (y z : Nat → Int) (o : List Int) : Int := y 0 * 256 + y 1 + y 3 + ipSumV z o + z 7
def icSumV (y z : Nat → Int) (o d : List Int) : Int := foldV (foldV (icAcc y z o) + wsum d)

set_option maxHeartbeats 8000000 in
theorem icSum_ok (b o : Nat) (y z : Nat → Int) (s q : SV) (hy : IcR y) (hz : IpR z) (hs : s.ok) (hq : q.ok) (hl : q.bs.length ≤ 1000000000) (hP : ipP z s.bs.length) (hr : ∀ its w', S0 w0 (its ++ L) w' → CF w' b o 21 (nth (icL y z s.v))) (hsr : ∀ its w', S0 w0 (its ++ L) w' → s.rd w') (hqr : ∀ its w', S0 w0 (its ++ L) w' → q.rd w') (st : S0 w0 L w) :
    Calls Tryd.prog 44 #[.pointer (some ⟨b, o, none⟩), .slice q.a q.bs.length q.c] w (Ret fun v w' => v = .int .u16 (icSumV y z s.bs q.bs) ∧ S0 w0 L w') := by
  have r0 := hy.r0
  have r1 := hy.r1
  have r3 := hy.r3
  have z7 := hz.r7
  have hi : 0 ≤ ipSumV z s.bs ∧ ipSumV z s.bs < 65536 := foldV_rng _
  have hacc : icAcc y z s.bs = y 0 * 256 + y 1 + y 3 + ipSumV z s.bs + z 7 := rfl
  have hf := foldV_rng (icAcc y z s.bs)
  refine enter [.pointer (some ⟨b, o, none⟩), .slice q.a q.bs.length q.c] Tryd.func44 rfl Tryd.ntmps44 rfl ?_
  show WC _ _ _ 41 [] [(0, .pointer (some ⟨b, o, none⟩)), (1, .slice q.a q.bs.length q.c)] _
  refine WC.seq fun K785 hK785 => ?_
  -- region 0
  refine WC.region ?_
  -- R0.0 4 := icmp.go:73 assign
  refine WL.v (by first | exact r_assign (v := .int _ _) rfl | exact r_assign rfl) rfl rfl rfl ?_
  refine WL.fin hK785 (fun _ _ h => h) ?_
  refine WC.seq fun K786 hK786 => ?_
  -- region 1 (draws)
  refine WC.quietS st ty_mixed (by kernel_rfl) fun Kq hKq => ?_
  -- R1.0 6 := icmp.go:74 move
  refine QL.v (fun w st => by first | exact r_move (v := .pointer _) rfl | exact r_move rfl) rfl rfl rfl ?_
  -- R1.1 7 := icmp.go:74 nilCheck
  refine QL.v (fun w st => by exact r_nilCheck rfl) rfl rfl rfl ?_
  -- R1.2 8 := icmp.go:74 fieldAddr
  refine QL.v (fun w st => by exact r_field ty_fld41_0 rfl) rfl rfl rfl ?_
  -- R1.3 9 := icmp.go:74 load
  refine QL.v (fun w st => by first | exact r_load1 ty_one5 rfl (hr [] _ st 0 (by decide)) | exact r_load1 ty_one5 rfl (hr _ _ st 0 (by decide)) | exact r_load1 ty_one5 rfl (hr [_] _ st 0 (by decide)) | exact r_load1 ty_one5 rfl (hr [_, _] _ st 0 (by decide)) | exact r_load1 ty_one5 rfl (hr [_, _, _] _ st 0 (by decide))) rfl rfl rfl ?_
  -- R1.4 10 := icmp.go:74 convert
  refine QL.v (fun w st => by first | exact r_conv ty_cv5_81 rfl (wu64 (by omega) (by omega)) | exact r_conv ty_cv5_81 rfl rfl) rfl rfl rfl ?_
  -- R1.5 11 := icmp.go:74 binOp
  refine QL.v (fun w st => by exact r_shl (r := y 0 * 256) rfl rfl (by omega) (wu64 (x := y 0 * 256) (by omega) (by omega))) rfl rfl rfl ?_
  -- R1.6 12 := icmp.go:74 move
  refine QL.v (fun w st => by first | exact r_move (v := .pointer _) rfl | exact r_move rfl) rfl rfl rfl ?_
  -- R1.7 13 := icmp.go:74 nilCheck
  refine QL.v (fun w st => by exact r_nilCheck rfl) rfl rfl rfl ?_
  -- R1.8 14 := icmp.go:74 fieldAddr
  refine QL.v (fun w st => by exact r_field ty_fld41_1 rfl) rfl rfl rfl ?_
  -- R1.9 15 := icmp.go:74 load
  refine QL.v (fun w st => by first | exact r_load1 ty_one5 rfl (hr [] _ st 1 (by decide)) | exact r_load1 ty_one5 rfl (hr _ _ st 1 (by decide)) | exact r_load1 ty_one5 rfl (hr [_] _ st 1 (by decide)) | exact r_load1 ty_one5 rfl (hr [_, _] _ st 1 (by decide)) | exact r_load1 ty_one5 rfl (hr [_, _, _] _ st 1 (by decide))) rfl rfl rfl ?_
  -- R1.10 16 := icmp.go:74 convert
  refine QL.v (fun w st => by first | exact r_conv ty_cv5_81 rfl (wu64 (by omega) (by omega)) | exact r_conv ty_cv5_81 rfl rfl) rfl rfl rfl ?_
  -- R1.11 17 := icmp.go:74 binOp
  refine QL.v (fun w st => by first | exact r_add rfl rfl (wu64 (by omega) (by omega)) | exact r_add rfl rfl rfl) rfl rfl rfl ?_
  -- R1.12 18 := icmp.go:74 move
  refine QL.v (fun w st => by first | exact r_move (v := .pointer _) rfl | exact r_move rfl) rfl rfl rfl ?_
  -- R1.13 19 := icmp.go:74 nilCheck
  refine QL.v (fun w st => by exact r_nilCheck rfl) rfl rfl rfl ?_
  -- R1.14 20 := icmp.go:74 fieldAddr
  refine QL.v (fun w st => by exact r_field ty_fld41_3 rfl) rfl rfl rfl ?_
  -- R1.15 21 := icmp.go:74 load
  refine QL.v (fun w st => by first | exact r_load1 ty_one37 rfl (hr [] _ st 3 (by decide)) | exact r_load1 ty_one37 rfl (hr _ _ st 3 (by decide)) | exact r_load1 ty_one37 rfl (hr [_] _ st 3 (by decide)) | exact r_load1 ty_one37 rfl (hr [_, _] _ st 3 (by decide)) | exact r_load1 ty_one37 rfl (hr [_, _, _] _ st 3 (by decide))) rfl rfl rfl ?_
  -- R1.16 22 := icmp.go:74 convert
  refine QL.v (fun w st => by first | exact r_conv ty_cv37_81 rfl (wu64 (by omega) (by omega)) | exact r_conv ty_cv37_81 rfl rfl) rfl rfl rfl ?_
  -- R1.17 23 := icmp.go:74 binOp
  refine QL.v (fun w st => by first | exact r_add rfl rfl (wu64 (by omega) (by omega)) | exact r_add rfl rfl rfl) rfl rfl rfl ?_
  -- R1.18 24 := icmp.go:74 move
  refine QL.v (fun w st => by first | exact r_move (v := .pointer _) rfl | exact r_move rfl) rfl rfl rfl ?_
  -- R1.19 25 := icmp.go:74 nilCheck
  refine QL.v (fun w st => by exact r_nilCheck rfl) rfl rfl rfl ?_
  -- R1.20 26 := icmp.go:74 fieldAddr
  refine QL.v (fun w st => by exact r_field ty_fld41_4 rfl) rfl rfl rfl ?_
  -- R1.21 27 := icmp.go:75 call
  refine QL.call (val := .int .u16 (ipSumV z s.bs)) (fun w st => r_call ty_call57 rfl) rfl rfl rfl (fun w st => ipSum_ok b (o + 4) z s hz hs hP (fun its w' q => cf_sub (k := 4) (hr its w' q) (by decide) rfl) hsr st) ?_
  -- R1.22 28 := icmp.go:74 convert
  refine QL.v (fun w st => by first | exact r_conv ty_cv30_81 rfl (wu64 (by omega) (by omega)) | exact r_conv ty_cv30_81 rfl rfl) rfl rfl rfl ?_
  -- R1.23 29 := icmp.go:74 binOp
  refine QL.v (fun w st => by first | exact r_add rfl rfl (wu64 (by omega) (by omega)) | exact r_add rfl rfl rfl) rfl rfl rfl ?_
  -- R1.24 30 := icmp.go:74 move
  refine QL.v (fun w st => by first | exact r_move (v := .pointer _) rfl | exact r_move rfl) rfl rfl rfl ?_
  -- R1.25 31 := icmp.go:74 nilCheck
  refine QL.v (fun w st => by exact r_nilCheck rfl) rfl rfl rfl ?_
  -- R1.26 32 := icmp.go:74 fieldAddr
  refine QL.v (fun w st => by exact r_field ty_fld41_4 rfl) rfl rfl rfl ?_
  -- R1.27 33 := icmp.go:74 fieldAddr
  refine QL.v (fun w st => by exact r_field ty_fld36_7 rfl) rfl rfl rfl ?_
  -- R1.28 34 := icmp.go:74 load
  refine QL.v (fun w st => by first | exact r_load1 ty_one30 rfl (hr [] _ st 11 (by decide)) | exact r_load1 ty_one30 rfl (hr _ _ st 11 (by decide)) | exact r_load1 ty_one30 rfl (hr [_] _ st 11 (by decide)) | exact r_load1 ty_one30 rfl (hr [_, _] _ st 11 (by decide)) | exact r_load1 ty_one30 rfl (hr [_, _, _] _ st 11 (by decide))) rfl rfl rfl ?_
  -- R1.29 35 := icmp.go:74 convert
  refine QL.v (fun w st => by first | exact r_conv ty_cv30_81 rfl (wu64 (by omega) (by omega)) | exact r_conv ty_cv30_81 rfl rfl) rfl rfl rfl ?_
  -- R1.30 36 := icmp.go:74 binOp
  refine QL.v (fun w st => by exact r_add (r := icAcc y z s.bs) rfl rfl ((wu64 (by omega) (by omega)).trans (by omega))) rfl rfl rfl ?_
  -- R1.31 5 := icmp.go:74 assign
  refine QL.v (fun w st => by first | exact r_assign (v := .int _ _) rfl | exact r_assign rfl) rfl rfl rfl ?_
  refine QL.wl hKq fun w st => ?_
  refine WL.fin hK786 (fun _ _ h => h) ?_
  refine WC.seq fun K787 hK787 => ?_
  -- region 2
  refine WC.region ?_
  -- R2.0 37 := icmp.go:76 move
  refine WL.v (by first | exact r_move (v := .int _ _) rfl | exact r_move rfl) rfl rfl rfl ?_
  -- R2.1 38 := icmp.go:76 call
  refine WL.call (r_call ty_call39 rfl) rfl rfl rfl (fold_ok _ (by omega) (by omega) st) ?_
  rintro _ w ⟨rfl, st⟩
  -- R2.2 39 := icmp.go:76 move
  refine WL.v (by first | exact r_move (v := .slice _ _ _) rfl | exact r_move rfl) rfl rfl rfl ?_
  -- R2.3 40 := icmp.go:76 call
  refine WL.call (r_call ty_call16 rfl) rfl rfl rfl (sum_ok _ q hf.1 hf.2 hq hl hqr st) ?_
  rintro _ w ⟨rfl, st⟩
  -- R2.4 4 := icmp.go:76 assign
  refine WL.v (by first | exact r_assign (v := .int _ _) rfl | exact r_assign rfl) rfl rfl rfl ?_
  refine WL.fin hK787 (fun _ _ h => h) ?_
  refine WC.ret1 Tryd.results44 (fun _ _ h => h) rfl ?_
  exact ⟨_, rfl, rfl, st⟩

theorem icCk_ok (b o : Nat) (y z : Nat → Int) (s q : SV) (hy : IcR y) (hz : IpR z) (hs : s.ok) (hq : q.ok) (hl : q.bs.length ≤ 1000000000) (hP : ipP z s.bs.length) (hr : ∀ its w', S0 w0 (its ++ L) w' → CF w' b o 21 (nth (icL y z s.v))) (hsr : ∀ its w', S0 w0 (its ++ L) w' → s.rd w') (hqr : ∀ its w', S0 w0 (its ++ L) w' → q.rd w') (st : S0 w0 L w) :
    Calls Tryd.prog 68 #[.pointer (some ⟨b, o, none⟩), .slice q.a q.bs.length q.c] w (Ret fun v w' => v = .int .u16 (65535 - icSumV y z s.bs q.bs) ∧ S0 w0 L w') := by
  refine enter [.pointer (some ⟨b, o, none⟩), .slice q.a q.bs.length q.c] Tryd.func68 rfl Tryd.ntmps68 rfl ?_
  show WC _ _ _ 9 [] [(0, .pointer (some ⟨b, o, none⟩)), (1, .slice q.a q.bs.length q.c)] _
  refine WC.seq fun K788 hK788 => ?_
  -- region 0
  refine WC.region ?_
  -- R0.0 4 := icmp.go:81 assign
  refine WL.v (by first | exact r_assign (v := .int _ _) rfl | exact r_assign rfl) rfl rfl rfl ?_
  refine WL.fin hK788 (fun _ _ h => h) ?_
  refine WC.seq fun K789 hK789 => ?_
  -- region 1
  refine WC.region ?_
  -- R1.0 5 := icmp.go:82 move
  refine WL.v (by first | exact r_move (v := .pointer _) rfl | exact r_move rfl) rfl rfl rfl ?_
  -- R1.1 6 := icmp.go:82 move
  refine WL.v (by first | exact r_move (v := .slice _ _ _) rfl | exact r_move rfl) rfl rfl rfl ?_
  -- R1.2 7 := icmp.go:82 call
  refine WL.call (r_call ty_call44 rfl) rfl rfl rfl (icSum_ok b o y z s q hy hz hs hq hl hP hr hsr hqr st) ?_
  rintro _ w ⟨rfl, st⟩
  -- R1.3 8 := icmp.go:82 unOp
  refine WL.v (by exact r_compl rfl (foldV_rng _)) rfl rfl rfl ?_
  -- R1.4 4 := icmp.go:82 assign
  refine WL.v (by first | exact r_assign (v := .int _ _) rfl | exact r_assign rfl) rfl rfl rfl ?_
  refine WL.fin hK789 (fun _ _ h => h) ?_
  refine WC.ret1 Tryd.results68 (fun _ _ h => h) rfl ?_
  exact ⟨_, rfl, rfl, st⟩
end Go.Proofs.Qxb6500841aDoor

