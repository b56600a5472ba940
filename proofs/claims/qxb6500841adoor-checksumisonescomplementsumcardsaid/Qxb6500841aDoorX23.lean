import Derived.Test.Qxb6500841aDoorX22
set_option linter.unusedVariables false
set_option linter.unusedSimpArgs false
set_option maxRecDepth 20000
namespace Go.Proofs.Qxb6500841aDoor
open Go.RowKit Go.E1 Go.Wire
variable {w0 : World} {L : List HI} {w : World} {ET : Nat → TypeId} {EU : Nat → Value}

theorem r_s2a {P : Program} {ρ : Operand → Value} {w : World} {d : Option Tmp} {ty : TypeId} {pos : String} {af : Array Edge} {g : Option (Nat × Bool)} {x : Operand} {T n e s b o m c : Nat} (hT : arT P T = some (n, e, s)) (hx : ρ x = .slice (some ⟨b, o, none⟩) m c) (h : n ≤ m) :
    (execOp ρ ⟨d, .sliceToArrayPointer T x, ty, pos, af, g⟩).run P w = .ok (.value (.pointer (some ⟨b, o, none⟩))) w := by
  obtain ⟨hu, i, hi2, rfl⟩ := arT_spec hT
  simp [execOp, Instr.arrayAt, hx, run_underlying hu, Nat.not_lt.2 h, go_sem]

def catB (p : Nat → SV) : Nat → List Int
  | 0 => []
  | i + 1 => catB p i ++ (p i).bs
theorem catB_len (p : Nat → SV) (hl : ∀ i, (p i).bs.length ≤ 1000) : ∀ n, (catB p n).length ≤ n * 1000
  | 0 => by simp [catB]
  | n + 1 => by
    have := catB_len p hl n
    have := hl n
    simp only [catB, List.length_append]; omega

set_option maxHeartbeats 4000000 in
theorem join_ok (b n : Nat) (p : Nat → SV) (hn : n ≤ 1000) (hp : ∀ i, (p i).ok) (hl : ∀ i, (p i).bs.length ≤ 1000) (hc : ∀ its w', S0 w0 (its ++ L) w' → ∀ i, i < n → w'.cell? ⟨b, 0 + i * 1, none⟩ = some (p i).v) (hrd : ∀ its w', S0 w0 (its ++ L) w' → ∀ i, i < n → (p i).rd w') (st : S0 w0 L w) :
    Calls Tryd.prog 40 #[.slice (some ⟨b, 0, none⟩) n n] w (Ret fun v w' => ∃ XI, BR 5 v (catB p n) XI ∧ S0 w0 (XI ++ L) w') := by
  refine enter [.slice (some ⟨b, 0, none⟩) n n] Tryd.func40 rfl Tryd.ntmps40 rfl ?_
  show WC _ _ _ 17 [] [(0, .slice (some ⟨b, 0, none⟩) n n)] _
  refine WC.seq fun K1174 hK1174 => ?_
  -- region 0
  refine WC.region ?_
  -- R0.0 2 := wirem.go:72 assign
  refine WL.v (by first | exact r_assign (v := .slice _ _ _) rfl | exact r_assign rfl) rfl rfl rfl ?_
  refine WL.fin hK1174 (fun _ _ h => h) ?_
  refine WC.seq fun K1175 hK1175 => ?_
  -- region 1
  refine WC.region ?_
  -- R1.0 3 := wirem.go:73 assign
  refine WL.v (by first | exact r_assign (v := .slice _ _ _) rfl | exact r_assign rfl) rfl rfl rfl ?_
  refine WL.fin hK1175 (fun _ _ h => h) ?_
  refine WC.seq fun K1176 hK1176 => ?_
  refine WC.seq fun K1177 hK1177 => ?_
  -- region 2
  refine WC.region ?_
  -- R2.0 6 := wirem.go:74 move
  refine WL.v (by first | exact r_move (v := .slice _ _ _) rfl | exact r_move rfl) rfl rfl rfl ?_
  -- R2.1 7 := wirem.go:74 call
  refine WL.v (by exact r_len ty_usl101 rfl) rfl rfl rfl ?_
  -- R2.2 8 := wirem.go:74 move
  refine WL.v (by first | exact r_move (v := .int _ _) rfl | exact r_move rfl) rfl rfl rfl ?_
  refine WL.fin hK1177 (fun _ _ h => h) ?_
  refine WC.block ?_
  refine WC.loop (ι := Nat × Value × List HI) (fun z => [(3, z.2.1), (6, .slice (some ⟨b, 0, none⟩) n n), (7, .int .i64 (n : Nat)), (8, .int .i64 (z.1 : Nat))]) (fun z w' => S0 w0 (z.2.2 ++ L) w' ∧ z.1 ≤ n ∧ BR 5 z.2.1 (catB p z.1) z.2.2) (fun z => n - z.1) (0, .slice none 0 0, []) ⟨st, Nat.zero_le _, BR.nil _⟩ ?_ ?_
  · skip
    repeat (first | exact sub_nil _ | refine sub_cons rfl rfl ?_)
  clear st
  rintro ⟨i, v, XI⟩ w ⟨st, hi, ho⟩ K1 hK1
  simp only at st hi ho hK1 ⊢
  by_cases hlt : i < n
  · have hcl := catB_len p hl i
    have hli := hl i
    refine WC.seq fun K1178 hK1178 => ?_
    -- region 3
    refine WC.region ?_
    -- R3.0 9 := wirem.go:74 binOp
    refine WL.v (by first | exact r_lss rfl rfl (decide_eq_true (by omega)) | exact r_lss rfl rfl (decide_eq_false (by omega)) | exact r_lss rfl rfl rfl) rfl rfl rfl ?_
    refine WL.fin hK1178 (fun _ _ h => h) ?_
    refine WC.seq fun K1179 hK1179 => ?_
    refine WC.condT rfl rfl ?_
    refine WC.skipF hK1179 (fun _ _ h => h) ?_
    refine WC.seq fun K1180 hK1180 => ?_
    refine WC.block ?_
    refine WC.seq fun K1181 hK1181 => ?_
    -- region 4
    refine WC.region ?_
    -- R4.0 10 := wirem.go:74 indexAddr
    refine WL.v (by exact r_indexS ty_sl101 rfl rfl rfl (by omega)) rfl rfl rfl ?_
    -- R4.1 11 := wirem.go:74 load
    refine WL.v (by exact r_load1 ty_one25 rfl (hc _ _ st i hlt)) rfl rfl rfl ?_
    -- R4.2 5 := wirem.go:74 assign
    refine WL.v (by first | exact r_assign (v := .slice _ _ _) rfl | exact r_assign rfl) rfl rfl rfl ?_
    refine WL.fin hK1181 (fun _ _ h => h) ?_
    -- region 5
    refine WC.region ?_
    -- R5.0 12 := wirem.go:75 move
    refine WL.v (by first | exact r_move (v := .slice _ _ _) rfl | exact r_move rfl) rfl rfl rfl ?_
    -- R5.1 13 := wirem.go:75 move
    refine WL.v (by first | exact r_move (v := .slice _ _ _) rfl | exact r_move rfl) rfl rfl rfl ?_
    -- R5.2 14 := wirem.go:75 call
    refine WL.appW (s := p i) ho (hp i) (hrd _ _ st i hlt) st ty_mk25 ty_sl25 ty_zero5 rfl rfl rfl (by omega) (by omega) rfl rfl rfl ?_
    intro v' XN w hbn st
    -- R5.3 3 := wirem.go:75 assign
    refine WL.v (by first | exact r_assign (v := .slice _ _ _) rfl | exact r_assign rfl) rfl rfl rfl ?_
    refine WL.fin hK1180 (fun _ _ h => h) ?_
    -- region 6
    refine WC.region ?_
    -- R6.0 15 := wirem.go:74 binOp
    refine WL.v (by first | exact r_add rfl rfl (wi64 (by omega) (by omega)) | exact r_add rfl rfl rfl) rfl rfl rfl ?_
    -- R6.1 8 := wirem.go:74 move
    refine WL.v (by first | exact r_move (v := .int _ _) rfl | exact r_move rfl) rfl rfl rfl ?_
    refine WL.next hK1 (fun _ _ h => h) (i + 1, v', XN) ⟨st, by show i + 1 ≤ n; omega, hbn⟩ (by show n - (i + 1) < n - i; omega) (by repeat (first | exact sub_nil _ | refine sub_cons rfl rfl ?_))
  · obtain rfl : i = n := by omega
    refine WC.seq fun K1182 hK1182 => ?_
    -- region 3
    refine WC.region ?_
    -- R3.0 9 := wirem.go:74 binOp
    refine WL.v (by first | exact r_lss rfl rfl (decide_eq_true (by omega)) | exact r_lss rfl rfl (decide_eq_false (by omega)) | exact r_lss rfl rfl rfl) rfl rfl rfl ?_
    refine WL.fin hK1182 (fun _ _ h => h) ?_
    refine WC.seq fun K1183 hK1183 => ?_
    refine WC.condF rfl rfl ?_
    refine WC.exitF hK1176 (fun _ _ h => h) ?_
    refine WC.seq fun K1184 hK1184 => ?_
    -- region 7
    refine WC.region ?_
    -- R7.0 16 := wirem.go:77 move
    refine WL.v (by first | exact r_move (v := .slice _ _ _) rfl | exact r_move rfl) rfl rfl rfl ?_
    -- R7.1 2 := wirem.go:77 assign
    refine WL.v (by first | exact r_assign (v := .slice _ _ _) rfl | exact r_assign rfl) rfl rfl rfl ?_
    refine WL.fin hK1184 (fun _ _ h => h) ?_
    refine WC.ret1 Tryd.results40 (fun _ _ h => h) rfl ?_
    exact ⟨_, rfl, XI, ho, st⟩

def psB (a0 a1 a2 a3 d0 d1 d2 d3 p n : Int) : List Int := [a0, a1, a2, a3, d0, d1, d2, d3, 0, p, n / 256, n % 256]

set_option maxHeartbeats 4000000 in
theorem pseudoB_ok (a0 a1 a2 a3 d0 d1 d2 d3 p n : Int) (h0 : 0 ≤ a0 ∧ a0 < 256) (h1 : 0 ≤ a1 ∧ a1 < 256) (h2 : 0 ≤ a2 ∧ a2 < 256) (h3 : 0 ≤ a3 ∧ a3 < 256) (g0 : 0 ≤ d0 ∧ d0 < 256) (g1 : 0 ≤ d1 ∧ d1 < 256) (g2 : 0 ≤ d2 ∧ d2 < 256) (g3 : 0 ≤ d3 ∧ d3 < 256) (hp : 0 ≤ p ∧ p < 256) (hn : 0 ≤ n ∧ n < 65536) (st : S0 w0 L w) :
    Calls Tryd.prog 19 #[.agg #[.int .u8 a0, .int .u8 a1, .int .u8 a2, .int .u8 a3], .agg #[.int .u8 d0, .int .u8 d1, .int .u8 d2, .int .u8 d3], .int .u8 p, .int .u16 n] w (Ret fun v w' => ∃ XI, BR 5 v (psB a0 a1 a2 a3 d0 d1 d2 d3 p n) XI ∧ S0 w0 (XI ++ L) w') := by
  refine enter [.agg #[.int .u8 a0, .int .u8 a1, .int .u8 a2, .int .u8 a3], .agg #[.int .u8 d0, .int .u8 d1, .int .u8 d2, .int .u8 d3], .int .u8 p, .int .u16 n] Tryd.func19 rfl Tryd.ntmps19 rfl ?_
  show WC _ _ _ 21 [] [(0, .agg #[.int .u8 a0, .int .u8 a1, .int .u8 a2, .int .u8 a3]), (1, .agg #[.int .u8 d0, .int .u8 d1, .int .u8 d2, .int .u8 d3]), (2, .int .u8 p), (3, .int .u16 n)] _
  refine WC.seq fun K1185 hK1185 => ?_
  -- region 0
  refine WC.region ?_
  -- R0.0 4 := wirem.go:404 box
  first | refine WL.box (m := 4) (vs := [.int _ _, .int _ _, .int _ _, .int _ _]) st rfl rfl rfl rfl rfl rfl ?_ | refine WL.box (m := 4) (vs := [_, _, _, _]) st rfl rfl rfl rfl rfl rfl ?_ | refine WL.box st rfl rfl rfl rfl rfl rfl ?_
  intro b4 w st
  -- R0.1 5 := wirem.go:404 box
  first | refine WL.box (m := 4) (vs := [.int _ _, .int _ _, .int _ _, .int _ _]) st rfl rfl rfl rfl rfl rfl ?_ | refine WL.box (m := 4) (vs := [_, _, _, _]) st rfl rfl rfl rfl rfl rfl ?_ | refine WL.box st rfl rfl rfl rfl rfl rfl ?_
  intro b5 w st
  -- R0.2 8 := wirem.go:404 assign
  refine WL.v (by first | exact r_assign (v := .slice _ _ _) rfl | exact r_assign rfl) rfl rfl rfl ?_
  refine WL.fin hK1185 (fun _ _ h => h) ?_
  refine WC.seq fun K1186 hK1186 => ?_
  -- region 1 (draws)
  refine WC.heldS2 [9, 10, 11, 12] [] [0, 1, 2, 3, 4, 5, 6, 7, 8] [9, 10, 11, 12] st (st_none st) ty_mixed (by kernel_rfl) fun w st Kq Kq2 hKq hKq2 => ?_
  refine HL.pure hKq ?_
  -- R1.0 9 := wirem.go:405 slice
  refine HL.v (fun w _ => by exact r_slAr ty_ar34 rfl) rfl rfl rfl ?_
  -- R1.1 10 := wirem.go:405 slice
  refine HL.v (fun w _ => by exact r_slAr ty_ar34 rfl) rfl rfl rfl ?_
  -- R1.2 11 := wirem.go:405 move
  refine HL.v (fun w _ => by first | exact r_move (v := .int _ _) rfl | exact r_move rfl) rfl rfl rfl ?_
  -- R1.3 12 := wirem.go:405 move
  refine HL.v (fun w _ => by first | exact r_move (v := .int _ _) rfl | exact r_move rfl) rfl rfl rfl ?_
  -- R1.4 13 := wirem.go:405 binOp
  refine HL.v (fun w _ => by exact r_quo (r := n / 256) rfl rfl (by omega) (by rw [Int.tdiv_eq_ediv_of_nonneg hn.1]; exact wu16 (by omega) (by omega))) rfl rfl rfl ?_
  -- R1.5 14 := wirem.go:405 convert
  refine HL.v (fun w _ => by exact r_conv ty_cv30_5 rfl (wu8 (x := n / 256) (by omega) (by omega))) rfl rfl rfl ?_
  -- R1.6 15 := wirem.go:405 move
  refine HL.v (fun w _ => by first | exact r_move (v := .int _ _) rfl | exact r_move rfl) rfl rfl rfl ?_
  -- R1.7 16 := wirem.go:405 binOp
  refine HL.v (fun w _ => by exact r_rem (r := n % 256) rfl rfl (by omega) (Int.tmod_eq_emod_of_nonneg hn.1)) rfl rfl rfl ?_
  -- R1.8 17 := wirem.go:405 convert
  refine HL.v (fun w _ => by exact r_conv ty_cv30_5 rfl (wu8 (x := n % 256) (by omega) (by omega))) rfl rfl rfl ?_
  refine HL.fin hKq2 ?_
  refine TL.at ?_
  -- R1.9 18 := wirem.go:405 buildSlice
  first | refine WL.mkslice (m := 4) (vs := [.int _ _, .int _ _, .int _ _, .int _ _]) st ty_sl25 ty_zero5 rfl rfl rfl rfl rfl rfl ?_ | refine WL.mkslice (m := 4) (vs := [_, _, _, _]) st ty_sl25 ty_zero5 rfl rfl rfl rfl rfl rfl ?_ | refine WL.mkslice st ty_sl25 ty_zero5 rfl rfl rfl rfl rfl rfl ?_
  intro b18 w st
  refine TL.nxt' rfl ?_
  refine TL.at ?_
  -- R1.10 19 := wirem.go:405 buildSlice
  first | refine WL.mkslice (m := 3) (vs := [.slice _ _ _, .slice _ _ _, .slice _ _ _]) st ty_sl101 ty_zero25 rfl rfl rfl rfl rfl rfl ?_ | refine WL.mkslice (m := 3) (vs := [_, _, _]) st ty_sl101 ty_zero25 rfl rfl rfl rfl rfl rfl ?_ | refine WL.mkslice st ty_sl101 ty_zero25 rfl rfl rfl rfl rfl rfl ?_
  intro b19 w st
  refine TL.nxt' rfl ?_
  refine TL.at ?_
  -- R1.11 20 := wirem.go:405 call
  refine WL.call (r_call ty_call40 rfl) rfl rfl rfl (join_ok b19 3 (fun i => match i with
    | 0 => ⟨some ⟨b4, 0, none⟩, 4, b4, 0, [a0, a1, a2, a3]⟩
    | 1 => ⟨some ⟨b5, 0, none⟩, 4, b5, 0, [d0, d1, d2, d3]⟩
    | _ => ⟨some ⟨b18, 0, none⟩, 4, b18, 0, [0, p, n / 256, n % 256]⟩) (by omega) (fun i => ?_) (fun i => ?_) (fun its w' q i hi => ?_) (fun its w' q i hi => ?_) st) ?_
  · match i with
    | 0 => exact ⟨Nat.le_refl _, by simp, fun _ => rfl, byt_of (by simp only [List.all_cons, List.all_nil, Bool.and_true, Bool.and_eq_true, decide_eq_true_eq]; exact ⟨h0, h1, h2, h3⟩)⟩
    | 1 => exact ⟨Nat.le_refl _, by simp, fun _ => rfl, byt_of (by simp only [List.all_cons, List.all_nil, Bool.and_true, Bool.and_eq_true, decide_eq_true_eq]; exact ⟨g0, g1, g2, g3⟩)⟩
    | _ + 2 => exact ⟨Nat.le_refl _, by simp, fun _ => rfl, byt_of (by simp only [List.all_cons, List.all_nil, Bool.and_true, Bool.and_eq_true, decide_eq_true_eq]; omega)⟩
  · match i with
    | 0 => simp
    | 1 => simp
    | _ + 2 => simp
  · have hq := cf_row (t := 25) (n := 3) (f := nth [.slice (some ⟨b4, 0, none⟩) 4 4, .slice (some ⟨b5, 0, none⟩) 4 4, .slice (some ⟨b18, 0, none⟩) 4 4]) (b := b19) q (by simp)
    match i, hi with
    | 0, _ => exact hq 0 (by decide)
    | 1, _ => exact hq 1 (by decide)
    | 2, _ => exact hq 2 (by decide)
  · match i, hi with
    | 0, _ => exact cf_ba (k := 0) (cf_row (t := 34) (n := 4) (f := nth [.int .u8 a0, .int .u8 a1, .int .u8 a2, .int .u8 a3]) q (by simp)) (by simp) rfl
    | 1, _ => exact cf_ba (k := 0) (cf_row (t := 34) (n := 4) (f := nth [.int .u8 d0, .int .u8 d1, .int .u8 d2, .int .u8 d3]) q (by simp)) (by simp) rfl
    | 2, _ => exact cf_ba (k := 0) (cf_row (t := 5) (n := 4) (f := nth [.int .u8 0, .int .u8 p, .int .u8 (n / 256), .int .u8 (n % 256)]) q (by simp)) (by simp) rfl
  rintro v w ⟨XI, hbo, st⟩
  refine TL.nxt' rfl ?_
  refine TL.at ?_
  -- R1.12 8 := wirem.go:405 assign
  refine WL.v (by first | exact r_assign (v := .slice _ _ _) rfl | exact r_assign rfl) rfl rfl rfl ?_
  refine TL.nxt' rfl ?_
  refine TL.wl ?_
  refine WL.fin hK1186 (fun _ _ h => h) ?_
  refine WC.ret1 Tryd.results19 (fun _ _ h => h) rfl ?_
  exact ⟨_, rfl, XI, hbo, st_cut (P := [_, _, _, _]) st⟩

/-! Plain: the two sums are one. -/
theorem fold_eq {x y : Int} (h : (x - y) % 65535 = 0) (hx : 0 < x) (hy : 0 < y) : foldV x = foldV y := foldV_congr h ⟨fun h => by omega, fun h => by omega⟩

theorem ps_sum {a0 a1 a2 a3 d0 d1 d2 d3 p n : Int} (h0 : 0 ≤ a0 ∧ a0 < 256) (h1 : 0 ≤ a1 ∧ a1 < 256) (h2 : 0 ≤ a2 ∧ a2 < 256) (h3 : 0 ≤ a3 ∧ a3 < 256) (g0 : 0 ≤ d0 ∧ d0 < 256) (g1 : 0 ≤ d1 ∧ d1 < 256) (g2 : 0 ≤ d2 ∧ d2 < 256) (g3 : 0 ≤ d3 ∧ d3 < 256) (hp : 0 ≤ p ∧ p < 256) (hn : 0 ≤ n ∧ n < 65536) :
    foldV (u4 a0 a1 a2 a3 + u4 d0 d1 d2 d3 + p + n) = foldV (wsum (psB a0 a1 a2 a3 d0 d1 d2 d3 p n)) := by
  have e : wsum (psB a0 a1 a2 a3 d0 d1 d2 d3 p n) = a0 * 256 + a1 + (a2 * 256 + a3) + (d0 * 256 + d1) + (d2 * 256 + d3) + p + n := by
    simp only [psB, wsum]; omega
  rw [e]
  unfold u4
  exact foldV_congr (by omega) (by omega)

theorem wsum_be16 {v : Int} (l : List Int) (h : 0 ≤ v ∧ v < 65536) : wsum (be16 v ++ l) = v + wsum l := by
  simp only [be16, List.cons_append, List.nil_append, wsum]; omega
theorem wsum_be32 {v : Int} (l : List Int) (h : 0 ≤ v ∧ v < 4294967296) : wsum (be32 v ++ l) = v / 65536 + v % 65536 + wsum l := by
  simp only [be32, List.cons_append, List.nil_append, wsum]; omega
theorem wsum_two (a b : Int) (l : List Int) : wsum ([a, b] ++ l) = a * 256 + b + wsum l := rfl
theorem wsum_four (a b c d : Int) (l : List Int) : wsum ([a, b, c, d] ++ l) = a * 256 + b + (c * 256 + d) + wsum l := by
  simp only [List.cons_append, List.nil_append, wsum]; omega

theorem ip_wsum {x : Nat → Int} {o : List Int} (hx : IpR x) (hP : ipP x o.length) (l : List Int) (he : o.length % 2 = 0) : wsum (ipB x o ++ l) = 16384 + ((20 + o.length) / 4 : Nat) * 256 + x 0 + x 1 + x 2 + (x 3 * 8192 + x 4) + x 5 * 256 + x 6 + x 7 + (x 8 * 256 + x 9 + (x 10 * 256 + x 11)) + (x 12 * 256 + x 13 + (x 14 * 256 + x 15)) + wsum o + wsum l := by
  obtain ⟨p3, p4, ⟨pm, p40⟩, p1⟩ := hP
  have h0 := hx.r0
  have h3 := hx.r3
  have h4 := hx.r4
  unfold ipB
  simp only [List.append_assoc]
  rw [wsum_be16 _ (by omega), wsum_be16 _ hx.r1, wsum_be16 _ hx.r2, wsum_be16 _ (by omega), wsum_two, wsum_be16 _ hx.r7, wsum_four, wsum_four, wsum_append _ he]
  omega

theorem ip_ver {x : Nat → Int} {o : List Int} (hx : IpR x) (hb : Byt o) (hP : ipP x o.length) : foldV (ipSumV x o + x 7) = foldV (wsum (ipB x o)) := by
  have hP' := hP
  obtain ⟨p3, p4, ⟨pm, p40⟩, p1⟩ := hP'
  have e := ip_wsum hx hP [] (by omega)
  rw [List.append_nil] at e
  have hw := wsum_nonneg hb
  have q1 := u4_rng hx.r8 hx.r9 hx.r10 hx.r11
  have q2 := u4_rng hx.r12 hx.r13 hx.r14 hx.r15
  have h0 := hx.r0; have h1 := hx.r1; have h2 := hx.r2; have h3 := hx.r3; have h4 := hx.r4; have h5 := hx.r5; have h6 := hx.r6; have h7 := hx.r7
  have h8 := hx.r8; have h9 := hx.r9; have h10 := hx.r10; have h11 := hx.r11; have h12 := hx.r12; have h13 := hx.r13; have h14 := hx.r14; have h15 := hx.r15
  have hacc : ipAcc x o.length = 16384 + ((20 + o.length) / 4 : Nat) * 256 + x 0 + x 1 + x 2 + (x 3 * 8192 + x 4) + x 5 * 256 + x 6 + u4 (x 8) (x 9) (x 10) (x 11) + u4 (x 12) (x 13) (x 14) (x 15) := rfl
  have hnil : wsum [] = 0 := rfl
  unfold ipSumV
  rw [foldV_add (by have := foldV_rng (ipAcc x o.length); omega) h7.1, Int.add_assoc, foldV_add (by omega) (by omega)]
  rw [e, hnil]
  unfold u4 at hacc q1 q2
  exact fold_eq (by omega) (by omega) (by omega)

theorem tcp_ver {x : Nat → Int} {o d : List Int} {a0 a1 a2 a3 d0 d1 d2 d3 : Int} (h0 : 0 ≤ a0 ∧ a0 < 256) (h1 : 0 ≤ a1 ∧ a1 < 256) (h2 : 0 ≤ a2 ∧ a2 < 256) (h3 : 0 ≤ a3 ∧ a3 < 256) (g0 : 0 ≤ d0 ∧ d0 < 256) (g1 : 0 ≤ d1 ∧ d1 < 256) (g2 : 0 ≤ d2 ∧ d2 < 256) (g3 : 0 ≤ d3 ∧ d3 < 256)
    (hx : TcpR x) (hb : Byt o) (hd : Byt d) (hP : tcpP x o.length) : foldV (tcpSumV (tcpPs a0 a1 a2 a3 d0 d1 d2 d3 o.length d.length) x o d + x 7) = foldV (wsum (psB a0 a1 a2 a3 d0 d1 d2 d3 6 (((20 + o.length + d.length : Nat) : Int) % 65536) ++ (tcpB x o ++ d))) := by
  obtain ⟨p4, pm, p40⟩ := hP
  have r0 := hx.r0; have r1 := hx.r1; have r2 := hx.r2; have r3 := hx.r3; have r4 := hx.r4; have r5 := hx.r5; have r6 := hx.r6; have r7 := hx.r7; have r8 := hx.r8
  have ho := wsum_nonneg hb
  have hdd := wsum_nonneg hd
  obtain ⟨ln, hln⟩ : ∃ ln, ln = ((20 + o.length + d.length : Nat) : Int) % 65536 := ⟨_, rfl⟩
  have hlr : 0 ≤ ln ∧ ln < 65536 := by omega
  have q1 := u4_rng h0 h1 h2 h3
  have q2 := u4_rng g0 g1 g2 g3
  have e1 : wsum (tcpB x o ++ d) = x 0 + x 1 + (x 2 / 65536 + x 2 % 65536) + (x 3 / 65536 + x 3 % 65536) + (((20 + o.length) / 4 : Nat) * 4096 + x 4 * 256 + x 5) + x 6 + x 7 + x 8 + wsum o + wsum d := by
    unfold tcpB
    simp only [List.append_assoc]
    rw [wsum_be16 _ r0, wsum_be16 _ r1, wsum_be32 _ r2, wsum_be32 _ r3, wsum_be16 _ (by omega), wsum_be16 _ r6, wsum_be16 _ r7, wsum_be16 _ r8, wsum_append _ (by omega)]
    omega
  have e2 : wsum (psB a0 a1 a2 a3 d0 d1 d2 d3 6 ln ++ (tcpB x o ++ d)) = a0 * 256 + a1 + (a2 * 256 + a3) + (d0 * 256 + d1) + (d2 * 256 + d3) + 6 + ln + wsum (tcpB x o ++ d) := by
    simp only [psB, List.cons_append, List.nil_append, wsum]; omega
  rw [← hln, e2, e1]
  have hps : tcpPs a0 a1 a2 a3 d0 d1 d2 d3 o.length d.length = foldV (u4 a0 a1 a2 a3 + u4 d0 d1 d2 d3 + 6 + ln) := by rw [hln]; rfl
  have fr := foldV_rng (u4 a0 a1 a2 a3 + u4 d0 d1 d2 d3 + 6 + ln)
  unfold tcpSumV tcpAcc
  rw [hps]
  rw [foldV_add (by have := foldV_rng (foldV (foldV (u4 a0 a1 a2 a3 + u4 d0 d1 d2 d3 + 6 + ln) + x 0 + x 1 + x 2 + x 3 + (((20 + o.length) / 4 : Nat) * 4096 + x 4 * 256 + x 5) + x 6 + x 8) + wsum o); omega) r7.1]
  rw [Int.add_assoc, foldV_add (by have := foldV_rng (foldV (u4 a0 a1 a2 a3 + u4 d0 d1 d2 d3 + 6 + ln) + x 0 + x 1 + x 2 + x 3 + (((20 + o.length) / 4 : Nat) * 4096 + x 4 * 256 + x 5) + x 6 + x 8); omega) (by omega)]
  rw [Int.add_assoc, foldV_add (by omega) (by omega)]
  rw [show foldV (u4 a0 a1 a2 a3 + u4 d0 d1 d2 d3 + 6 + ln) + x 0 + x 1 + x 2 + x 3 + (((20 + o.length) / 4 : Nat) * 4096 + x 4 * 256 + x 5) + x 6 + x 8 + (wsum o + (wsum d + x 7)) = foldV (u4 a0 a1 a2 a3 + u4 d0 d1 d2 d3 + 6 + ln) + (x 0 + x 1 + x 2 + x 3 + (((20 + o.length) / 4 : Nat) * 4096 + x 4 * 256 + x 5) + x 6 + x 8 + (wsum o + (wsum d + x 7))) by omega]
  rw [foldV_add (by omega) (by omega)]
  unfold u4
  unfold u4 at q1 q2
  exact fold_eq (by omega) (by omega) (by omega)

theorem ic_ver {y z : Nat → Int} {o d : List Int} (hy : IcR y) (hz : IpR z) (hb : Byt o) (hd : Byt d) (hP : ipP z o.length) : foldV (icSumV y z o d + y 2) = foldV (wsum (icB y z o ++ d)) := by
  have hP' := hP
  obtain ⟨p3, p4, ⟨pm, p40⟩, p1⟩ := hP'
  have ho := wsum_nonneg hb
  have hdd := wsum_nonneg hd
  have y0 := hy.r0; have y1 := hy.r1; have y2 := hy.r2; have y3 := hy.r3
  have q1 := u4_rng hz.r8 hz.r9 hz.r10 hz.r11
  have q2 := u4_rng hz.r12 hz.r13 hz.r14 hz.r15
  have h0 := hz.r0; have h1 := hz.r1; have h2 := hz.r2; have h3 := hz.r3; have h4 := hz.r4; have h5 := hz.r5; have h6 := hz.r6; have h7 := hz.r7
  have h8 := hz.r8; have h9 := hz.r9; have h10 := hz.r10; have h11 := hz.r11; have h12 := hz.r12; have h13 := hz.r13; have h14 := hz.r14; have h15 := hz.r15
  have e : wsum (icB y z o ++ d) = y 0 * 256 + y 1 + y 2 + (y 3 / 65536 + y 3 % 65536) + wsum (ipB z o ++ d) := by
    unfold icB
    simp only [List.append_assoc]
    rw [wsum_two, wsum_be16 _ y2, wsum_be32 _ y3]
    omega
  rw [e, ip_wsum hz hP d (by omega)]
  have hacc : ipAcc z o.length = 16384 + ((20 + o.length) / 4 : Nat) * 256 + z 0 + z 1 + z 2 + (z 3 * 8192 + z 4) + z 5 * 256 + z 6 + u4 (z 8) (z 9) (z 10) (z 11) + u4 (z 12) (z 13) (z 14) (z 15) := rfl
  have fi : 0 ≤ ipSumV z o ∧ ipSumV z o < 65536 := foldV_rng _
  have hia : icAcc y z o = y 0 * 256 + y 1 + y 3 + ipSumV z o + z 7 := rfl
  unfold icSumV
  rw [foldV_add (by have := foldV_rng (icAcc y z o); omega) y2.1, Int.add_assoc, foldV_add (by omega) (by omega)]
  rw [show icAcc y z o + (wsum d + y 2) = ipSumV z o + (y 0 * 256 + y 1 + y 3 + z 7 + (wsum d + y 2)) by omega]
  unfold ipSumV
  rw [foldV_add (by have := foldV_rng (ipAcc z o.length); omega) (by omega), Int.add_assoc, foldV_add (by omega) (by omega)]
  unfold u4 at hacc q1 q2
  exact fold_eq (by omega) (by omega) (by omega)
end Go.Proofs.Qxb6500841aDoor

