import Derived.Test.Qxb6500834aGreatDoorK2
set_option linter.unusedVariables false
set_option linter.unusedSimpArgs false
set_option maxRecDepth 20000
namespace Go.Proofs.Qxb6500834aGreatDoor
open Go.RowKit Go.E1 Go.Kern
variable {w0 : World} {L L' l I J K K' : List HI} {w : World} {M : KM} {s : KS}

theorem tb_low {m k j : Nat} (h1 : m % 2 ^ k = 0) (hj : j < k) : m.testBit j = false := by
  have : m.testBit j = (m % 2 ^ k).testBit j := by rw [Nat.testBit_mod_two_pow]; simp [hj]
  rw [this, h1]; simp
theorem rg16 : ∀ k, k < 16 → List.range 16 = List.range k ++ (k :: (List.range (15 - k)).map (fun i => k + 1 + i)) := by decide
theorem tasksP_low {m : Nat} (h0 : m ≠ 0) (hm : m < 65536) : tasksP m = tz m :: tasksP (m &&& (m - 1)) ∧ (m &&& (m - 1)) < m := by
  obtain ⟨a, b, c, d⟩ := tz_ok h0 hm
  rw [d]
  obtain ⟨k, hk⟩ : ∃ k, k = tz m := ⟨_, rfl⟩
  rw [← hk] at a b c ⊢
  have hp : 0 < 2 ^ k := Nat.two_pow_pos k
  obtain ⟨q, hq⟩ : ∃ q, q = m / 2 ^ k := ⟨_, rfl⟩
  have hmq : m = 2 ^ k * q := by have := Nat.div_add_mod m (2 ^ k); rw [b, ← hq] at this; omega
  obtain ⟨e, he⟩ : ∃ e, q = 2 * e + 1 := ⟨q / 2, by rw [← hq] at c; omega⟩
  have hpk : 2 ^ (k + 1) = 2 ^ k * 2 := Nat.pow_succ 2 k
  have hme : m = 2 ^ (k + 1) * e + 2 ^ k := by rw [hmq, he, hpk, Nat.mul_add, Nat.mul_one, Nat.mul_assoc]
  have hre : m - 2 ^ k = 2 ^ (k + 1) * e + 0 := by omega
  have t1 : ∀ j, m.testBit j = if j < k + 1 then (2 ^ k).testBit j else e.testBit (j - (k + 1)) := fun j => by rw [hme]; exact Nat.testBit_two_pow_mul_add e (by omega) j
  have t2 : ∀ j, (m - 2 ^ k).testBit j = if j < k + 1 then Nat.testBit 0 j else e.testBit (j - (k + 1)) := fun j => by rw [hre]; exact Nat.testBit_two_pow_mul_add e (by omega) j
  refine ⟨?_, by omega⟩
  unfold tasksP
  rw [rg16 k a, List.filter_append, List.filter_append, List.filter_cons, List.filter_cons]
  have f1 : (List.range k).filter (fun i => m.testBit i) = [] := List.filter_eq_nil_iff.2 fun j hj => by have := List.mem_range.1 hj; rw [t1, if_pos (by omega), Nat.testBit_two_pow]; simp; omega
  have f2 : (List.range k).filter (fun i => (m - 2 ^ k).testBit i) = [] := List.filter_eq_nil_iff.2 fun j hj => by have := List.mem_range.1 hj; rw [t2, if_pos (by omega)]; simp
  rw [f1, f2, t1, t2, if_pos (Nat.lt_succ_self k), if_pos (Nat.lt_succ_self k), Nat.testBit_two_pow]
  simp only [decide_true, if_true, Nat.zero_testBit, Bool.false_eq_true, if_false, List.nil_append]
  congr 1
  refine List.filter_congr fun j hj => ?_
  obtain ⟨i, _, rfl⟩ := List.mem_map.1 hj
  rw [t1, t2, if_neg (by omega), if_neg (by omega)]

theorem bit_ok {t : Nat} (ht : t < 16) (st : S0 w0 l w) :
    Calls Tryz.prog 30 #[.int .i64 (t : Nat)] w (Ret fun v w' => v = .int .u16 (2 ^ t : Nat) ∧ S0 w0 l w') := by
  have hp : 2 ^ t < 65536 := Nat.lt_of_lt_of_le (Nat.pow_lt_pow_right (by decide) ht) (by decide)
  refine enter [.int .i64 (t : Nat)] Tryz.func30 rfl Tryz.ntmps30 rfl ?_
  show WC _ _ _ 6 [] [(0, .int .i64 (t : Nat))] _
  refine WC.seq fun K1 hK1 => ?_
  -- region 0
  refine WC.region ?_
  -- R0.0 2 := api.go:49 assign
  refine WL.v (by first | exact r_assign (v := .int _ _) rfl | exact r_assign rfl) rfl rfl rfl ?_
  refine WL.fin hK1 (fun _ _ h => h) ?_
  refine WC.seq fun K2 hK2 => ?_
  -- region 1
  refine WC.region ?_
  -- R1.0 3 := api.go:49 move
  refine WL.v (by first | exact r_move (v := .int _ _) rfl | exact r_move rfl) rfl rfl rfl ?_
  -- R1.1 4 := api.go:49 convert
  refine WL.v (by exact r_conv (r := ((t : Nat) : Int)) ty_cv31_92 rfl (wu64 (by omega) (by omega))) rfl rfl rfl ?_
  -- R1.2 5 := api.go:49 binOp
  refine WL.v (by exact r_shl (r := ((2 ^ t : Nat) : Int)) rfl rfl (by omega) (by rw [show min ((t : Nat) : Int).toNat IntKind.u16.bits = t by show min _ 16 = _; omega, Int.one_mul, show ((2 : Int) ^ t) = ((2 ^ t : Nat) : Int) by simp]; exact wu16 (Int.natCast_nonneg _) (by omega))) rfl rfl rfl ?_
  -- R1.3 2 := api.go:49 assign
  refine WL.v (by first | exact r_assign (v := .int _ _) rfl | exact r_assign rfl) rfl rfl rfl ?_
  refine WL.fin hK2 (fun _ _ h => h) ?_
  refine WC.ret1 Tryz.results30 (fun _ _ h => h) rfl ?_
  exact ⟨_, rfl, rfl, st⟩

theorem and_pow {m t : Nat} : decide (((m &&& 2 ^ t : Nat) : Int) ≠ 0) = m.testBit t := by
  cases h : m.testBit t with
  | false =>
    have : m &&& 2 ^ t = 0 := Nat.eq_of_testBit_eq fun i => by
      rw [Nat.testBit_and, Nat.testBit_two_pow, Nat.zero_testBit]
      by_cases hi : t = i
      · subst hi; rw [h]; rfl
      · simp [hi]
    rw [this]; rfl
  | true =>
    have : (m &&& 2 ^ t).testBit t = true := by rw [Nat.testBit_and, h, Nat.testBit_two_pow]; simp
    refine decide_eq_true fun h0 => ?_
    have h0 : m &&& 2 ^ t = 0 := by omega
    rw [h0, Nat.zero_testBit] at this
    cases this
theorem has_ok {m t : Nat} (hm : m < 65536) (ht : t < 16) (st : S0 w0 l w) :
    Calls Tryz.prog 28 #[.int .u16 (m : Nat), .int .i64 (t : Nat)] w (Ret fun v w' => v = .bool (m.testBit t) ∧ S0 w0 l w') := by
  have hp : 2 ^ t < 65536 := Nat.lt_of_lt_of_le (Nat.pow_lt_pow_right (by decide) ht) (by decide)
  refine enter [.int .u16 (m : Nat), .int .i64 (t : Nat)] Tryz.func28 rfl Tryz.ntmps28 rfl ?_
  show WC _ _ _ 10 [] [(0, .int .u16 (m : Nat)), (1, .int .i64 (t : Nat))] _
  refine WC.seq fun K3 hK3 => ?_
  -- region 0
  refine WC.region ?_
  -- R0.0 4 := api.go:52 assign
  refine WL.v (by first | exact r_assign (v := .bool _) rfl | exact r_assign rfl) rfl rfl rfl ?_
  refine WL.fin hK3 (fun _ _ h => h) ?_
  refine WC.seq fun K4 hK4 => ?_
  -- region 1
  refine WC.region ?_
  -- R1.0 5 := api.go:52 move
  refine WL.v (by first | exact r_move (v := .int _ _) rfl | exact r_move rfl) rfl rfl rfl ?_
  -- R1.1 6 := api.go:52 move
  refine WL.v (by first | exact r_move (v := .int _ _) rfl | exact r_move rfl) rfl rfl rfl ?_
  -- R1.2 7 := api.go:52 call
  refine WL.call (r_call ty_call30 rfl) rfl rfl rfl (bit_ok ht st) ?_
  rintro _ w ⟨rfl, st⟩
  -- R1.3 8 := api.go:52 binOp
  refine WL.v (by exact r_and (r := ((m &&& 2 ^ t : Nat) : Int)) rfl rfl (and16 hm hp)) rfl rfl rfl ?_
  -- R1.4 9 := api.go:52 binOp
  refine WL.v (by exact r_neq (t := m.testBit t) rfl rfl and_pow) rfl rfl rfl ?_
  -- R1.5 4 := api.go:52 assign
  refine WL.v (by first | exact r_assign (v := .bool _) rfl | exact r_assign rfl) rfl rfl rfl ?_
  refine WL.fin hK4 (fun _ _ h => h) ?_
  refine WC.ret1 Tryz.results28 (fun _ _ h => h) rfl ?_
  exact ⟨_, rfl, rfl, st⟩

def popS : ByteArray := ⟨#[0, 1, 1, 2, 1, 2, 2, 3, 1, 2, 2, 3, 2, 3, 3, 4, 1, 2, 2, 3, 2, 3, 3, 4, 2, 3, 3, 4, 3, 4, 4, 5, 1, 2, 2, 3, 2, 3, 3, 4, 2, 3, 3, 4, 3, 4, 4, 5, 2, 3, 3, 4, 3, 4, 4, 5, 3, 4, 4, 5, 4, 5, 5, 6, 1, 2, 2, 3, 2, 3, 3, 4, 2, 3, 3, 4, 3, 4, 4, 5, 2, 3, 3, 4, 3, 4, 4, 5, 3, 4, 4, 5, 4, 5, 5, 6, 2, 3, 3, 4, 3, 4, 4, 5, 3, 4, 4, 5, 4, 5, 5, 6, 3, 4, 4, 5, 4, 5, 5, 6, 4, 5, 5, 6, 5, 6, 6, 7, 1, 2, 2, 3, 2, 3, 3, 4, 2, 3, 3, 4, 3, 4, 4, 5, 2, 3, 3, 4, 3, 4, 4, 5, 3, 4, 4, 5, 4, 5, 5, 6, 2, 3, 3, 4, 3, 4, 4, 5, 3, 4, 4, 5, 4, 5, 5, 6, 3, 4, 4, 5, 4, 5, 5, 6, 4, 5, 5, 6, 5, 6, 6, 7, 2, 3, 3, 4, 3, 4, 4, 5, 3, 4, 4, 5, 4, 5, 5, 6, 3, 4, 4, 5, 4, 5, 5, 6, 4, 5, 5, 6, 5, 6, 6, 7, 3, 4, 4, 5, 4, 5, 5, 6, 4, 5, 5, 6, 5, 6, 6, 7, 4, 5, 5, 6, 5, 6, 6, 7, 5, 6, 6, 7, 6, 7, 7, 8]⟩
theorem pop_size : popS.size = 256 := by kernel_rfl
theorem pop_at {a : Nat} (h : a < 256) : ∃ v, popS[a]? = some v := ⟨popS[a]'(by rw [pop_size]; exact h), by rw [getElem?_pos popS a (by rw [pop_size]; exact h)]⟩
theorem ones_ok {m : Nat} (hm : m < 65536) (st : S0 w0 l w) :
    Calls Tryz.prog 66 #[.int .u16 (m : Nat)] w (Ret fun v w' => ∃ c : Nat, c < 256 ∧ v = .int .i64 (c : Nat) ∧ S0 w0 l w') := by
  obtain ⟨v1, h1⟩ := pop_at (a := m / 256) (by omega)
  obtain ⟨v2, h2⟩ := pop_at (a := m &&& 255) (by have : m &&& 255 ≤ 255 := Nat.and_le_right; omega)
  obtain ⟨c, hc⟩ : ∃ c : Nat, c = (v1.toNat + v2.toNat) % 256 := ⟨_, rfl⟩
  refine enter [.int .u16 (m : Nat)] Tryz.func66 rfl Tryz.ntmps66 rfl ?_
  show WC _ _ _ 11 [] [(0, .int .u16 (m : Nat))] _
  refine WC.seq fun K5 hK5 => ?_
  -- region 0
  refine WC.region ?_
  -- R0.0 2 := bits.go:130 assign
  refine WL.v (by first | exact r_assign (v := .int _ _) rfl | exact r_assign rfl) rfl rfl rfl ?_
  refine WL.fin hK5 (fun _ _ h => h) ?_
  refine WC.seq fun K6 hK6 => ?_
  -- region 1 (draws)
  refine WC.quietS st ty_mixed (by kernel_rfl) fun Kq hKq => ?_
  -- R1.0 3 := bits.go:131 move
  refine QL.v (fun w st => by first | exact r_move (v := .int _ _) rfl | exact r_move rfl) rfl rfl rfl ?_
  -- R1.1 4 := bits.go:131 binOp
  refine QL.v (fun w st => by exact r_shr (r := ((m / 256 : Nat) : Int)) rfl rfl (by decide) (by show Int.fdiv ((m : Nat) : Int) 256 = _; rw [Int.fdiv_eq_ediv_of_nonneg _ (by decide)]; rfl)) rfl rfl rfl ?_
  -- R1.2 5 := bits.go:131 index
  refine QL.v (fun w st => by exact r_indexT (s := popS) (v := v1) ty_ustr9 rfl rfl h1) rfl rfl rfl ?_
  -- R1.3 6 := bits.go:131 move
  refine QL.v (fun w st => by first | exact r_move (v := .int _ _) rfl | exact r_move rfl) rfl rfl rfl ?_
  -- R1.4 7 := bits.go:131 binOp
  refine QL.v (fun w st => by exact r_and (r := ((m &&& 255 : Nat) : Int)) rfl rfl (and16 hm (by decide))) rfl rfl rfl ?_
  -- R1.5 8 := bits.go:131 index
  refine QL.v (fun w st => by exact r_indexT (s := popS) (v := v2) ty_ustr9 rfl rfl h2) rfl rfl rfl ?_
  -- R1.6 9 := bits.go:131 binOp
  refine QL.v (fun w st => by exact r_add (r := (c : Int)) rfl rfl (by show (((v1.toNat : Nat) : Int) + ((v2.toNat : Nat) : Int)) % 256 = _; rw [hc]; omega)) rfl rfl rfl ?_
  -- R1.7 10 := bits.go:131 convert
  refine QL.v (fun w st => by exact r_conv (r := (c : Int)) ty_cv5_3 rfl (wi64 (by omega) (by omega))) rfl rfl rfl ?_
  -- R1.8 2 := bits.go:131 assign
  refine QL.v (fun w st => by first | exact r_assign (v := .int _ _) rfl | exact r_assign rfl) rfl rfl rfl ?_
  refine QL.wl hKq fun w st => ?_
  refine WL.fin hK6 (fun _ _ h => h) ?_
  refine WC.ret1 Tryz.results66 (fun _ _ h => h) rfl ?_
  exact ⟨_, rfl, c, by omega, rfl, st⟩

theorem tz_walk {m : Nat} (hD : gD w0) (h0 : m ≠ 0) (hm : m < 65536) (st : S0 w0 l w) :
    Calls Tryz.prog 67 #[.int .u16 (m : Nat)] w (Ret fun v w' => v = .int .i64 (tz m : Nat) ∧ S0 w0 l w') := by
  have hlt : m &&& (65536 - m) < 65536 := andlt hm
  obtain ⟨q, hq⟩ : ∃ q, q = m &&& (65536 - m) := ⟨_, rfl⟩
  rw [← hq] at hlt
  have htz : tz m = debL.getD (q * 125613361 % 4294967296 / 134217728) 0 := by unfold tz; rw [hq]
  have hb := (tz_ok h0 hm).1
  refine enter [.int .u16 (m : Nat)] Tryz.func67 rfl Tryz.ntmps67 rfl ?_
  show WC _ _ _ 15 [] [(0, .int .u16 (m : Nat))] _
  refine WC.seq fun K7 hK7 => ?_
  -- region 0
  refine WC.region ?_
  -- R0.0 2 := bits.go:72 assign
  refine WL.v (by first | exact r_assign (v := .int _ _) rfl | exact r_assign rfl) rfl rfl rfl ?_
  refine WL.fin hK7 (fun _ _ h => h) ?_
  refine WC.seq fun K8 hK8 => ?_
  refine WC.seq fun K9 hK9 => ?_
  -- region 1
  refine WC.region ?_
  -- R1.0 3 := bits.go:73 move
  refine WL.v (by first | exact r_move (v := .int _ _) rfl | exact r_move rfl) rfl rfl rfl ?_
  -- R1.1 4 := bits.go:73 binOp
  refine WL.v (by exact r_eql rfl rfl (decide_eq_false (by omega))) rfl rfl rfl ?_
  refine WL.fin hK9 (fun _ _ h => h) ?_
  refine WC.condF rfl rfl ?_
  refine WC.skipF hK8 (fun _ _ h => h) ?_
  refine WC.seq fun K10 hK10 => ?_
  -- region 3
  refine WC.region ?_
  -- R3.0 5 := bits.go:77 move
  refine WL.v (by first | exact r_move (v := .int _ _) rfl | exact r_move rfl) rfl rfl rfl ?_
  -- R3.1 6 := bits.go:77 move
  refine WL.v (by first | exact r_move (v := .int _ _) rfl | exact r_move rfl) rfl rfl rfl ?_
  -- R3.2 7 := bits.go:77 unOp
  refine WL.v (by exact r_neg (r := ((65536 - m : Nat) : Int)) rfl (by show ((0 : Int) - ((m : Nat) : Int)) % 65536 = _; omega)) rfl rfl rfl ?_
  -- R3.3 8 := bits.go:77 binOp
  refine WL.v (by exact r_and (r := ((q : Nat) : Int)) rfl rfl (by rw [and16 hm (by omega), hq])) rfl rfl rfl ?_
  -- R3.4 9 := bits.go:77 convert
  refine WL.v (by exact r_conv (r := ((q : Nat) : Int)) ty_cv37_138 rfl (wu32 (by omega) (by omega))) rfl rfl rfl ?_
  -- R3.5 10 := bits.go:77 binOp
  refine WL.v (by exact r_mul (r := ((q * 125613361 % 4294967296 : Nat) : Int)) rfl rfl (by show (((q : Nat) : Int) * 125613361) % 4294967296 = _; omega)) rfl rfl rfl ?_
  -- R3.6 11 := bits.go:77 binOp
  refine WL.v (by exact r_shr (r := ((q * 125613361 % 4294967296 / 134217728 : Nat) : Int)) rfl rfl (by decide) (by show Int.fdiv _ 134217728 = _; rw [Int.fdiv_eq_ediv_of_nonneg _ (by decide)]; rfl)) rfl rfl rfl ?_
  -- R3.7 12 := bits.go:77 indexAddr
  refine WL.v (by exact r_indexA (j := q * 125613361 % 4294967296 / 134217728) ty_ar137 rfl rfl rfl (by omega)) rfl rfl rfl ?_
  -- R3.8 13 := bits.go:77 load
  refine WL.v (by exact r_load1 (v := .int .u8 (tz m : Nat)) ty_one5 rfl (by rw [htz]; have := st.old (fun h => h) (hD (q * 125613361 % 4294967296 / 134217728) (by omega)); rw [show 0 + q * 125613361 % 4294967296 / 134217728 * 1 = q * 125613361 % 4294967296 / 134217728 by omega]; exact this)) rfl rfl rfl ?_
  -- R3.9 14 := bits.go:77 convert
  refine WL.v (by exact r_conv (r := ((tz m : Nat) : Int)) ty_cv5_3 rfl (wi64 (by omega) (by omega))) rfl rfl rfl ?_
  -- R3.10 2 := bits.go:77 assign
  refine WL.v (by first | exact r_assign (v := .int _ _) rfl | exact r_assign rfl) rfl rfl rfl ?_
  refine WL.fin hK10 (fun _ _ h => h) ?_
  refine WC.ret1 Tryz.results67 (fun _ _ h => h) rfl ?_
  exact ⟨_, rfl, rfl, st⟩

def iE (a j : Nat) : Value := .int .i64 (a : Nat)
set_option maxHeartbeats 4000000 in
theorem tasks_ok {m : Nat} (hD : gD w0) (hm : m < 65536) (st : S0 w0 l w) :
    Calls Tryz.prog 31 #[.int .u16 (m : Nat)] w (Ret fun v w' => ∃ XI, LO 31 1 iE v (tasksP m) XI ∧ S0 w0 (XI ++ l) w') := by
  refine enter [.int .u16 (m : Nat)] Tryz.func31 rfl Tryz.ntmps31 rfl ?_
  show WC _ _ _ 19 [] [(0, .int .u16 (m : Nat))] _
  refine WC.seq fun K11 hK11 => ?_
  -- region 0
  refine WC.region ?_
  -- R0.0 2 := api.go:55 assign
  refine WL.v (by first | exact r_assign (v := .slice _ _ _) rfl | exact r_assign rfl) rfl rfl rfl ?_
  refine WL.fin hK11 (fun _ _ h => h) ?_
  refine WC.seq fun K12 hK12 => ?_
  -- region 1
  refine WC.region ?_
  -- R1.0 4 := api.go:56 move
  refine WL.v (by first | exact r_move (v := .int _ _) rfl | exact r_move rfl) rfl rfl rfl ?_
  -- R1.1 5 := api.go:56 call
  refine WL.call (r_call ty_call66 rfl) rfl rfl rfl (ones_ok hm st) ?_
  rintro _ w ⟨c, hc, rfl, st⟩
  -- R1.2 6 := api.go:56 makeSlice
  refine WL.make (len := 0) st ty_mk54 ty_zero31 rfl rfl (by first | rfl | omega) (by first | rfl | omega) (by omega) (by omega) (by omega) rfl rfl rfl rfl ?_
  intro b6 w st
  -- R1.3 3 := api.go:56 assign
  refine WL.v (by first | exact r_assign (v := .slice _ _ _) rfl | exact r_assign rfl) rfl rfl rfl ?_
  refine WL.fin hK12 (fun _ _ h => h) ?_
  refine WC.seq fun K13 hK13 => ?_
  refine WC.block ?_
  refine WC.loop (ι := Nat × List Nat × Value × List HI) (fun y => [(0, .int .u16 (y.1 : Nat)), (3, y.2.2.1)])
    (fun y w' => y.1 < 65536 ∧ tasksP m = y.2.1 ++ tasksP y.1 ∧ LO 31 1 iE y.2.2.1 y.2.1 y.2.2.2 ∧ S0 w0 (y.2.2.2 ++ l) w') (fun y => y.1) (m, [], .slice (some ⟨b6, 0, none⟩) 0 c, [(b6, Row 31 (c * 1) (zrow [.int .i64 0]))]) ⟨hm, rfl, LO.of (L := []) (by simp) (by omega) (fun i a h => by simp at h), st⟩ ?_ ?_
  · skip
    repeat (first | exact sub_nil _ | refine sub_cons rfl rfl ?_)
  rintro ⟨q, acc, v, XI⟩ w ⟨hq, hacc, ho, st⟩ K1 hK1
  dsimp only at hq hacc ho st ⊢
  by_cases hq0 : q = 0
  · subst hq0
    refine WC.seq fun K14 hK14 => ?_
    refine WC.seq fun K15 hK15 => ?_
    -- region 2
    refine WC.region ?_
    -- R2.0 7 := api.go:57 move
    refine WL.v (by first | exact r_move (v := .int _ _) rfl | exact r_move rfl) rfl rfl rfl ?_
    -- R2.1 8 := api.go:57 binOp
    refine WL.v (by first | exact r_neq rfl rfl (decide_eq_true (by omega)) | exact r_neq rfl rfl (decide_eq_false (by omega)) | exact r_neq rfl rfl rfl) rfl rfl rfl ?_
    refine WL.fin hK15 (fun _ _ h => h) ?_
    refine WC.condF rfl rfl ?_
    refine WC.exitF hK13 (fun _ _ h => h) ?_
    refine WC.seq fun K16 hK16 => ?_
    -- region 5
    refine WC.region ?_
    -- R5.0 18 := api.go:60 move
    refine WL.v (by first | exact r_move (v := .slice _ _ _) rfl | exact r_move rfl) rfl rfl rfl ?_
    -- R5.1 2 := api.go:60 assign
    refine WL.v (by first | exact r_assign (v := .slice _ _ _) rfl | exact r_assign rfl) rfl rfl rfl ?_
    refine WL.fin hK16 (fun _ _ h => h) ?_
    refine WC.ret1 Tryz.results31 (fun _ _ h => h) rfl ?_
    have e0 : tasksP 0 = [] := by decide
    rw [e0, List.append_nil] at hacc
    exact ⟨_, rfl, XI, by rw [hacc]; exact ho, st⟩
  obtain ⟨hlow, hdec⟩ := tasksP_low hq0 hq
  have hlen : acc.length ≤ 16 := by
    have := tasksP_len (m := m)
    rw [hacc, List.length_append] at this; omega
  refine WC.seq fun K17 hK17 => ?_
  refine WC.seq fun K18 hK18 => ?_
  -- region 2
  refine WC.region ?_
  -- R2.0 7 := api.go:57 move
  refine WL.v (by first | exact r_move (v := .int _ _) rfl | exact r_move rfl) rfl rfl rfl ?_
  -- R2.1 8 := api.go:57 binOp
  refine WL.v (by exact r_neq rfl rfl (decide_eq_true (by omega))) rfl rfl rfl ?_
  refine WL.fin hK18 (fun _ _ h => h) ?_
  refine WC.condT rfl rfl ?_
  refine WC.skipF hK17 (fun _ _ h => h) ?_
  refine WC.seq fun K19 hK19 => ?_
  refine WC.block ?_
  -- region 4
  refine WC.region ?_
  -- R4.0 13 := api.go:58 move
  refine WL.v (by first | exact r_move (v := .slice _ _ _) rfl | exact r_move rfl) rfl rfl rfl ?_
  -- R4.1 14 := api.go:58 move
  refine WL.v (by first | exact r_move (v := .int _ _) rfl | exact r_move rfl) rfl rfl rfl ?_
  -- R4.2 15 := api.go:58 call
  refine WL.call (r_call ty_call67 rfl) rfl rfl rfl (tz_walk hD hq0 hq st) ?_
  rintro _ w ⟨rfl, st⟩
  -- R4.3 16 := api.go:58 buildSlice
  first | refine WL.mkslice (m := 1) (vs := [.int _ _]) st ty_sl54 ty_zero31 rfl rfl rfl rfl rfl rfl ?_ | refine WL.mkslice (m := 1) (vs := [_]) st ty_sl54 ty_zero31 rfl rfl rfl rfl rfl rfl ?_ | refine WL.mkslice st ty_sl54 ty_zero31 rfl rfl rfl rfl rfl rfl ?_
  intro b16 w st
  -- R4.4 17 := api.go:58 call
  have c0 : ∀ k, k < 1 → w.cell? ⟨b16, 0 + k, none⟩ = some (iE (tz q) k) := fun k hk => by obtain rfl : k = 0 := by omega
                                                                                           exact st.c0 (by decide)
  refine WL.appL (bx := b16) (ox := 0) (a := tz q) ho (st.perm (List.perm_append_comm_assoc [_] XI l)) ty_mk54 ty_zero31 rfl (by decide) rfl rfl c0 (fun _ _ => rfl) (by omega) (by omega) rfl rfl rfl ?_
  intro v' XI' w ho st
  have st := (st.perm (List.perm_append_comm_assoc XI' [_] l)).drop
  -- R4.5 3 := api.go:58 assign
  refine WL.v (by first | exact r_assign (v := .slice _ _ _) rfl | exact r_assign rfl) rfl rfl rfl ?_
  refine WL.fin hK19 (fun _ _ h => h) ?_
  -- region 3
  refine WC.region ?_
  -- R3.0 9 := api.go:57 move
  refine WL.v (by first | exact r_move (v := .int _ _) rfl | exact r_move rfl) rfl rfl rfl ?_
  -- R3.1 10 := api.go:57 move
  refine WL.v (by first | exact r_move (v := .int _ _) rfl | exact r_move rfl) rfl rfl rfl ?_
  -- R3.2 11 := api.go:57 binOp
  refine WL.v (by exact r_sub (r := ((q - 1 : Nat) : Int)) rfl rfl ((wu16 (by omega) (by omega)).trans (by omega))) rfl rfl rfl ?_
  -- R3.3 12 := api.go:57 binOp
  refine WL.v (by exact r_and (r := ((q &&& (q - 1) : Nat) : Int)) rfl rfl (and16 hq (by omega))) rfl rfl rfl ?_
  -- R3.4 0 := api.go:57 assign
  refine WL.v (by first | exact r_assign (v := .int _ _) rfl | exact r_assign rfl) rfl rfl rfl ?_
  refine WL.next hK1 (fun _ _ h => h) (q &&& (q - 1), acc ++ [tz q], v', XI') ⟨andlt hq, by rw [hacc, hlow, List.append_assoc]; rfl, ho, st⟩ hdec (by repeat (first | exact sub_nil _ | refine sub_cons rfl rfl ?_))
end Go.Proofs.Qxb6500834aGreatDoor

