import Derived.Test.Qxb6500837aDoorD29
set_option linter.unusedVariables false
set_option linter.unusedSimpArgs false
set_option maxRecDepth 20000
namespace Go.Proofs.Qxb6500837aDoor
open Go.RowKit Go.E1 Go.Disk
variable {w0 : World} {L L' l I J K K' : List HI} {w : World} {D : DK} {m : Int} {P : PD} {q : Obj → Prop}
variable {R : PD} {NS : Int → Option Value} {f : Nat → Value}

theorem and_tab : ∀ k : Fin 8, ∀ y : Fin 256, (y.val &&& 2 ^ k.val) = y.val / 2 ^ k.val % 2 * 2 ^ k.val := by decide +kernel
theorem m256 {z : Nat} (h : z < 256) : (((z : Nat) : Int) % ((2 ^ 8 : Nat) : Int)).toNat = z := by omega
theorem and_pw {x : Int} {k : Nat} (h0 : 0 ≤ x) (h1 : x < 256) (hk : k < 8) : (IntKind.u8).wrap (BitVec.ofInt 8 x &&& BitVec.ofInt 8 (2 ^ k)).toNat = x / 2 ^ k % 2 * 2 ^ k := by
  obtain ⟨y, rfl⟩ := Int.eq_ofNat_of_zero_le h0
  have hp : 2 ^ k < 256 := Nat.lt_of_lt_of_le (Nat.pow_lt_pow_right (by decide) hk) (by decide)
  have hpi : ((2 : Int) ^ k) = ((2 ^ k : Nat) : Int) := by simp
  have e : (BitVec.ofInt 8 (y : Int) &&& BitVec.ofInt 8 (2 ^ k)).toNat = y / 2 ^ k % 2 * 2 ^ k := by
    rw [BitVec.toNat_and, BitVec.toNat_ofInt, BitVec.toNat_ofInt, hpi]
    have e1 : ((y : Int) % ((2 ^ 8 : Nat) : Int)).toNat = y := by omega
    have e2 : (((2 ^ k : Nat) : Int) % ((2 ^ 8 : Nat) : Int)).toNat = 2 ^ k := m256 hp
    rw [e1, e2]
    exact and_tab ⟨k, hk⟩ ⟨y, by omega⟩
  rw [e]
  have hq : y / 2 ^ k % 2 * 2 ^ k < 256 := by
    have : y / 2 ^ k % 2 < 2 := Nat.mod_lt _ (by decide)
    have : y / 2 ^ k % 2 * 2 ^ k ≤ 1 * 2 ^ k := Nat.mul_le_mul_right _ (by omega)
    omega
  refine (wu8 (by omega) (by omega)).trans ?_
  rw [hpi]; simp
theorem shl_one {k : Nat} (hk : k < 8) : IntKind.u8.wrap (1 * 2 ^ (min ((k : Nat) : Int).toNat IntKind.u8.bits)) = 2 ^ k := by
  rw [show min ((k : Nat) : Int).toNat IntKind.u8.bits = k by show min _ 8 = _; omega, Int.one_mul]
  have hp : 2 ^ k < 256 := Nat.lt_of_lt_of_le (Nat.pow_lt_pow_right (by decide) hk) (by decide)
  have hpi : ((2 : Int) ^ k) = ((2 ^ k : Nat) : Int) := by simp
  rw [hpi]
  exact wu8 (Int.natCast_nonneg _) (Int.ofNat_le.2 (Nat.le_of_lt_succ hp))

def chosenB (keep : List Int) (tear : Int) (i : Nat) : Bool := decide ((i : Int) = tear) || keepB keep i

theorem chosen_neq {bs : List Int} {tear x : Int} {i t : Nat} (ht : ¬ (i : Int) = tear) (h0 : ¬ bs.length = 0) (htt : t = i % (bs.length * 8)) (hx : x = bs.getD (t / 8) 0) : decide (x / 2 ^ (t % 8) % 2 * 2 ^ (t % 8) ≠ 0) = chosenB bs tear i := by
  unfold chosenB keepB
  rw [← htt, ← hx]
  have hp : (2 : Int) ^ (t % 8) ≠ 0 := Int.ne_of_gt (Int.pow_pos (by decide))
  have hm : x / 2 ^ (t % 8) % 2 = 0 ∨ x / 2 ^ (t % 8) % 2 = 1 := by omega
  rcases hm with hm | hm
  · rw [hm]; simp [ht]
  · rw [hm]; simp [ht, h0, hp]

set_option maxHeartbeats 4000000 in
theorem chosen_ok (s : SV) (tear tb : Int) (i : Nat) (hs : s.ok) (hl : s.bs.length ≤ 65536) (hi : i ≤ 65536) (hr : s.rd w0) (st : S0 w0 l w) :
    Calls Tryd.prog 29 #[.agg #[.slice s.a s.bs.length s.c, .int .i64 tear, .int .i64 tb], .int .i64 (i : Nat)] w (Ret fun v w' => v = .bool (chosenB s.bs tear i) ∧ S0 w0 l w') := by
  by_cases ht : (i : Int) = tear
  · skip
    refine enter [.agg #[.slice s.a s.bs.length s.c, .int .i64 tear, .int .i64 tb], .int .i64 (i : Nat)] Tryd.func29 rfl Tryd.ntmps29 rfl ?_
    show WC _ _ _ 31 [] [(0, .agg #[.slice s.a s.bs.length s.c, .int .i64 tear, .int .i64 tb]), (1, .int .i64 (i : Nat))] _
    refine WC.seq fun K1021 hK1021 => ?_
    -- region 0
    refine WC.region ?_
    -- R0.0 2 := laws.go:164 box
    first | refine WL.box (m := 3) (vs := [.slice _ _ _, .int _ _, .int _ _]) st rfl rfl rfl rfl rfl rfl ?_ | refine WL.box (m := 3) (vs := [_, _, _]) st rfl rfl rfl rfl rfl rfl ?_ | refine WL.box st rfl rfl rfl rfl rfl rfl ?_
    intro b2 w st
    -- R0.1 4 := laws.go:164 assign
    refine WL.v (by first | exact r_assign (v := .bool _) rfl | exact r_assign rfl) rfl rfl rfl ?_
    refine WL.fin hK1021 (fun _ _ h => h) ?_
    refine WC.seq fun K1022 hK1022 => ?_
    refine WC.seq fun K1023 hK1023 => ?_
    -- region 1
    refine WC.region ?_
    -- R1.0 6 := laws.go:165 move
    refine WL.v (by first | exact r_move (v := .int _ _) rfl | exact r_move rfl) rfl rfl rfl ?_
    -- R1.1 7 := laws.go:165 fieldAddr
    refine WL.v (by exact r_field ty_fld31_1 rfl) rfl rfl rfl ?_
    -- R1.2 8 := laws.go:165 load
    refine WL.v (by exact r_load1 ty_one2 rfl (by first | assumption | exact st.c0 (by first | decide | omega) | exact st.c1 (by first | decide | omega) | exact st.c2 (by first | decide | omega) | exact st.c3 (by first | decide | omega) | exact st.c4 (by first | decide | omega) | exact st.c5 (by first | decide | omega) | exact st.c6 (by first | decide | omega) | exact st.c7 (by first | decide | omega) | exact st.c8 (by first | decide | omega))) rfl rfl rfl ?_
    -- R1.3 9 := laws.go:165 binOp
    refine WL.v (by exact r_eql rfl rfl (decide_eq_true ht)) rfl rfl rfl ?_
    refine WL.fin hK1023 (fun _ _ h => h) ?_
    refine WC.condT rfl rfl ?_
    refine WC.seq fun K1024 hK1024 => ?_
    -- region 2
    refine WC.region ?_
    -- R2.0 4 := laws.go:166 assign
    refine WL.v (by first | exact r_assign (v := .bool _) rfl | exact r_assign rfl) rfl rfl rfl ?_
    refine WL.fin hK1024 (fun _ _ h => h) ?_
    refine WC.ret1 Tryd.results29 (fun _ _ h => h) rfl ?_
    exact ⟨_, rfl, congrArg Value.bool (show true = chosenB s.bs tear i by simp [chosenB, ht]), st.drop⟩
  by_cases h0 : s.bs.length = 0
  · skip
    refine enter [.agg #[.slice s.a s.bs.length s.c, .int .i64 tear, .int .i64 tb], .int .i64 (i : Nat)] Tryd.func29 rfl Tryd.ntmps29 rfl ?_
    show WC _ _ _ 31 [] [(0, .agg #[.slice s.a s.bs.length s.c, .int .i64 tear, .int .i64 tb]), (1, .int .i64 (i : Nat))] _
    refine WC.seq fun K1025 hK1025 => ?_
    -- region 0
    refine WC.region ?_
    -- R0.0 2 := laws.go:164 box
    first | refine WL.box (m := 3) (vs := [.slice _ _ _, .int _ _, .int _ _]) st rfl rfl rfl rfl rfl rfl ?_ | refine WL.box (m := 3) (vs := [_, _, _]) st rfl rfl rfl rfl rfl rfl ?_ | refine WL.box st rfl rfl rfl rfl rfl rfl ?_
    intro b2 w st
    -- R0.1 4 := laws.go:164 assign
    refine WL.v (by first | exact r_assign (v := .bool _) rfl | exact r_assign rfl) rfl rfl rfl ?_
    refine WL.fin hK1025 (fun _ _ h => h) ?_
    refine WC.seq fun K1026 hK1026 => ?_
    refine WC.seq fun K1027 hK1027 => ?_
    -- region 1
    refine WC.region ?_
    -- R1.0 6 := laws.go:165 move
    refine WL.v (by first | exact r_move (v := .int _ _) rfl | exact r_move rfl) rfl rfl rfl ?_
    -- R1.1 7 := laws.go:165 fieldAddr
    refine WL.v (by exact r_field ty_fld31_1 rfl) rfl rfl rfl ?_
    -- R1.2 8 := laws.go:165 load
    refine WL.v (by exact r_load1 ty_one2 rfl (by first | assumption | exact st.c0 (by first | decide | omega) | exact st.c1 (by first | decide | omega) | exact st.c2 (by first | decide | omega) | exact st.c3 (by first | decide | omega) | exact st.c4 (by first | decide | omega) | exact st.c5 (by first | decide | omega) | exact st.c6 (by first | decide | omega) | exact st.c7 (by first | decide | omega) | exact st.c8 (by first | decide | omega))) rfl rfl rfl ?_
    -- R1.3 9 := laws.go:165 binOp
    refine WL.v (by exact r_eql rfl rfl (decide_eq_false ht)) rfl rfl rfl ?_
    refine WL.fin hK1027 (fun _ _ h => h) ?_
    refine WC.condF rfl rfl ?_
    refine WC.skipF hK1026 (fun _ _ h => h) ?_
    refine WC.seq fun K1028 hK1028 => ?_
    refine WC.seq fun K1029 hK1029 => ?_
    -- region 3
    refine WC.region ?_
    -- R3.0 10 := laws.go:168 fieldAddr
    refine WL.v (by exact r_field ty_fld31_0 rfl) rfl rfl rfl ?_
    -- R3.1 11 := laws.go:168 load
    refine WL.v (by exact r_load1 ty_one29 rfl (by first | assumption | exact st.c0 (by first | decide | omega) | exact st.c1 (by first | decide | omega) | exact st.c2 (by first | decide | omega) | exact st.c3 (by first | decide | omega) | exact st.c4 (by first | decide | omega) | exact st.c5 (by first | decide | omega) | exact st.c6 (by first | decide | omega) | exact st.c7 (by first | decide | omega) | exact st.c8 (by first | decide | omega))) rfl rfl rfl ?_
    -- R3.2 12 := laws.go:168 call
    refine WL.v (by exact r_len ty_usl29 rfl) rfl rfl rfl ?_
    -- R3.3 13 := laws.go:168 binOp
    refine WL.v (by exact r_eql rfl rfl (decide_eq_true (by omega))) rfl rfl rfl ?_
    refine WL.fin hK1029 (fun _ _ h => h) ?_
    refine WC.condT rfl rfl ?_
    refine WC.seq fun K1030 hK1030 => ?_
    -- region 4
    refine WC.region ?_
    -- R4.0 4 := laws.go:169 assign
    refine WL.v (by first | exact r_assign (v := .bool _) rfl | exact r_assign rfl) rfl rfl rfl ?_
    refine WL.fin hK1030 (fun _ _ h => h) ?_
    refine WC.ret1 Tryd.results29 (fun _ _ h => h) rfl ?_
    exact ⟨_, rfl, congrArg Value.bool (show false = chosenB s.bs tear i by simp [chosenB, keepB, ht, h0]), st.drop⟩
  have hadr := hs.adr (by omega)
  obtain ⟨t, htt⟩ : ∃ t, t = i % (s.bs.length * 8) := ⟨_, rfl⟩
  have htl : t < s.bs.length * 8 := by rw [htt]; exact Nat.mod_lt _ (by omega)
  have hb := hs.at (i := t / 8) (by omega)
  obtain ⟨x, hx⟩ : ∃ x, x = s.bs.getD (t / 8) 0 := ⟨_, rfl⟩
  rw [← hx] at hb
  rw [hadr]
  refine enter [.agg #[.slice (some ⟨s.b, s.o, none⟩) s.bs.length s.c, .int .i64 tear, .int .i64 tb], .int .i64 (i : Nat)] Tryd.func29 rfl Tryd.ntmps29 rfl ?_
  show WC _ _ _ 31 [] [(0, .agg #[.slice (some ⟨s.b, s.o, none⟩) s.bs.length s.c, .int .i64 tear, .int .i64 tb]), (1, .int .i64 (i : Nat))] _
  refine WC.seq fun K1031 hK1031 => ?_
  -- region 0
  refine WC.region ?_
  -- R0.0 2 := laws.go:164 box
  first | refine WL.box (m := 3) (vs := [.slice _ _ _, .int _ _, .int _ _]) st rfl rfl rfl rfl rfl rfl ?_ | refine WL.box (m := 3) (vs := [_, _, _]) st rfl rfl rfl rfl rfl rfl ?_ | refine WL.box st rfl rfl rfl rfl rfl rfl ?_
  intro b2 w st
  -- R0.1 4 := laws.go:164 assign
  refine WL.v (by first | exact r_assign (v := .bool _) rfl | exact r_assign rfl) rfl rfl rfl ?_
  refine WL.fin hK1031 (fun _ _ h => h) ?_
  refine WC.seq fun K1032 hK1032 => ?_
  refine WC.seq fun K1033 hK1033 => ?_
  -- region 1
  refine WC.region ?_
  -- R1.0 6 := laws.go:165 move
  refine WL.v (by first | exact r_move (v := .int _ _) rfl | exact r_move rfl) rfl rfl rfl ?_
  -- R1.1 7 := laws.go:165 fieldAddr
  refine WL.v (by exact r_field ty_fld31_1 rfl) rfl rfl rfl ?_
  -- R1.2 8 := laws.go:165 load
  refine WL.v (by exact r_load1 ty_one2 rfl (by first | assumption | exact st.c0 (by first | decide | omega) | exact st.c1 (by first | decide | omega) | exact st.c2 (by first | decide | omega) | exact st.c3 (by first | decide | omega) | exact st.c4 (by first | decide | omega) | exact st.c5 (by first | decide | omega) | exact st.c6 (by first | decide | omega) | exact st.c7 (by first | decide | omega) | exact st.c8 (by first | decide | omega))) rfl rfl rfl ?_
  -- R1.3 9 := laws.go:165 binOp
  refine WL.v (by exact r_eql rfl rfl (decide_eq_false ht)) rfl rfl rfl ?_
  refine WL.fin hK1033 (fun _ _ h => h) ?_
  refine WC.condF rfl rfl ?_
  refine WC.skipF hK1032 (fun _ _ h => h) ?_
  refine WC.seq fun K1034 hK1034 => ?_
  refine WC.seq fun K1035 hK1035 => ?_
  -- region 3
  refine WC.region ?_
  -- R3.0 10 := laws.go:168 fieldAddr
  refine WL.v (by exact r_field ty_fld31_0 rfl) rfl rfl rfl ?_
  -- R3.1 11 := laws.go:168 load
  refine WL.v (by exact r_load1 ty_one29 rfl (by first | assumption | exact st.c0 (by first | decide | omega) | exact st.c1 (by first | decide | omega) | exact st.c2 (by first | decide | omega) | exact st.c3 (by first | decide | omega) | exact st.c4 (by first | decide | omega) | exact st.c5 (by first | decide | omega) | exact st.c6 (by first | decide | omega) | exact st.c7 (by first | decide | omega) | exact st.c8 (by first | decide | omega))) rfl rfl rfl ?_
  -- R3.2 12 := laws.go:168 call
  refine WL.v (by exact r_len ty_usl29 rfl) rfl rfl rfl ?_
  -- R3.3 13 := laws.go:168 binOp
  refine WL.v (by exact r_eql rfl rfl (decide_eq_false (by omega))) rfl rfl rfl ?_
  refine WL.fin hK1035 (fun _ _ h => h) ?_
  refine WC.condF rfl rfl ?_
  refine WC.skipF hK1034 (fun _ _ h => h) ?_
  refine WC.seq fun K1036 hK1036 => ?_
  -- region 5
  refine WC.region ?_
  -- R5.0 14 := laws.go:171 move
  refine WL.v (by first | exact r_move (v := .int _ _) rfl | exact r_move rfl) rfl rfl rfl ?_
  -- R5.1 15 := laws.go:171 fieldAddr
  refine WL.v (by exact r_field ty_fld31_0 rfl) rfl rfl rfl ?_
  -- R5.2 16 := laws.go:171 load
  refine WL.v (by exact r_load1 ty_one29 rfl (by first | assumption | exact st.c0 (by first | decide | omega) | exact st.c1 (by first | decide | omega) | exact st.c2 (by first | decide | omega) | exact st.c3 (by first | decide | omega) | exact st.c4 (by first | decide | omega) | exact st.c5 (by first | decide | omega) | exact st.c6 (by first | decide | omega) | exact st.c7 (by first | decide | omega) | exact st.c8 (by first | decide | omega))) rfl rfl rfl ?_
  -- R5.3 17 := laws.go:171 call
  refine WL.v (by exact r_len ty_usl29 rfl) rfl rfl rfl ?_
  -- R5.4 18 := laws.go:171 binOp
  refine WL.v (by exact r_mul (r := ((s.bs.length * 8 : Nat) : Int)) rfl rfl ((wi64 (by omega) (by omega)).trans (by omega))) rfl rfl rfl ?_
  -- R5.5 19 := laws.go:171 binOp
  refine WL.v (by exact r_rem (r := (t : Int)) rfl rfl (by omega) (by rw [htt]; exact rfl)) rfl rfl rfl ?_
  -- R5.6 5 := laws.go:171 assign
  refine WL.v (by first | exact r_assign (v := .int _ _) rfl | exact r_assign rfl) rfl rfl rfl ?_
  refine WL.fin hK1036 (fun _ _ h => h) ?_
  refine WC.seq fun K1037 hK1037 => ?_
  -- region 6 (draws)
  refine WC.quietS st ty_mixed (by kernel_rfl) fun Kq hKq => ?_
  -- R6.0 20 := laws.go:172 fieldAddr
  refine QL.v (fun w st => by exact r_field ty_fld31_0 rfl) rfl rfl rfl ?_
  -- R6.1 21 := laws.go:172 load
  refine QL.v (fun w st => by exact r_load1 ty_one29 rfl (by first | assumption | exact st.c0 (by first | decide | omega) | exact st.c1 (by first | decide | omega) | exact st.c2 (by first | decide | omega) | exact st.c3 (by first | decide | omega) | exact st.c4 (by first | decide | omega) | exact st.c5 (by first | decide | omega) | exact st.c6 (by first | decide | omega) | exact st.c7 (by first | decide | omega) | exact st.c8 (by first | decide | omega))) rfl rfl rfl ?_
  -- R6.2 22 := laws.go:172 move
  refine QL.v (fun w st => by first | exact r_move (v := .int _ _) rfl | exact r_move rfl) rfl rfl rfl ?_
  -- R6.3 23 := laws.go:172 binOp
  refine QL.v (fun w st => by exact r_quo (r := ((t / 8 : Nat) : Int)) rfl rfl (by omega) (by rw [show ((t : Nat) : Int).tdiv 8 = ((t / 8 : Nat) : Int) from rfl]; exact wi64 (by omega) (by omega))) rfl rfl rfl ?_
  -- R6.4 24 := laws.go:172 indexAddr
  refine QL.v (fun w st => by exact r_indexS (j := t / 8) ty_sl29 rfl rfl rfl (by omega)) rfl rfl rfl ?_
  -- R6.5 25 := laws.go:172 load
  refine QL.v (fun w st => by exact r_load1 (v := .int .u8 x) ty_one5 rfl (by rw [show s.o + t / 8 * 1 = s.o + t / 8 by omega, hx]; exact sv_old hr st _ (by omega))) rfl rfl rfl ?_
  -- R6.6 26 := laws.go:172 move
  refine QL.v (fun w st => by first | exact r_move (v := .int _ _) rfl | exact r_move rfl) rfl rfl rfl ?_
  -- R6.7 27 := laws.go:172 binOp
  refine QL.v (fun w st => by exact r_rem (r := ((t % 8 : Nat) : Int)) rfl rfl (by omega) rfl) rfl rfl rfl ?_
  -- R6.8 28 := laws.go:172 binOp
  refine QL.v (fun w st => by exact r_shl (r := 2 ^ (t % 8)) rfl rfl (by omega) (shl_one (by omega))) rfl rfl rfl ?_
  -- R6.9 29 := laws.go:172 binOp
  refine QL.v (fun w st => by exact r_and (r := x / 2 ^ (t % 8) % 2 * 2 ^ (t % 8)) rfl rfl (and_pw hb.1 hb.2 (by omega))) rfl rfl rfl ?_
  -- R6.10 30 := laws.go:172 binOp
  refine QL.v (fun w st => by exact r_neq (t := chosenB s.bs tear i) rfl rfl (chosen_neq ht h0 htt hx)) rfl rfl rfl ?_
  -- R6.11 4 := laws.go:172 assign
  refine QL.v (fun w st => by first | exact r_assign (v := .bool _) rfl | exact r_assign rfl) rfl rfl rfl ?_
  refine QL.wl hKq fun w st => ?_
  refine WL.fin hK1037 (fun _ _ h => h) ?_
  refine WC.ret1 Tryd.results29 (fun _ _ h => h) rfl ?_
  exact ⟨_, rfl, rfl, st.drop⟩

/-! Law 10, plainly. -/
theorem crashPc_snoc {keep : List Int} {tear : Int} {k : Nat} {p : Nat × (Nat → Int)} : ∀ {l : List (Nat × (Nat → Int))} {i : Nat} {pc : Nat → Nat → Int}, crashPc keep tear k i pc (l ++ [p]) =
    if ((i + l.length : Nat) : Int) = tear then stP (crashPc keep tear k i pc l) p.1 k p.2 else if keepB keep (i + l.length) then stP (crashPc keep tear k i pc l) p.1 512 p.2 else crashPc keep tear k i pc l
  | [], i, pc => rfl
  | q :: l, i, pc => by
    rw [List.cons_append, crashPc_congr, crashPc_congr, crashPc_snoc (l := l) (i := i + 1), List.length_cons, show i + 1 + l.length = i + (l.length + 1) by omega]
def pdX (pend : List (Nat × (Nat → Int))) (x : Nat) : Nat → Int := (pend.getD x (0, fun _ => 0)).2
def mineL (keep : List Int) (tear : Int) (pend : List (Nat × (Nat → Int))) (s : Nat) : Nat → List Nat
  | 0 => []
  | i + 1 => if (pend.getD i (0, fun _ => 0)).1 = s ∧ chosenB keep tear i = true then i :: mineL keep tear pend s i else mineL keep tear pend s i
def underW (pcs : Nat → Int) (pend : List (Nat × (Nat → Int))) : List Nat → Nat → Int
  | [] => pcs
  | y :: _ => pdX pend y
def wantW (pcs : Nat → Int) (pend : List (Nat × (Nat → Int))) (tear : Int) (k : Nat) : List Nat → Nat → Int
  | [] => pcs
  | x :: r => if (x : Int) = tear then fun j => if j < k then pdX pend x j else underW pcs pend r j else pdX pend x
theorem wantW_cons {pcs : Nat → Int} {pend : List (Nat × (Nat → Int))} {tear : Int} {k x : Nat} {r : List Nat} : wantW pcs pend tear k (x :: r) = if (x : Int) = tear then fun j => if j < k then pdX pend x j else underW pcs pend r j else pdX pend x := rfl
theorem mineL_lt {keep : List Int} {tear : Int} {pend : List (Nat × (Nat → Int))} {s : Nat} : ∀ {i x : Nat}, x ∈ mineL keep tear pend s i → x < i
  | 0, x, h => by cases h
  | i + 1, x, h => by
    unfold mineL at h
    split at h
    · rcases List.mem_cons.1 h with rfl | h
      · omega
      · have := mineL_lt h; omega
    · have := mineL_lt h; omega
theorem mineL_len {keep : List Int} {tear : Int} {pend : List (Nat × (Nat → Int))} {s : Nat} : ∀ {i : Nat}, (mineL keep tear pend s i).length ≤ i
  | 0 => Nat.le_refl _
  | i + 1 => by
    have := mineL_len (keep := keep) (tear := tear) (pend := pend) (s := s) (i := i)
    unfold mineL
    split
    · rw [List.length_cons]; omega
    · omega
theorem crash_want {keep : List Int} {tear : Int} {k s : Nat} {pc : Nat → Nat → Int} {pend : List (Nat × (Nat → Int))} : ∀ {i : Nat}, i ≤ pend.length → ∀ j, j < 512 → crashPc keep tear k 0 pc (pend.take i) s j = wantW (pc s) pend tear k (mineL keep tear pend s i) j
  | 0, _, j, _ => rfl
  | i + 1, hi, j, hj => by
    have ih := crash_want (keep := keep) (tear := tear) (k := k) (s := s) (pc := pc) (pend := pend) (i := i) (by omega) j hj
    obtain ⟨p, hp⟩ : ∃ p, pend[i]? = some p := ⟨_, List.getElem?_eq_getElem (by omega)⟩
    have hg : pend.getD i (0, fun _ => 0) = p := by rw [List.getD_eq_getElem?_getD, hp]; rfl
    have hx : pdX pend i = p.2 := by unfold pdX; rw [hg]
    have hlen : (pend.take i).length = i := by rw [List.length_take]; omega
    rw [List.take_add_one, hp]
    show crashPc keep tear k 0 pc (pend.take i ++ [p]) s j = _
    rw [crashPc_snoc, hlen, Nat.zero_add]
    unfold mineL
    rw [hg]
    by_cases hps : p.1 = s
    · by_cases ht : (i : Int) = tear
      · rw [if_pos ht, if_pos ⟨hps, by simp [chosenB, ht]⟩]
        rw [wantW_cons, if_pos ht, hx]
        unfold stP
        by_cases hjk : j < k
        · rw [if_pos ⟨hps.symm, hjk⟩]; simp [hjk]
        · rw [if_neg (fun h => hjk h.2), ih]
          simp only [hjk, if_false]
          cases hm : mineL keep tear pend s i with
          | nil => rfl
          | cons y r =>
            have hy : y < i := mineL_lt (by rw [hm]; exact List.mem_cons_self)
            rw [wantW_cons, if_neg (by omega)]; rfl
      · rw [if_neg ht]
        by_cases hk : keepB keep i = true
        · rw [if_pos hk, if_pos ⟨hps, by simp [chosenB, hk]⟩]
          rw [wantW_cons, if_neg ht, hx]
          unfold stP
          rw [if_pos ⟨hps.symm, hj⟩]
        · rw [if_neg hk, if_neg (by intro h; simp [chosenB, ht, hk] at h), ih]
    · have em : (if p.1 = s ∧ chosenB keep tear i = true then i :: mineL keep tear pend s i else mineL keep tear pend s i) = mineL keep tear pend s i := if_neg (fun h => hps h.1)
      rw [em]
      have e : ∀ kk c, stP c p.1 kk p.2 s j = c s j := fun kk c => by unfold stP; rw [if_neg (fun h => hps h.1.symm)]
      split
      · rw [e, ih]
      · split
        · rw [e, ih]
        · exact ih
end Go.Proofs.Qxb6500837aDoor

