import Derived.Test.Qxb6500841aDoorX18
set_option linter.unusedVariables false
set_option linter.unusedSimpArgs false
set_option maxRecDepth 20000
namespace Go.Proofs.Qxb6500841aDoor
open Go.RowKit Go.E1 Go.Wire
variable {w0 : World} {L : List HI} {w : World} {ET : Nat → TypeId} {EU : Nat → Value}

/-- An operation of the script, but for the sizes. -/
structure OpPre (w0 : World) (kd : Int) (f : FD) (d : SV) (off val : Int) : Prop where
  kr : 0 ≤ kd ∧ kd < 256
  ofr : 0 ≤ off ∧ off < 4294967296
  vr : 0 ≤ val ∧ val < 65536
  fkr : 0 ≤ f.k ∧ f.k < 256
  eb : ∀ i, i < 12 → 0 ≤ f.e i ∧ f.e i < 256
  e12 : 0 ≤ f.e 12 ∧ f.e 12 < 65536
  xr : IpR f.x
  tr : TcpR f.t
  yr : IcR f.y
  zr : IpR f.z
  o1 : f.s1.ok
  o2 : f.s2.ok
  o3 : f.s3.ok
  o4 : f.s4.ok
  o5 : f.s5.ok
  dok : d.ok
  frd : f.rd w0
  drd : d.rd w0

theorem SV.rd_old {s : SV} {l : List HI} {w' : World} (h : s.rd w0) (q : S0 w0 l w') : s.rd w' := fun i hi => q.old (fun h => h) (h i hi)

structure Lens (f : FD) (d : SV) : Prop where
  l1 : f.s1.bs.length ≤ 65536
  l2 : f.s2.bs.length ≤ 65536
  l3 : f.s3.bs.length ≤ 65536
  l4 : f.s4.bs.length ≤ 65536
  l5 : f.s5.bs.length ≤ 65536
  ld : d.bs.length ≤ 65536

theorem OpPre.ok {kd : Int} {f : FD} {d : SV} {off val : Int} (h : OpPre w0 kd f d off val) (hl : Lens f d) : OpOk w0 kd f d off val :=
  ⟨h.kr, h.ofr, h.vr, ⟨h.fkr, h.eb, h.e12, h.xr, h.tr, h.yr, h.zr, h.o1, h.o2, h.o3, h.o4, h.o5, by have := hl.l1; omega, by have := hl.l2; omega, by have := hl.l3; omega, by have := hl.l4; omega, by have := hl.l5; omega⟩, h.dok,
    fun l w' q => ⟨SV.rd_old h.frd.d1 q, SV.rd_old h.frd.d2 q, SV.rd_old h.frd.d3 q, SV.rd_old h.frd.d4 q, SV.rd_old h.frd.d5 q⟩, fun l w' q => SV.rd_old h.drd q, hl.l1, hl.l2, hl.l3, hl.l4, hl.l5, hl.ld⟩

/-- The script. -/
structure Scr (w0 : World) (sb so n : Nat) (kd : Nat → Int) (f : Nat → FD) (d : Nat → SV) (off val : Nat → Int) : Prop where
  cell : ∀ i, i < n → ∀ k, k < 68 → w0.cell? ⟨sb, so + i * 68 + k, none⟩ = some (nth (opC (kd i) (f i) (d i).v (off i) (val i)) k)
  pre : ∀ i, i < n → OpPre w0 (kd i) (f i) (d i) (off i) (val i)

def dsum (d : Nat → SV) : Nat → Nat
  | 0 => 0
  | i + 1 => dsum d i + (d i).bs.length
theorem dsum_mono (d : Nat → SV) : ∀ {i j : Nat}, i ≤ j → dsum d i ≤ dsum d j := fun {i j} h => by
  induction j with
  | zero => rw [show i = 0 by omega]; exact Nat.le_refl _
  | succ j ih =>
    by_cases hij : i = j + 1
    · rw [hij]; exact Nat.le_refl _
    · have := ih (by omega)
      simp only [dsum]; omega

set_option maxHeartbeats 8000000 in
theorem zzSmall1_ok (a : Option Addr) (sb so n c : Nat) (kd : Nat → Int) (f : Nat → FD) (d : Nat → SV) (off val : Nat → Int) (hS : Scr w0 sb so n kd f d off val) (hn63 : n ≤ 140737488355328) (hlb : ∀ i, i < n → (f i).s1.bs.length ≤ 140737488355328 ∧ (f i).s2.bs.length ≤ 140737488355328 ∧ (f i).s3.bs.length ≤ 140737488355328 ∧ (f i).s4.bs.length ≤ 140737488355328 ∧ (f i).s5.bs.length ≤ 140737488355328 ∧ (d i).bs.length ≤ 140737488355328) (ha : 0 < n → a = some ⟨sb, so, none⟩) (st : S0 w0 L w) :
    Calls Tryd.prog 7 #[.slice a n c] w (Ret fun v w' => ∃ t, v = .bool t ∧ (t = true → n ≤ 65536 ∧ dsum d n ≤ 65536 ∧ ∀ i, i < n → Lens (f i) (d i)) ∧ S0 w0 L w') := by
  by_cases hn : 65536 < n
  · skip
    refine enter [.slice a n c] Tryd.func7 rfl Tryd.ntmps7 rfl ?_
    show WC _ _ _ 84 [] [(0, .slice a n c)] _
    refine WC.seq fun K976 hK976 => ?_
    -- region 0
    refine WC.region ?_
    -- R0.0 2 := zzsize.go:10 assign
    refine WL.v (by first | exact r_assign (v := .bool _) rfl | exact r_assign rfl) rfl rfl rfl ?_
    refine WL.fin hK976 (fun _ _ h => h) ?_
    refine WC.seq fun K977 hK977 => ?_
    -- region 1
    refine WC.region ?_
    -- R1.0 5 := zzsize.go:11 move
    refine WL.v (by first | exact r_move (v := .slice _ _ _) rfl | exact r_move rfl) rfl rfl rfl ?_
    -- R1.1 6 := zzsize.go:11 call
    refine WL.v (by exact r_len ty_usl22 rfl) rfl rfl rfl ?_
    -- R1.2 3 := zzsize.go:11 assign
    refine WL.v (by first | exact r_assign (v := .int _ _) rfl | exact r_assign rfl) rfl rfl rfl ?_
    refine WL.fin hK977 (fun _ _ h => h) ?_
    refine WC.seq fun K978 hK978 => ?_
    refine WC.seq fun K979 hK979 => ?_
    -- region 2
    refine WC.region ?_
    -- R2.0 7 := zzsize.go:12 move
    refine WL.v (by first | exact r_move (v := .int _ _) rfl | exact r_move rfl) rfl rfl rfl ?_
    -- R2.1 8 := zzsize.go:12 binOp
    refine WL.v (by first | exact r_gtr rfl rfl (decide_eq_true (by omega)) | exact r_gtr rfl rfl (decide_eq_false (by omega)) | exact r_gtr rfl rfl rfl) rfl rfl rfl ?_
    refine WL.fin hK979 (fun _ _ h => h) ?_
    refine WC.condT rfl rfl ?_
    refine WC.seq fun K980 hK980 => ?_
    -- region 3
    refine WC.region ?_
    -- R3.0 2 := zzsize.go:13 assign
    refine WL.v (by first | exact r_assign (v := .bool _) rfl | exact r_assign rfl) rfl rfl rfl ?_
    refine WL.fin hK980 (fun _ _ h => h) ?_
    refine WC.ret1 Tryd.results7 (fun _ _ h => h) rfl ?_
    exact ⟨_, rfl, false, rfl, (fun h => absurd h (by decide)), st⟩
  refine enter [.slice a n c] Tryd.func7 rfl Tryd.ntmps7 rfl ?_
  show WC _ _ _ 84 [] [(0, .slice a n c)] _
  refine WC.seq fun K981 hK981 => ?_
  -- region 0
  refine WC.region ?_
  -- R0.0 2 := zzsize.go:10 assign
  refine WL.v (by first | exact r_assign (v := .bool _) rfl | exact r_assign rfl) rfl rfl rfl ?_
  refine WL.fin hK981 (fun _ _ h => h) ?_
  refine WC.seq fun K982 hK982 => ?_
  -- region 1
  refine WC.region ?_
  -- R1.0 5 := zzsize.go:11 move
  refine WL.v (by first | exact r_move (v := .slice _ _ _) rfl | exact r_move rfl) rfl rfl rfl ?_
  -- R1.1 6 := zzsize.go:11 call
  refine WL.v (by exact r_len ty_usl22 rfl) rfl rfl rfl ?_
  -- R1.2 3 := zzsize.go:11 assign
  refine WL.v (by first | exact r_assign (v := .int _ _) rfl | exact r_assign rfl) rfl rfl rfl ?_
  refine WL.fin hK982 (fun _ _ h => h) ?_
  refine WC.seq fun K983 hK983 => ?_
  refine WC.seq fun K984 hK984 => ?_
  -- region 2
  refine WC.region ?_
  -- R2.0 7 := zzsize.go:12 move
  refine WL.v (by first | exact r_move (v := .int _ _) rfl | exact r_move rfl) rfl rfl rfl ?_
  -- R2.1 8 := zzsize.go:12 binOp
  refine WL.v (by first | exact r_gtr rfl rfl (decide_eq_true (by omega)) | exact r_gtr rfl rfl (decide_eq_false (by omega)) | exact r_gtr rfl rfl rfl) rfl rfl rfl ?_
  refine WL.fin hK984 (fun _ _ h => h) ?_
  refine WC.condF rfl rfl ?_
  refine WC.skipF hK983 (fun _ _ h => h) ?_
  refine WC.seq fun K985 hK985 => ?_
  refine WC.seq fun K986 hK986 => ?_
  -- region 4
  refine WC.region ?_
  -- R4.0 4 := zzsize.go:15 assign
  refine WL.v (by first | exact r_assign (v := .int _ _) rfl | exact r_assign rfl) rfl rfl rfl ?_
  refine WL.fin hK986 (fun _ _ h => h) ?_
  refine WC.block ?_
  refine WC.loop (ι := Nat × Nat) (fun z => [(0, .slice a n c), (3, .int .i64 (z.2 : Nat)), (4, .int .i64 (z.1 : Nat))]) (fun z w' => S0 w0 L w' ∧ z.1 ≤ n ∧ z.2 ≤ 65536 ∧ dsum d z.1 ≤ z.2 ∧ ∀ j, j < z.1 → Lens (f j) (d j)) (fun z => n - z.1)
    (0, n) ⟨st, Nat.zero_le _, by show n ≤ 65536; omega, Nat.zero_le _, fun j hj => absurd hj (Nat.not_lt_zero _)⟩ ?_ ?_
  · skip
    repeat (first | exact sub_nil _ | refine sub_cons rfl rfl ?_)
  rintro ⟨i, s⟩ w ⟨st, hi, hsm, hds, hl⟩ K1 hK1
  simp only at st hi hsm hds hl hK1 ⊢
  by_cases hlt : ¬ i < n
  · obtain rfl : i = n := by omega
    refine WC.seq fun K987 hK987 => ?_
    refine WC.seq fun K988 hK988 => ?_
    -- region 5
    refine WC.region ?_
    -- R5.0 9 := zzsize.go:15 move
    refine WL.v (by first | exact r_move (v := .int _ _) rfl | exact r_move rfl) rfl rfl rfl ?_
    -- R5.1 10 := zzsize.go:15 move
    refine WL.v (by first | exact r_move (v := .slice _ _ _) rfl | exact r_move rfl) rfl rfl rfl ?_
    -- R5.2 11 := zzsize.go:15 call
    refine WL.v (by exact r_len ty_usl22 rfl) rfl rfl rfl ?_
    -- R5.3 12 := zzsize.go:15 binOp
    refine WL.v (by first | exact r_lss rfl rfl (decide_eq_true (by omega)) | exact r_lss rfl rfl (decide_eq_false (by omega)) | exact r_lss rfl rfl rfl) rfl rfl rfl ?_
    refine WL.fin hK988 (fun _ _ h => h) ?_
    refine WC.condF rfl rfl ?_
    refine WC.exitF hK985 (fun _ _ h => h) ?_
    refine WC.seq fun K989 hK989 => ?_
    -- region 25
    refine WC.region ?_
    -- R25.0 2 := zzsize.go:41 assign
    refine WL.v (by first | exact r_assign (v := .bool _) rfl | exact r_assign rfl) rfl rfl rfl ?_
    refine WL.fin hK989 (fun _ _ h => h) ?_
    refine WC.ret1 Tryd.results7 (fun _ _ h => h) rfl ?_
    exact ⟨_, rfl, true, rfl, fun _ => ⟨by omega, by omega, hl⟩, st⟩
  have hlt : i < n := by omega
  obtain rfl := ha (by omega)
  obtain ⟨q1, q2, q3, q4, q5, q6⟩ := hlb i hlt
  by_cases c0 : 65536 < s + (f i).s1.bs.length
  · skip
    refine WC.seq fun K990 hK990 => ?_
    refine WC.seq fun K991 hK991 => ?_
    -- region 5
    refine WC.region ?_
    -- R5.0 9 := zzsize.go:15 move
    refine WL.v (by first | exact r_move (v := .int _ _) rfl | exact r_move rfl) rfl rfl rfl ?_
    -- R5.1 10 := zzsize.go:15 move
    refine WL.v (by first | exact r_move (v := .slice _ _ _) rfl | exact r_move rfl) rfl rfl rfl ?_
    -- R5.2 11 := zzsize.go:15 call
    refine WL.v (by exact r_len ty_usl22 rfl) rfl rfl rfl ?_
    -- R5.3 12 := zzsize.go:15 binOp
    refine WL.v (by first | exact r_lss rfl rfl (decide_eq_true (by omega)) | exact r_lss rfl rfl (decide_eq_false (by omega)) | exact r_lss rfl rfl rfl) rfl rfl rfl ?_
    refine WL.fin hK991 (fun _ _ h => h) ?_
    refine WC.condT rfl rfl ?_
    refine WC.skipF hK990 (fun _ _ h => h) ?_
    refine WC.seq fun K992 hK992 => ?_
    refine WC.block ?_
    refine WC.seq fun K993 hK993 => ?_
    -- region 7
    refine WC.region ?_
    -- R7.0 15 := zzsize.go:16 move
    refine WL.v (by first | exact r_move (v := .int _ _) rfl | exact r_move rfl) rfl rfl rfl ?_
    -- R7.1 16 := zzsize.go:16 move
    refine WL.v (by first | exact r_move (v := .slice _ _ _) rfl | exact r_move rfl) rfl rfl rfl ?_
    -- R7.2 17 := zzsize.go:16 move
    refine WL.v (by first | exact r_move (v := .int _ _) rfl | exact r_move rfl) rfl rfl rfl ?_
    -- R7.3 18 := zzsize.go:16 indexAddr
    refine WL.v (by exact r_indexS ty_sl22 rfl rfl rfl (by omega)) rfl rfl rfl ?_
    -- R7.4 19 := zzsize.go:16 fieldAddr
    refine WL.v (by exact r_field ty_fld45_1 rfl) rfl rfl rfl ?_
    -- R7.5 20 := zzsize.go:16 fieldAddr
    refine WL.v (by exact r_field ty_fld43_2 rfl) rfl rfl rfl ?_
    -- R7.6 21 := zzsize.go:16 fieldAddr
    refine WL.v (by exact r_field ty_fld36_10 rfl) rfl rfl rfl ?_
    -- R7.7 22 := zzsize.go:16 load
    refine WL.v (by exact r_load1 ty_one25 rfl (st.old (fun h => h) (hS.cell i hlt 31 (by decide)))) rfl rfl rfl ?_
    -- R7.8 23 := zzsize.go:16 call
    refine WL.v (by exact r_len ty_usl25 rfl) rfl rfl rfl ?_
    -- R7.9 24 := zzsize.go:16 binOp
    refine WL.v (by exact r_add (r := ((s + (f i).s1.bs.length : Nat) : Int)) rfl rfl (by rw [wi64 (by omega) (by omega)]; omega)) rfl rfl rfl ?_
    -- R7.10 3 := zzsize.go:16 assign
    refine WL.v (by first | exact r_assign (v := .int _ _) rfl | exact r_assign rfl) rfl rfl rfl ?_
    refine WL.fin hK993 (fun _ _ h => h) ?_
    refine WC.seq fun K994 hK994 => ?_
    refine WC.seq fun K995 hK995 => ?_
    -- region 8
    refine WC.region ?_
    -- R8.0 25 := zzsize.go:17 move
    refine WL.v (by first | exact r_move (v := .int _ _) rfl | exact r_move rfl) rfl rfl rfl ?_
    -- R8.1 26 := zzsize.go:17 binOp
    refine WL.v (by first | exact r_gtr rfl rfl (decide_eq_true (by omega)) | exact r_gtr rfl rfl (decide_eq_false (by omega)) | exact r_gtr rfl rfl rfl) rfl rfl rfl ?_
    refine WL.fin hK995 (fun _ _ h => h) ?_
    refine WC.condT rfl rfl ?_
    refine WC.seq fun K996 hK996 => ?_
    -- region 9
    refine WC.region ?_
    -- R9.0 2 := zzsize.go:18 assign
    refine WL.v (by first | exact r_assign (v := .bool _) rfl | exact r_assign rfl) rfl rfl rfl ?_
    refine WL.fin hK996 (fun _ _ h => h) ?_
    refine WC.ret1 Tryd.results7 (fun _ _ h => h) rfl ?_
    exact ⟨_, rfl, false, rfl, (fun h => absurd h (by decide)), st⟩
  by_cases c1 : 65536 < s + (f i).s1.bs.length + (f i).s2.bs.length
  · skip
    refine WC.seq fun K997 hK997 => ?_
    refine WC.seq fun K998 hK998 => ?_
    -- region 5
    refine WC.region ?_
    -- R5.0 9 := zzsize.go:15 move
    refine WL.v (by first | exact r_move (v := .int _ _) rfl | exact r_move rfl) rfl rfl rfl ?_
    -- R5.1 10 := zzsize.go:15 move
    refine WL.v (by first | exact r_move (v := .slice _ _ _) rfl | exact r_move rfl) rfl rfl rfl ?_
    -- R5.2 11 := zzsize.go:15 call
    refine WL.v (by exact r_len ty_usl22 rfl) rfl rfl rfl ?_
    -- R5.3 12 := zzsize.go:15 binOp
    refine WL.v (by first | exact r_lss rfl rfl (decide_eq_true (by omega)) | exact r_lss rfl rfl (decide_eq_false (by omega)) | exact r_lss rfl rfl rfl) rfl rfl rfl ?_
    refine WL.fin hK998 (fun _ _ h => h) ?_
    refine WC.condT rfl rfl ?_
    refine WC.skipF hK997 (fun _ _ h => h) ?_
    refine WC.seq fun K999 hK999 => ?_
    refine WC.block ?_
    refine WC.seq fun K1000 hK1000 => ?_
    -- region 7
    refine WC.region ?_
    -- R7.0 15 := zzsize.go:16 move
    refine WL.v (by first | exact r_move (v := .int _ _) rfl | exact r_move rfl) rfl rfl rfl ?_
    -- R7.1 16 := zzsize.go:16 move
    refine WL.v (by first | exact r_move (v := .slice _ _ _) rfl | exact r_move rfl) rfl rfl rfl ?_
    -- R7.2 17 := zzsize.go:16 move
    refine WL.v (by first | exact r_move (v := .int _ _) rfl | exact r_move rfl) rfl rfl rfl ?_
    -- R7.3 18 := zzsize.go:16 indexAddr
    refine WL.v (by exact r_indexS ty_sl22 rfl rfl rfl (by omega)) rfl rfl rfl ?_
    -- R7.4 19 := zzsize.go:16 fieldAddr
    refine WL.v (by exact r_field ty_fld45_1 rfl) rfl rfl rfl ?_
    -- R7.5 20 := zzsize.go:16 fieldAddr
    refine WL.v (by exact r_field ty_fld43_2 rfl) rfl rfl rfl ?_
    -- R7.6 21 := zzsize.go:16 fieldAddr
    refine WL.v (by exact r_field ty_fld36_10 rfl) rfl rfl rfl ?_
    -- R7.7 22 := zzsize.go:16 load
    refine WL.v (by exact r_load1 ty_one25 rfl (st.old (fun h => h) (hS.cell i hlt 31 (by decide)))) rfl rfl rfl ?_
    -- R7.8 23 := zzsize.go:16 call
    refine WL.v (by exact r_len ty_usl25 rfl) rfl rfl rfl ?_
    -- R7.9 24 := zzsize.go:16 binOp
    refine WL.v (by exact r_add (r := ((s + (f i).s1.bs.length : Nat) : Int)) rfl rfl (by rw [wi64 (by omega) (by omega)]; omega)) rfl rfl rfl ?_
    -- R7.10 3 := zzsize.go:16 assign
    refine WL.v (by first | exact r_assign (v := .int _ _) rfl | exact r_assign rfl) rfl rfl rfl ?_
    refine WL.fin hK1000 (fun _ _ h => h) ?_
    refine WC.seq fun K1001 hK1001 => ?_
    refine WC.seq fun K1002 hK1002 => ?_
    -- region 8
    refine WC.region ?_
    -- R8.0 25 := zzsize.go:17 move
    refine WL.v (by first | exact r_move (v := .int _ _) rfl | exact r_move rfl) rfl rfl rfl ?_
    -- R8.1 26 := zzsize.go:17 binOp
    refine WL.v (by first | exact r_gtr rfl rfl (decide_eq_true (by omega)) | exact r_gtr rfl rfl (decide_eq_false (by omega)) | exact r_gtr rfl rfl rfl) rfl rfl rfl ?_
    refine WL.fin hK1002 (fun _ _ h => h) ?_
    refine WC.condF rfl rfl ?_
    refine WC.skipF hK1001 (fun _ _ h => h) ?_
    refine WC.seq fun K1003 hK1003 => ?_
    -- region 10
    refine WC.region ?_
    -- R10.0 27 := zzsize.go:20 move
    refine WL.v (by first | exact r_move (v := .int _ _) rfl | exact r_move rfl) rfl rfl rfl ?_
    -- R10.1 28 := zzsize.go:20 move
    refine WL.v (by first | exact r_move (v := .slice _ _ _) rfl | exact r_move rfl) rfl rfl rfl ?_
    -- R10.2 29 := zzsize.go:20 move
    refine WL.v (by first | exact r_move (v := .int _ _) rfl | exact r_move rfl) rfl rfl rfl ?_
    -- R10.3 30 := zzsize.go:20 indexAddr
    refine WL.v (by exact r_indexS ty_sl22 rfl rfl rfl (by omega)) rfl rfl rfl ?_
    -- R10.4 31 := zzsize.go:20 fieldAddr
    refine WL.v (by exact r_field ty_fld45_1 rfl) rfl rfl rfl ?_
    -- R10.5 32 := zzsize.go:20 fieldAddr
    refine WL.v (by exact r_field ty_fld43_3 rfl) rfl rfl rfl ?_
    -- R10.6 33 := zzsize.go:20 fieldAddr
    refine WL.v (by exact r_field ty_fld39_9 rfl) rfl rfl rfl ?_
    -- R10.7 34 := zzsize.go:20 load
    refine WL.v (by exact r_load1 ty_one25 rfl (st.old (fun h => h) (hS.cell i hlt 41 (by decide)))) rfl rfl rfl ?_
    -- R10.8 35 := zzsize.go:20 call
    refine WL.v (by exact r_len ty_usl25 rfl) rfl rfl rfl ?_
    -- R10.9 36 := zzsize.go:20 binOp
    refine WL.v (by exact r_add (r := ((s + (f i).s1.bs.length + (f i).s2.bs.length : Nat) : Int)) rfl rfl (by rw [wi64 (by omega) (by omega)]; omega)) rfl rfl rfl ?_
    -- R10.10 3 := zzsize.go:20 assign
    refine WL.v (by first | exact r_assign (v := .int _ _) rfl | exact r_assign rfl) rfl rfl rfl ?_
    refine WL.fin hK1003 (fun _ _ h => h) ?_
    refine WC.seq fun K1004 hK1004 => ?_
    refine WC.seq fun K1005 hK1005 => ?_
    -- region 11
    refine WC.region ?_
    -- R11.0 37 := zzsize.go:21 move
    refine WL.v (by first | exact r_move (v := .int _ _) rfl | exact r_move rfl) rfl rfl rfl ?_
    -- R11.1 38 := zzsize.go:21 binOp
    refine WL.v (by first | exact r_gtr rfl rfl (decide_eq_true (by omega)) | exact r_gtr rfl rfl (decide_eq_false (by omega)) | exact r_gtr rfl rfl rfl) rfl rfl rfl ?_
    refine WL.fin hK1005 (fun _ _ h => h) ?_
    refine WC.condT rfl rfl ?_
    refine WC.seq fun K1006 hK1006 => ?_
    -- region 12
    refine WC.region ?_
    -- R12.0 2 := zzsize.go:22 assign
    refine WL.v (by first | exact r_assign (v := .bool _) rfl | exact r_assign rfl) rfl rfl rfl ?_
    refine WL.fin hK1006 (fun _ _ h => h) ?_
    refine WC.ret1 Tryd.results7 (fun _ _ h => h) rfl ?_
    exact ⟨_, rfl, false, rfl, (fun h => absurd h (by decide)), st⟩
  by_cases c2 : 65536 < s + (f i).s1.bs.length + (f i).s2.bs.length + (f i).s3.bs.length
  · skip
    refine WC.seq fun K1007 hK1007 => ?_
    refine WC.seq fun K1008 hK1008 => ?_
    -- region 5
    refine WC.region ?_
    -- R5.0 9 := zzsize.go:15 move
    refine WL.v (by first | exact r_move (v := .int _ _) rfl | exact r_move rfl) rfl rfl rfl ?_
    -- R5.1 10 := zzsize.go:15 move
    refine WL.v (by first | exact r_move (v := .slice _ _ _) rfl | exact r_move rfl) rfl rfl rfl ?_
    -- R5.2 11 := zzsize.go:15 call
    refine WL.v (by exact r_len ty_usl22 rfl) rfl rfl rfl ?_
    -- R5.3 12 := zzsize.go:15 binOp
    refine WL.v (by first | exact r_lss rfl rfl (decide_eq_true (by omega)) | exact r_lss rfl rfl (decide_eq_false (by omega)) | exact r_lss rfl rfl rfl) rfl rfl rfl ?_
    refine WL.fin hK1008 (fun _ _ h => h) ?_
    refine WC.condT rfl rfl ?_
    refine WC.skipF hK1007 (fun _ _ h => h) ?_
    refine WC.seq fun K1009 hK1009 => ?_
    refine WC.block ?_
    refine WC.seq fun K1010 hK1010 => ?_
    -- region 7
    refine WC.region ?_
    -- R7.0 15 := zzsize.go:16 move
    refine WL.v (by first | exact r_move (v := .int _ _) rfl | exact r_move rfl) rfl rfl rfl ?_
    -- R7.1 16 := zzsize.go:16 move
    refine WL.v (by first | exact r_move (v := .slice _ _ _) rfl | exact r_move rfl) rfl rfl rfl ?_
    -- R7.2 17 := zzsize.go:16 move
    refine WL.v (by first | exact r_move (v := .int _ _) rfl | exact r_move rfl) rfl rfl rfl ?_
    -- R7.3 18 := zzsize.go:16 indexAddr
    refine WL.v (by exact r_indexS ty_sl22 rfl rfl rfl (by omega)) rfl rfl rfl ?_
    -- R7.4 19 := zzsize.go:16 fieldAddr
    refine WL.v (by exact r_field ty_fld45_1 rfl) rfl rfl rfl ?_
    -- R7.5 20 := zzsize.go:16 fieldAddr
    refine WL.v (by exact r_field ty_fld43_2 rfl) rfl rfl rfl ?_
    -- R7.6 21 := zzsize.go:16 fieldAddr
    refine WL.v (by exact r_field ty_fld36_10 rfl) rfl rfl rfl ?_
    -- R7.7 22 := zzsize.go:16 load
    refine WL.v (by exact r_load1 ty_one25 rfl (st.old (fun h => h) (hS.cell i hlt 31 (by decide)))) rfl rfl rfl ?_
    -- R7.8 23 := zzsize.go:16 call
    refine WL.v (by exact r_len ty_usl25 rfl) rfl rfl rfl ?_
    -- R7.9 24 := zzsize.go:16 binOp
    refine WL.v (by exact r_add (r := ((s + (f i).s1.bs.length : Nat) : Int)) rfl rfl (by rw [wi64 (by omega) (by omega)]; omega)) rfl rfl rfl ?_
    -- R7.10 3 := zzsize.go:16 assign
    refine WL.v (by first | exact r_assign (v := .int _ _) rfl | exact r_assign rfl) rfl rfl rfl ?_
    refine WL.fin hK1010 (fun _ _ h => h) ?_
    refine WC.seq fun K1011 hK1011 => ?_
    refine WC.seq fun K1012 hK1012 => ?_
    -- region 8
    refine WC.region ?_
    -- R8.0 25 := zzsize.go:17 move
    refine WL.v (by first | exact r_move (v := .int _ _) rfl | exact r_move rfl) rfl rfl rfl ?_
    -- R8.1 26 := zzsize.go:17 binOp
    refine WL.v (by first | exact r_gtr rfl rfl (decide_eq_true (by omega)) | exact r_gtr rfl rfl (decide_eq_false (by omega)) | exact r_gtr rfl rfl rfl) rfl rfl rfl ?_
    refine WL.fin hK1012 (fun _ _ h => h) ?_
    refine WC.condF rfl rfl ?_
    refine WC.skipF hK1011 (fun _ _ h => h) ?_
    refine WC.seq fun K1013 hK1013 => ?_
    -- region 10
    refine WC.region ?_
    -- R10.0 27 := zzsize.go:20 move
    refine WL.v (by first | exact r_move (v := .int _ _) rfl | exact r_move rfl) rfl rfl rfl ?_
    -- R10.1 28 := zzsize.go:20 move
    refine WL.v (by first | exact r_move (v := .slice _ _ _) rfl | exact r_move rfl) rfl rfl rfl ?_
    -- R10.2 29 := zzsize.go:20 move
    refine WL.v (by first | exact r_move (v := .int _ _) rfl | exact r_move rfl) rfl rfl rfl ?_
    -- R10.3 30 := zzsize.go:20 indexAddr
    refine WL.v (by exact r_indexS ty_sl22 rfl rfl rfl (by omega)) rfl rfl rfl ?_
    -- R10.4 31 := zzsize.go:20 fieldAddr
    refine WL.v (by exact r_field ty_fld45_1 rfl) rfl rfl rfl ?_
    -- R10.5 32 := zzsize.go:20 fieldAddr
    refine WL.v (by exact r_field ty_fld43_3 rfl) rfl rfl rfl ?_
    -- R10.6 33 := zzsize.go:20 fieldAddr
    refine WL.v (by exact r_field ty_fld39_9 rfl) rfl rfl rfl ?_
    -- R10.7 34 := zzsize.go:20 load
    refine WL.v (by exact r_load1 ty_one25 rfl (st.old (fun h => h) (hS.cell i hlt 41 (by decide)))) rfl rfl rfl ?_
    -- R10.8 35 := zzsize.go:20 call
    refine WL.v (by exact r_len ty_usl25 rfl) rfl rfl rfl ?_
    -- R10.9 36 := zzsize.go:20 binOp
    refine WL.v (by exact r_add (r := ((s + (f i).s1.bs.length + (f i).s2.bs.length : Nat) : Int)) rfl rfl (by rw [wi64 (by omega) (by omega)]; omega)) rfl rfl rfl ?_
    -- R10.10 3 := zzsize.go:20 assign
    refine WL.v (by first | exact r_assign (v := .int _ _) rfl | exact r_assign rfl) rfl rfl rfl ?_
    refine WL.fin hK1013 (fun _ _ h => h) ?_
    refine WC.seq fun K1014 hK1014 => ?_
    refine WC.seq fun K1015 hK1015 => ?_
    -- region 11
    refine WC.region ?_
    -- R11.0 37 := zzsize.go:21 move
    refine WL.v (by first | exact r_move (v := .int _ _) rfl | exact r_move rfl) rfl rfl rfl ?_
    -- R11.1 38 := zzsize.go:21 binOp
    refine WL.v (by first | exact r_gtr rfl rfl (decide_eq_true (by omega)) | exact r_gtr rfl rfl (decide_eq_false (by omega)) | exact r_gtr rfl rfl rfl) rfl rfl rfl ?_
    refine WL.fin hK1015 (fun _ _ h => h) ?_
    refine WC.condF rfl rfl ?_
    refine WC.skipF hK1014 (fun _ _ h => h) ?_
    refine WC.seq fun K1016 hK1016 => ?_
    -- region 13
    refine WC.region ?_
    -- R13.0 39 := zzsize.go:24 move
    refine WL.v (by first | exact r_move (v := .int _ _) rfl | exact r_move rfl) rfl rfl rfl ?_
    -- R13.1 40 := zzsize.go:24 move
    refine WL.v (by first | exact r_move (v := .slice _ _ _) rfl | exact r_move rfl) rfl rfl rfl ?_
    -- R13.2 41 := zzsize.go:24 move
    refine WL.v (by first | exact r_move (v := .int _ _) rfl | exact r_move rfl) rfl rfl rfl ?_
    -- R13.3 42 := zzsize.go:24 indexAddr
    refine WL.v (by exact r_indexS ty_sl22 rfl rfl rfl (by omega)) rfl rfl rfl ?_
    -- R13.4 43 := zzsize.go:24 fieldAddr
    refine WL.v (by exact r_field ty_fld45_1 rfl) rfl rfl rfl ?_
    -- R13.5 44 := zzsize.go:24 fieldAddr
    refine WL.v (by exact r_field ty_fld43_4 rfl) rfl rfl rfl ?_
    -- R13.6 45 := zzsize.go:24 fieldAddr
    refine WL.v (by exact r_field ty_fld41_4 rfl) rfl rfl rfl ?_
    -- R13.7 46 := zzsize.go:24 fieldAddr
    refine WL.v (by exact r_field ty_fld36_10 rfl) rfl rfl rfl ?_
    -- R13.8 47 := zzsize.go:24 load
    refine WL.v (by exact r_load1 ty_one25 rfl (st.old (fun h => h) (hS.cell i hlt 62 (by decide)))) rfl rfl rfl ?_
    -- R13.9 48 := zzsize.go:24 call
    refine WL.v (by exact r_len ty_usl25 rfl) rfl rfl rfl ?_
    -- R13.10 49 := zzsize.go:24 binOp
    refine WL.v (by exact r_add (r := ((s + (f i).s1.bs.length + (f i).s2.bs.length + (f i).s3.bs.length : Nat) : Int)) rfl rfl (by rw [wi64 (by omega) (by omega)]; omega)) rfl rfl rfl ?_
    -- R13.11 3 := zzsize.go:24 assign
    refine WL.v (by first | exact r_assign (v := .int _ _) rfl | exact r_assign rfl) rfl rfl rfl ?_
    refine WL.fin hK1016 (fun _ _ h => h) ?_
    refine WC.seq fun K1017 hK1017 => ?_
    refine WC.seq fun K1018 hK1018 => ?_
    -- region 14
    refine WC.region ?_
    -- R14.0 50 := zzsize.go:25 move
    refine WL.v (by first | exact r_move (v := .int _ _) rfl | exact r_move rfl) rfl rfl rfl ?_
    -- R14.1 51 := zzsize.go:25 binOp
    refine WL.v (by first | exact r_gtr rfl rfl (decide_eq_true (by omega)) | exact r_gtr rfl rfl (decide_eq_false (by omega)) | exact r_gtr rfl rfl rfl) rfl rfl rfl ?_
    refine WL.fin hK1018 (fun _ _ h => h) ?_
    refine WC.condT rfl rfl ?_
    refine WC.seq fun K1019 hK1019 => ?_
    -- region 15
    refine WC.region ?_
    -- R15.0 2 := zzsize.go:26 assign
    refine WL.v (by first | exact r_assign (v := .bool _) rfl | exact r_assign rfl) rfl rfl rfl ?_
    refine WL.fin hK1019 (fun _ _ h => h) ?_
    refine WC.ret1 Tryd.results7 (fun _ _ h => h) rfl ?_
    exact ⟨_, rfl, false, rfl, (fun h => absurd h (by decide)), st⟩
  by_cases c3 : 65536 < s + (f i).s1.bs.length + (f i).s2.bs.length + (f i).s3.bs.length + (f i).s4.bs.length
  · skip
    refine WC.seq fun K1020 hK1020 => ?_
    refine WC.seq fun K1021 hK1021 => ?_
    -- region 5
    refine WC.region ?_
    -- R5.0 9 := zzsize.go:15 move
    refine WL.v (by first | exact r_move (v := .int _ _) rfl | exact r_move rfl) rfl rfl rfl ?_
    -- R5.1 10 := zzsize.go:15 move
    refine WL.v (by first | exact r_move (v := .slice _ _ _) rfl | exact r_move rfl) rfl rfl rfl ?_
    -- R5.2 11 := zzsize.go:15 call
    refine WL.v (by exact r_len ty_usl22 rfl) rfl rfl rfl ?_
    -- R5.3 12 := zzsize.go:15 binOp
    refine WL.v (by first | exact r_lss rfl rfl (decide_eq_true (by omega)) | exact r_lss rfl rfl (decide_eq_false (by omega)) | exact r_lss rfl rfl rfl) rfl rfl rfl ?_
    refine WL.fin hK1021 (fun _ _ h => h) ?_
    refine WC.condT rfl rfl ?_
    refine WC.skipF hK1020 (fun _ _ h => h) ?_
    refine WC.seq fun K1022 hK1022 => ?_
    refine WC.block ?_
    refine WC.seq fun K1023 hK1023 => ?_
    -- region 7
    refine WC.region ?_
    -- R7.0 15 := zzsize.go:16 move
    refine WL.v (by first | exact r_move (v := .int _ _) rfl | exact r_move rfl) rfl rfl rfl ?_
    -- R7.1 16 := zzsize.go:16 move
    refine WL.v (by first | exact r_move (v := .slice _ _ _) rfl | exact r_move rfl) rfl rfl rfl ?_
    -- R7.2 17 := zzsize.go:16 move
    refine WL.v (by first | exact r_move (v := .int _ _) rfl | exact r_move rfl) rfl rfl rfl ?_
    -- R7.3 18 := zzsize.go:16 indexAddr
    refine WL.v (by exact r_indexS ty_sl22 rfl rfl rfl (by omega)) rfl rfl rfl ?_
    -- R7.4 19 := zzsize.go:16 fieldAddr
    refine WL.v (by exact r_field ty_fld45_1 rfl) rfl rfl rfl ?_
    -- R7.5 20 := zzsize.go:16 fieldAddr
    refine WL.v (by exact r_field ty_fld43_2 rfl) rfl rfl rfl ?_
    -- R7.6 21 := zzsize.go:16 fieldAddr
    refine WL.v (by exact r_field ty_fld36_10 rfl) rfl rfl rfl ?_
    -- R7.7 22 := zzsize.go:16 load
    refine WL.v (by exact r_load1 ty_one25 rfl (st.old (fun h => h) (hS.cell i hlt 31 (by decide)))) rfl rfl rfl ?_
    -- R7.8 23 := zzsize.go:16 call
    refine WL.v (by exact r_len ty_usl25 rfl) rfl rfl rfl ?_
    -- R7.9 24 := zzsize.go:16 binOp
    refine WL.v (by exact r_add (r := ((s + (f i).s1.bs.length : Nat) : Int)) rfl rfl (by rw [wi64 (by omega) (by omega)]; omega)) rfl rfl rfl ?_
    -- R7.10 3 := zzsize.go:16 assign
    refine WL.v (by first | exact r_assign (v := .int _ _) rfl | exact r_assign rfl) rfl rfl rfl ?_
    refine WL.fin hK1023 (fun _ _ h => h) ?_
    refine WC.seq fun K1024 hK1024 => ?_
    refine WC.seq fun K1025 hK1025 => ?_
    -- region 8
    refine WC.region ?_
    -- R8.0 25 := zzsize.go:17 move
    refine WL.v (by first | exact r_move (v := .int _ _) rfl | exact r_move rfl) rfl rfl rfl ?_
    -- R8.1 26 := zzsize.go:17 binOp
    refine WL.v (by first | exact r_gtr rfl rfl (decide_eq_true (by omega)) | exact r_gtr rfl rfl (decide_eq_false (by omega)) | exact r_gtr rfl rfl rfl) rfl rfl rfl ?_
    refine WL.fin hK1025 (fun _ _ h => h) ?_
    refine WC.condF rfl rfl ?_
    refine WC.skipF hK1024 (fun _ _ h => h) ?_
    refine WC.seq fun K1026 hK1026 => ?_
    -- region 10
    refine WC.region ?_
    -- R10.0 27 := zzsize.go:20 move
    refine WL.v (by first | exact r_move (v := .int _ _) rfl | exact r_move rfl) rfl rfl rfl ?_
    -- R10.1 28 := zzsize.go:20 move
    refine WL.v (by first | exact r_move (v := .slice _ _ _) rfl | exact r_move rfl) rfl rfl rfl ?_
    -- R10.2 29 := zzsize.go:20 move
    refine WL.v (by first | exact r_move (v := .int _ _) rfl | exact r_move rfl) rfl rfl rfl ?_
    -- R10.3 30 := zzsize.go:20 indexAddr
    refine WL.v (by exact r_indexS ty_sl22 rfl rfl rfl (by omega)) rfl rfl rfl ?_
    -- R10.4 31 := zzsize.go:20 fieldAddr
    refine WL.v (by exact r_field ty_fld45_1 rfl) rfl rfl rfl ?_
    -- R10.5 32 := zzsize.go:20 fieldAddr
    refine WL.v (by exact r_field ty_fld43_3 rfl) rfl rfl rfl ?_
    -- R10.6 33 := zzsize.go:20 fieldAddr
    refine WL.v (by exact r_field ty_fld39_9 rfl) rfl rfl rfl ?_
    -- R10.7 34 := zzsize.go:20 load
    refine WL.v (by exact r_load1 ty_one25 rfl (st.old (fun h => h) (hS.cell i hlt 41 (by decide)))) rfl rfl rfl ?_
    -- R10.8 35 := zzsize.go:20 call
    refine WL.v (by exact r_len ty_usl25 rfl) rfl rfl rfl ?_
    -- R10.9 36 := zzsize.go:20 binOp
    refine WL.v (by exact r_add (r := ((s + (f i).s1.bs.length + (f i).s2.bs.length : Nat) : Int)) rfl rfl (by rw [wi64 (by omega) (by omega)]; omega)) rfl rfl rfl ?_
    -- R10.10 3 := zzsize.go:20 assign
    refine WL.v (by first | exact r_assign (v := .int _ _) rfl | exact r_assign rfl) rfl rfl rfl ?_
    refine WL.fin hK1026 (fun _ _ h => h) ?_
    refine WC.seq fun K1027 hK1027 => ?_
    refine WC.seq fun K1028 hK1028 => ?_
    -- region 11
    refine WC.region ?_
    -- R11.0 37 := zzsize.go:21 move
    refine WL.v (by first | exact r_move (v := .int _ _) rfl | exact r_move rfl) rfl rfl rfl ?_
    -- R11.1 38 := zzsize.go:21 binOp
    refine WL.v (by first | exact r_gtr rfl rfl (decide_eq_true (by omega)) | exact r_gtr rfl rfl (decide_eq_false (by omega)) | exact r_gtr rfl rfl rfl) rfl rfl rfl ?_
    refine WL.fin hK1028 (fun _ _ h => h) ?_
    refine WC.condF rfl rfl ?_
    refine WC.skipF hK1027 (fun _ _ h => h) ?_
    refine WC.seq fun K1029 hK1029 => ?_
    -- region 13
    refine WC.region ?_
    -- R13.0 39 := zzsize.go:24 move
    refine WL.v (by first | exact r_move (v := .int _ _) rfl | exact r_move rfl) rfl rfl rfl ?_
    -- R13.1 40 := zzsize.go:24 move
    refine WL.v (by first | exact r_move (v := .slice _ _ _) rfl | exact r_move rfl) rfl rfl rfl ?_
    -- R13.2 41 := zzsize.go:24 move
    refine WL.v (by first | exact r_move (v := .int _ _) rfl | exact r_move rfl) rfl rfl rfl ?_
    -- R13.3 42 := zzsize.go:24 indexAddr
    refine WL.v (by exact r_indexS ty_sl22 rfl rfl rfl (by omega)) rfl rfl rfl ?_
    -- R13.4 43 := zzsize.go:24 fieldAddr
    refine WL.v (by exact r_field ty_fld45_1 rfl) rfl rfl rfl ?_
    -- R13.5 44 := zzsize.go:24 fieldAddr
    refine WL.v (by exact r_field ty_fld43_4 rfl) rfl rfl rfl ?_
    -- R13.6 45 := zzsize.go:24 fieldAddr
    refine WL.v (by exact r_field ty_fld41_4 rfl) rfl rfl rfl ?_
    -- R13.7 46 := zzsize.go:24 fieldAddr
    refine WL.v (by exact r_field ty_fld36_10 rfl) rfl rfl rfl ?_
    -- R13.8 47 := zzsize.go:24 load
    refine WL.v (by exact r_load1 ty_one25 rfl (st.old (fun h => h) (hS.cell i hlt 62 (by decide)))) rfl rfl rfl ?_
    -- R13.9 48 := zzsize.go:24 call
    refine WL.v (by exact r_len ty_usl25 rfl) rfl rfl rfl ?_
    -- R13.10 49 := zzsize.go:24 binOp
    refine WL.v (by exact r_add (r := ((s + (f i).s1.bs.length + (f i).s2.bs.length + (f i).s3.bs.length : Nat) : Int)) rfl rfl (by rw [wi64 (by omega) (by omega)]; omega)) rfl rfl rfl ?_
    -- R13.11 3 := zzsize.go:24 assign
    refine WL.v (by first | exact r_assign (v := .int _ _) rfl | exact r_assign rfl) rfl rfl rfl ?_
    refine WL.fin hK1029 (fun _ _ h => h) ?_
    refine WC.seq fun K1030 hK1030 => ?_
    refine WC.seq fun K1031 hK1031 => ?_
    -- region 14
    refine WC.region ?_
    -- R14.0 50 := zzsize.go:25 move
    refine WL.v (by first | exact r_move (v := .int _ _) rfl | exact r_move rfl) rfl rfl rfl ?_
    -- R14.1 51 := zzsize.go:25 binOp
    refine WL.v (by first | exact r_gtr rfl rfl (decide_eq_true (by omega)) | exact r_gtr rfl rfl (decide_eq_false (by omega)) | exact r_gtr rfl rfl rfl) rfl rfl rfl ?_
    refine WL.fin hK1031 (fun _ _ h => h) ?_
    refine WC.condF rfl rfl ?_
    refine WC.skipF hK1030 (fun _ _ h => h) ?_
    refine WC.seq fun K1032 hK1032 => ?_
    -- region 16
    refine WC.region ?_
    -- R16.0 52 := zzsize.go:28 move
    refine WL.v (by first | exact r_move (v := .int _ _) rfl | exact r_move rfl) rfl rfl rfl ?_
    -- R16.1 53 := zzsize.go:28 move
    refine WL.v (by first | exact r_move (v := .slice _ _ _) rfl | exact r_move rfl) rfl rfl rfl ?_
    -- R16.2 54 := zzsize.go:28 move
    refine WL.v (by first | exact r_move (v := .int _ _) rfl | exact r_move rfl) rfl rfl rfl ?_
    -- R16.3 55 := zzsize.go:28 indexAddr
    refine WL.v (by exact r_indexS ty_sl22 rfl rfl rfl (by omega)) rfl rfl rfl ?_
    -- R16.4 56 := zzsize.go:28 fieldAddr
    refine WL.v (by exact r_field ty_fld45_1 rfl) rfl rfl rfl ?_
    -- R16.5 57 := zzsize.go:28 fieldAddr
    refine WL.v (by exact r_field ty_fld43_5 rfl) rfl rfl rfl ?_
    -- R16.6 58 := zzsize.go:28 load
    refine WL.v (by exact r_load1 ty_one25 rfl (st.old (fun h => h) (hS.cell i hlt 63 (by decide)))) rfl rfl rfl ?_
    -- R16.7 59 := zzsize.go:28 call
    refine WL.v (by exact r_len ty_usl25 rfl) rfl rfl rfl ?_
    -- R16.8 60 := zzsize.go:28 binOp
    refine WL.v (by exact r_add (r := ((s + (f i).s1.bs.length + (f i).s2.bs.length + (f i).s3.bs.length + (f i).s4.bs.length : Nat) : Int)) rfl rfl (by rw [wi64 (by omega) (by omega)]; omega)) rfl rfl rfl ?_
    -- R16.9 3 := zzsize.go:28 assign
    refine WL.v (by first | exact r_assign (v := .int _ _) rfl | exact r_assign rfl) rfl rfl rfl ?_
    refine WL.fin hK1032 (fun _ _ h => h) ?_
    refine WC.seq fun K1033 hK1033 => ?_
    refine WC.seq fun K1034 hK1034 => ?_
    -- region 17
    refine WC.region ?_
    -- R17.0 61 := zzsize.go:29 move
    refine WL.v (by first | exact r_move (v := .int _ _) rfl | exact r_move rfl) rfl rfl rfl ?_
    -- R17.1 62 := zzsize.go:29 binOp
    refine WL.v (by first | exact r_gtr rfl rfl (decide_eq_true (by omega)) | exact r_gtr rfl rfl (decide_eq_false (by omega)) | exact r_gtr rfl rfl rfl) rfl rfl rfl ?_
    refine WL.fin hK1034 (fun _ _ h => h) ?_
    refine WC.condT rfl rfl ?_
    refine WC.seq fun K1035 hK1035 => ?_
    -- region 18
    refine WC.region ?_
    -- R18.0 2 := zzsize.go:30 assign
    refine WL.v (by first | exact r_assign (v := .bool _) rfl | exact r_assign rfl) rfl rfl rfl ?_
    refine WL.fin hK1035 (fun _ _ h => h) ?_
    refine WC.ret1 Tryd.results7 (fun _ _ h => h) rfl ?_
    exact ⟨_, rfl, false, rfl, (fun h => absurd h (by decide)), st⟩
  by_cases c4 : 65536 < s + (f i).s1.bs.length + (f i).s2.bs.length + (f i).s3.bs.length + (f i).s4.bs.length + (f i).s5.bs.length
  · skip
    refine WC.seq fun K1036 hK1036 => ?_
    refine WC.seq fun K1037 hK1037 => ?_
    -- region 5
    refine WC.region ?_
    -- R5.0 9 := zzsize.go:15 move
    refine WL.v (by first | exact r_move (v := .int _ _) rfl | exact r_move rfl) rfl rfl rfl ?_
    -- R5.1 10 := zzsize.go:15 move
    refine WL.v (by first | exact r_move (v := .slice _ _ _) rfl | exact r_move rfl) rfl rfl rfl ?_
    -- R5.2 11 := zzsize.go:15 call
    refine WL.v (by exact r_len ty_usl22 rfl) rfl rfl rfl ?_
    -- R5.3 12 := zzsize.go:15 binOp
    refine WL.v (by first | exact r_lss rfl rfl (decide_eq_true (by omega)) | exact r_lss rfl rfl (decide_eq_false (by omega)) | exact r_lss rfl rfl rfl) rfl rfl rfl ?_
    refine WL.fin hK1037 (fun _ _ h => h) ?_
    refine WC.condT rfl rfl ?_
    refine WC.skipF hK1036 (fun _ _ h => h) ?_
    refine WC.seq fun K1038 hK1038 => ?_
    refine WC.block ?_
    refine WC.seq fun K1039 hK1039 => ?_
    -- region 7
    refine WC.region ?_
    -- R7.0 15 := zzsize.go:16 move
    refine WL.v (by first | exact r_move (v := .int _ _) rfl | exact r_move rfl) rfl rfl rfl ?_
    -- R7.1 16 := zzsize.go:16 move
    refine WL.v (by first | exact r_move (v := .slice _ _ _) rfl | exact r_move rfl) rfl rfl rfl ?_
    -- R7.2 17 := zzsize.go:16 move
    refine WL.v (by first | exact r_move (v := .int _ _) rfl | exact r_move rfl) rfl rfl rfl ?_
    -- R7.3 18 := zzsize.go:16 indexAddr
    refine WL.v (by exact r_indexS ty_sl22 rfl rfl rfl (by omega)) rfl rfl rfl ?_
    -- R7.4 19 := zzsize.go:16 fieldAddr
    refine WL.v (by exact r_field ty_fld45_1 rfl) rfl rfl rfl ?_
    -- R7.5 20 := zzsize.go:16 fieldAddr
    refine WL.v (by exact r_field ty_fld43_2 rfl) rfl rfl rfl ?_
    -- R7.6 21 := zzsize.go:16 fieldAddr
    refine WL.v (by exact r_field ty_fld36_10 rfl) rfl rfl rfl ?_
    -- R7.7 22 := zzsize.go:16 load
    refine WL.v (by exact r_load1 ty_one25 rfl (st.old (fun h => h) (hS.cell i hlt 31 (by decide)))) rfl rfl rfl ?_
    -- R7.8 23 := zzsize.go:16 call
    refine WL.v (by exact r_len ty_usl25 rfl) rfl rfl rfl ?_
    -- R7.9 24 := zzsize.go:16 binOp
    refine WL.v (by exact r_add (r := ((s + (f i).s1.bs.length : Nat) : Int)) rfl rfl (by rw [wi64 (by omega) (by omega)]; omega)) rfl rfl rfl ?_
    -- R7.10 3 := zzsize.go:16 assign
    refine WL.v (by first | exact r_assign (v := .int _ _) rfl | exact r_assign rfl) rfl rfl rfl ?_
    refine WL.fin hK1039 (fun _ _ h => h) ?_
    refine WC.seq fun K1040 hK1040 => ?_
    refine WC.seq fun K1041 hK1041 => ?_
    -- region 8
    refine WC.region ?_
    -- R8.0 25 := zzsize.go:17 move
    refine WL.v (by first | exact r_move (v := .int _ _) rfl | exact r_move rfl) rfl rfl rfl ?_
    -- R8.1 26 := zzsize.go:17 binOp
    refine WL.v (by first | exact r_gtr rfl rfl (decide_eq_true (by omega)) | exact r_gtr rfl rfl (decide_eq_false (by omega)) | exact r_gtr rfl rfl rfl) rfl rfl rfl ?_
    refine WL.fin hK1041 (fun _ _ h => h) ?_
    refine WC.condF rfl rfl ?_
    refine WC.skipF hK1040 (fun _ _ h => h) ?_
    refine WC.seq fun K1042 hK1042 => ?_
    -- region 10
    refine WC.region ?_
    -- R10.0 27 := zzsize.go:20 move
    refine WL.v (by first | exact r_move (v := .int _ _) rfl | exact r_move rfl) rfl rfl rfl ?_
    -- R10.1 28 := zzsize.go:20 move
    refine WL.v (by first | exact r_move (v := .slice _ _ _) rfl | exact r_move rfl) rfl rfl rfl ?_
    -- R10.2 29 := zzsize.go:20 move
    refine WL.v (by first | exact r_move (v := .int _ _) rfl | exact r_move rfl) rfl rfl rfl ?_
    -- R10.3 30 := zzsize.go:20 indexAddr
    refine WL.v (by exact r_indexS ty_sl22 rfl rfl rfl (by omega)) rfl rfl rfl ?_
    -- R10.4 31 := zzsize.go:20 fieldAddr
    refine WL.v (by exact r_field ty_fld45_1 rfl) rfl rfl rfl ?_
    -- R10.5 32 := zzsize.go:20 fieldAddr
    refine WL.v (by exact r_field ty_fld43_3 rfl) rfl rfl rfl ?_
    -- R10.6 33 := zzsize.go:20 fieldAddr
    refine WL.v (by exact r_field ty_fld39_9 rfl) rfl rfl rfl ?_
    -- R10.7 34 := zzsize.go:20 load
    refine WL.v (by exact r_load1 ty_one25 rfl (st.old (fun h => h) (hS.cell i hlt 41 (by decide)))) rfl rfl rfl ?_
    -- R10.8 35 := zzsize.go:20 call
    refine WL.v (by exact r_len ty_usl25 rfl) rfl rfl rfl ?_
    -- R10.9 36 := zzsize.go:20 binOp
    refine WL.v (by exact r_add (r := ((s + (f i).s1.bs.length + (f i).s2.bs.length : Nat) : Int)) rfl rfl (by rw [wi64 (by omega) (by omega)]; omega)) rfl rfl rfl ?_
    -- R10.10 3 := zzsize.go:20 assign
    refine WL.v (by first | exact r_assign (v := .int _ _) rfl | exact r_assign rfl) rfl rfl rfl ?_
    refine WL.fin hK1042 (fun _ _ h => h) ?_
    refine WC.seq fun K1043 hK1043 => ?_
    refine WC.seq fun K1044 hK1044 => ?_
    -- region 11
    refine WC.region ?_
    -- R11.0 37 := zzsize.go:21 move
    refine WL.v (by first | exact r_move (v := .int _ _) rfl | exact r_move rfl) rfl rfl rfl ?_
    -- R11.1 38 := zzsize.go:21 binOp
    refine WL.v (by first | exact r_gtr rfl rfl (decide_eq_true (by omega)) | exact r_gtr rfl rfl (decide_eq_false (by omega)) | exact r_gtr rfl rfl rfl) rfl rfl rfl ?_
    refine WL.fin hK1044 (fun _ _ h => h) ?_
    refine WC.condF rfl rfl ?_
    refine WC.skipF hK1043 (fun _ _ h => h) ?_
    refine WC.seq fun K1045 hK1045 => ?_
    -- region 13
    refine WC.region ?_
    -- R13.0 39 := zzsize.go:24 move
    refine WL.v (by first | exact r_move (v := .int _ _) rfl | exact r_move rfl) rfl rfl rfl ?_
    -- R13.1 40 := zzsize.go:24 move
    refine WL.v (by first | exact r_move (v := .slice _ _ _) rfl | exact r_move rfl) rfl rfl rfl ?_
    -- R13.2 41 := zzsize.go:24 move
    refine WL.v (by first | exact r_move (v := .int _ _) rfl | exact r_move rfl) rfl rfl rfl ?_
    -- R13.3 42 := zzsize.go:24 indexAddr
    refine WL.v (by exact r_indexS ty_sl22 rfl rfl rfl (by omega)) rfl rfl rfl ?_
    -- R13.4 43 := zzsize.go:24 fieldAddr
    refine WL.v (by exact r_field ty_fld45_1 rfl) rfl rfl rfl ?_
    -- R13.5 44 := zzsize.go:24 fieldAddr
    refine WL.v (by exact r_field ty_fld43_4 rfl) rfl rfl rfl ?_
    -- R13.6 45 := zzsize.go:24 fieldAddr
    refine WL.v (by exact r_field ty_fld41_4 rfl) rfl rfl rfl ?_
    -- R13.7 46 := zzsize.go:24 fieldAddr
    refine WL.v (by exact r_field ty_fld36_10 rfl) rfl rfl rfl ?_
    -- R13.8 47 := zzsize.go:24 load
    refine WL.v (by exact r_load1 ty_one25 rfl (st.old (fun h => h) (hS.cell i hlt 62 (by decide)))) rfl rfl rfl ?_
    -- R13.9 48 := zzsize.go:24 call
    refine WL.v (by exact r_len ty_usl25 rfl) rfl rfl rfl ?_
    -- R13.10 49 := zzsize.go:24 binOp
    refine WL.v (by exact r_add (r := ((s + (f i).s1.bs.length + (f i).s2.bs.length + (f i).s3.bs.length : Nat) : Int)) rfl rfl (by rw [wi64 (by omega) (by omega)]; omega)) rfl rfl rfl ?_
    -- R13.11 3 := zzsize.go:24 assign
    refine WL.v (by first | exact r_assign (v := .int _ _) rfl | exact r_assign rfl) rfl rfl rfl ?_
    refine WL.fin hK1045 (fun _ _ h => h) ?_
    refine WC.seq fun K1046 hK1046 => ?_
    refine WC.seq fun K1047 hK1047 => ?_
    -- region 14
    refine WC.region ?_
    -- R14.0 50 := zzsize.go:25 move
    refine WL.v (by first | exact r_move (v := .int _ _) rfl | exact r_move rfl) rfl rfl rfl ?_
    -- R14.1 51 := zzsize.go:25 binOp
    refine WL.v (by first | exact r_gtr rfl rfl (decide_eq_true (by omega)) | exact r_gtr rfl rfl (decide_eq_false (by omega)) | exact r_gtr rfl rfl rfl) rfl rfl rfl ?_
    refine WL.fin hK1047 (fun _ _ h => h) ?_
    refine WC.condF rfl rfl ?_
    refine WC.skipF hK1046 (fun _ _ h => h) ?_
    refine WC.seq fun K1048 hK1048 => ?_
    -- region 16
    refine WC.region ?_
    -- R16.0 52 := zzsize.go:28 move
    refine WL.v (by first | exact r_move (v := .int _ _) rfl | exact r_move rfl) rfl rfl rfl ?_
    -- R16.1 53 := zzsize.go:28 move
    refine WL.v (by first | exact r_move (v := .slice _ _ _) rfl | exact r_move rfl) rfl rfl rfl ?_
    -- R16.2 54 := zzsize.go:28 move
    refine WL.v (by first | exact r_move (v := .int _ _) rfl | exact r_move rfl) rfl rfl rfl ?_
    -- R16.3 55 := zzsize.go:28 indexAddr
    refine WL.v (by exact r_indexS ty_sl22 rfl rfl rfl (by omega)) rfl rfl rfl ?_
    -- R16.4 56 := zzsize.go:28 fieldAddr
    refine WL.v (by exact r_field ty_fld45_1 rfl) rfl rfl rfl ?_
    -- R16.5 57 := zzsize.go:28 fieldAddr
    refine WL.v (by exact r_field ty_fld43_5 rfl) rfl rfl rfl ?_
    -- R16.6 58 := zzsize.go:28 load
    refine WL.v (by exact r_load1 ty_one25 rfl (st.old (fun h => h) (hS.cell i hlt 63 (by decide)))) rfl rfl rfl ?_
    -- R16.7 59 := zzsize.go:28 call
    refine WL.v (by exact r_len ty_usl25 rfl) rfl rfl rfl ?_
    -- R16.8 60 := zzsize.go:28 binOp
    refine WL.v (by exact r_add (r := ((s + (f i).s1.bs.length + (f i).s2.bs.length + (f i).s3.bs.length + (f i).s4.bs.length : Nat) : Int)) rfl rfl (by rw [wi64 (by omega) (by omega)]; omega)) rfl rfl rfl ?_
    -- R16.9 3 := zzsize.go:28 assign
    refine WL.v (by first | exact r_assign (v := .int _ _) rfl | exact r_assign rfl) rfl rfl rfl ?_
    refine WL.fin hK1048 (fun _ _ h => h) ?_
    refine WC.seq fun K1049 hK1049 => ?_
    refine WC.seq fun K1050 hK1050 => ?_
    -- region 17
    refine WC.region ?_
    -- R17.0 61 := zzsize.go:29 move
    refine WL.v (by first | exact r_move (v := .int _ _) rfl | exact r_move rfl) rfl rfl rfl ?_
    -- R17.1 62 := zzsize.go:29 binOp
    refine WL.v (by first | exact r_gtr rfl rfl (decide_eq_true (by omega)) | exact r_gtr rfl rfl (decide_eq_false (by omega)) | exact r_gtr rfl rfl rfl) rfl rfl rfl ?_
    refine WL.fin hK1050 (fun _ _ h => h) ?_
    refine WC.condF rfl rfl ?_
    refine WC.skipF hK1049 (fun _ _ h => h) ?_
    refine WC.seq fun K1051 hK1051 => ?_
    -- region 19
    refine WC.region ?_
    -- R19.0 63 := zzsize.go:32 move
    refine WL.v (by first | exact r_move (v := .int _ _) rfl | exact r_move rfl) rfl rfl rfl ?_
    -- R19.1 64 := zzsize.go:32 move
    refine WL.v (by first | exact r_move (v := .slice _ _ _) rfl | exact r_move rfl) rfl rfl rfl ?_
    -- R19.2 65 := zzsize.go:32 move
    refine WL.v (by first | exact r_move (v := .int _ _) rfl | exact r_move rfl) rfl rfl rfl ?_
    -- R19.3 66 := zzsize.go:32 indexAddr
    refine WL.v (by exact r_indexS ty_sl22 rfl rfl rfl (by omega)) rfl rfl rfl ?_
    -- R19.4 67 := zzsize.go:32 fieldAddr
    refine WL.v (by exact r_field ty_fld45_1 rfl) rfl rfl rfl ?_
    -- R19.5 68 := zzsize.go:32 fieldAddr
    refine WL.v (by exact r_field ty_fld43_6 rfl) rfl rfl rfl ?_
    -- R19.6 69 := zzsize.go:32 load
    refine WL.v (by exact r_load1 ty_one25 rfl (st.old (fun h => h) (hS.cell i hlt 64 (by decide)))) rfl rfl rfl ?_
    -- R19.7 70 := zzsize.go:32 call
    refine WL.v (by exact r_len ty_usl25 rfl) rfl rfl rfl ?_
    -- R19.8 71 := zzsize.go:32 binOp
    refine WL.v (by exact r_add (r := ((s + (f i).s1.bs.length + (f i).s2.bs.length + (f i).s3.bs.length + (f i).s4.bs.length + (f i).s5.bs.length : Nat) : Int)) rfl rfl (by rw [wi64 (by omega) (by omega)]; omega)) rfl rfl rfl ?_
    -- R19.9 3 := zzsize.go:32 assign
    refine WL.v (by first | exact r_assign (v := .int _ _) rfl | exact r_assign rfl) rfl rfl rfl ?_
    refine WL.fin hK1051 (fun _ _ h => h) ?_
    refine WC.seq fun K1052 hK1052 => ?_
    refine WC.seq fun K1053 hK1053 => ?_
    -- region 20
    refine WC.region ?_
    -- R20.0 72 := zzsize.go:33 move
    refine WL.v (by first | exact r_move (v := .int _ _) rfl | exact r_move rfl) rfl rfl rfl ?_
    -- R20.1 73 := zzsize.go:33 binOp
    refine WL.v (by first | exact r_gtr rfl rfl (decide_eq_true (by omega)) | exact r_gtr rfl rfl (decide_eq_false (by omega)) | exact r_gtr rfl rfl rfl) rfl rfl rfl ?_
    refine WL.fin hK1053 (fun _ _ h => h) ?_
    refine WC.condT rfl rfl ?_
    refine WC.seq fun K1054 hK1054 => ?_
    -- region 21
    refine WC.region ?_
    -- R21.0 2 := zzsize.go:34 assign
    refine WL.v (by first | exact r_assign (v := .bool _) rfl | exact r_assign rfl) rfl rfl rfl ?_
    refine WL.fin hK1054 (fun _ _ h => h) ?_
    refine WC.ret1 Tryd.results7 (fun _ _ h => h) rfl ?_
    exact ⟨_, rfl, false, rfl, (fun h => absurd h (by decide)), st⟩
  by_cases c5 : 65536 < s + (f i).s1.bs.length + (f i).s2.bs.length + (f i).s3.bs.length + (f i).s4.bs.length + (f i).s5.bs.length + (d i).bs.length
  · skip
    refine WC.seq fun K1055 hK1055 => ?_
    refine WC.seq fun K1056 hK1056 => ?_
    -- region 5
    refine WC.region ?_
    -- R5.0 9 := zzsize.go:15 move
    refine WL.v (by first | exact r_move (v := .int _ _) rfl | exact r_move rfl) rfl rfl rfl ?_
    -- R5.1 10 := zzsize.go:15 move
    refine WL.v (by first | exact r_move (v := .slice _ _ _) rfl | exact r_move rfl) rfl rfl rfl ?_
    -- R5.2 11 := zzsize.go:15 call
    refine WL.v (by exact r_len ty_usl22 rfl) rfl rfl rfl ?_
    -- R5.3 12 := zzsize.go:15 binOp
    refine WL.v (by first | exact r_lss rfl rfl (decide_eq_true (by omega)) | exact r_lss rfl rfl (decide_eq_false (by omega)) | exact r_lss rfl rfl rfl) rfl rfl rfl ?_
    refine WL.fin hK1056 (fun _ _ h => h) ?_
    refine WC.condT rfl rfl ?_
    refine WC.skipF hK1055 (fun _ _ h => h) ?_
    refine WC.seq fun K1057 hK1057 => ?_
    refine WC.block ?_
    refine WC.seq fun K1058 hK1058 => ?_
    -- region 7
    refine WC.region ?_
    -- R7.0 15 := zzsize.go:16 move
    refine WL.v (by first | exact r_move (v := .int _ _) rfl | exact r_move rfl) rfl rfl rfl ?_
    -- R7.1 16 := zzsize.go:16 move
    refine WL.v (by first | exact r_move (v := .slice _ _ _) rfl | exact r_move rfl) rfl rfl rfl ?_
    -- R7.2 17 := zzsize.go:16 move
    refine WL.v (by first | exact r_move (v := .int _ _) rfl | exact r_move rfl) rfl rfl rfl ?_
    -- R7.3 18 := zzsize.go:16 indexAddr
    refine WL.v (by exact r_indexS ty_sl22 rfl rfl rfl (by omega)) rfl rfl rfl ?_
    -- R7.4 19 := zzsize.go:16 fieldAddr
    refine WL.v (by exact r_field ty_fld45_1 rfl) rfl rfl rfl ?_
    -- R7.5 20 := zzsize.go:16 fieldAddr
    refine WL.v (by exact r_field ty_fld43_2 rfl) rfl rfl rfl ?_
    -- R7.6 21 := zzsize.go:16 fieldAddr
    refine WL.v (by exact r_field ty_fld36_10 rfl) rfl rfl rfl ?_
    -- R7.7 22 := zzsize.go:16 load
    refine WL.v (by exact r_load1 ty_one25 rfl (st.old (fun h => h) (hS.cell i hlt 31 (by decide)))) rfl rfl rfl ?_
    -- R7.8 23 := zzsize.go:16 call
    refine WL.v (by exact r_len ty_usl25 rfl) rfl rfl rfl ?_
    -- R7.9 24 := zzsize.go:16 binOp
    refine WL.v (by exact r_add (r := ((s + (f i).s1.bs.length : Nat) : Int)) rfl rfl (by rw [wi64 (by omega) (by omega)]; omega)) rfl rfl rfl ?_
    -- R7.10 3 := zzsize.go:16 assign
    refine WL.v (by first | exact r_assign (v := .int _ _) rfl | exact r_assign rfl) rfl rfl rfl ?_
    refine WL.fin hK1058 (fun _ _ h => h) ?_
    refine WC.seq fun K1059 hK1059 => ?_
    refine WC.seq fun K1060 hK1060 => ?_
    -- region 8
    refine WC.region ?_
    -- R8.0 25 := zzsize.go:17 move
    refine WL.v (by first | exact r_move (v := .int _ _) rfl | exact r_move rfl) rfl rfl rfl ?_
    -- R8.1 26 := zzsize.go:17 binOp
    refine WL.v (by first | exact r_gtr rfl rfl (decide_eq_true (by omega)) | exact r_gtr rfl rfl (decide_eq_false (by omega)) | exact r_gtr rfl rfl rfl) rfl rfl rfl ?_
    refine WL.fin hK1060 (fun _ _ h => h) ?_
    refine WC.condF rfl rfl ?_
    refine WC.skipF hK1059 (fun _ _ h => h) ?_
    refine WC.seq fun K1061 hK1061 => ?_
    -- region 10
    refine WC.region ?_
    -- R10.0 27 := zzsize.go:20 move
    refine WL.v (by first | exact r_move (v := .int _ _) rfl | exact r_move rfl) rfl rfl rfl ?_
    -- R10.1 28 := zzsize.go:20 move
    refine WL.v (by first | exact r_move (v := .slice _ _ _) rfl | exact r_move rfl) rfl rfl rfl ?_
    -- R10.2 29 := zzsize.go:20 move
    refine WL.v (by first | exact r_move (v := .int _ _) rfl | exact r_move rfl) rfl rfl rfl ?_
    -- R10.3 30 := zzsize.go:20 indexAddr
    refine WL.v (by exact r_indexS ty_sl22 rfl rfl rfl (by omega)) rfl rfl rfl ?_
    -- R10.4 31 := zzsize.go:20 fieldAddr
    refine WL.v (by exact r_field ty_fld45_1 rfl) rfl rfl rfl ?_
    -- R10.5 32 := zzsize.go:20 fieldAddr
    refine WL.v (by exact r_field ty_fld43_3 rfl) rfl rfl rfl ?_
    -- R10.6 33 := zzsize.go:20 fieldAddr
    refine WL.v (by exact r_field ty_fld39_9 rfl) rfl rfl rfl ?_
    -- R10.7 34 := zzsize.go:20 load
    refine WL.v (by exact r_load1 ty_one25 rfl (st.old (fun h => h) (hS.cell i hlt 41 (by decide)))) rfl rfl rfl ?_
    -- R10.8 35 := zzsize.go:20 call
    refine WL.v (by exact r_len ty_usl25 rfl) rfl rfl rfl ?_
    -- R10.9 36 := zzsize.go:20 binOp
    refine WL.v (by exact r_add (r := ((s + (f i).s1.bs.length + (f i).s2.bs.length : Nat) : Int)) rfl rfl (by rw [wi64 (by omega) (by omega)]; omega)) rfl rfl rfl ?_
    -- R10.10 3 := zzsize.go:20 assign
    refine WL.v (by first | exact r_assign (v := .int _ _) rfl | exact r_assign rfl) rfl rfl rfl ?_
    refine WL.fin hK1061 (fun _ _ h => h) ?_
    refine WC.seq fun K1062 hK1062 => ?_
    refine WC.seq fun K1063 hK1063 => ?_
    -- region 11
    refine WC.region ?_
    -- R11.0 37 := zzsize.go:21 move
    refine WL.v (by first | exact r_move (v := .int _ _) rfl | exact r_move rfl) rfl rfl rfl ?_
    -- R11.1 38 := zzsize.go:21 binOp
    refine WL.v (by first | exact r_gtr rfl rfl (decide_eq_true (by omega)) | exact r_gtr rfl rfl (decide_eq_false (by omega)) | exact r_gtr rfl rfl rfl) rfl rfl rfl ?_
    refine WL.fin hK1063 (fun _ _ h => h) ?_
    refine WC.condF rfl rfl ?_
    refine WC.skipF hK1062 (fun _ _ h => h) ?_
    refine WC.seq fun K1064 hK1064 => ?_
    -- region 13
    refine WC.region ?_
    -- R13.0 39 := zzsize.go:24 move
    refine WL.v (by first | exact r_move (v := .int _ _) rfl | exact r_move rfl) rfl rfl rfl ?_
    -- R13.1 40 := zzsize.go:24 move
    refine WL.v (by first | exact r_move (v := .slice _ _ _) rfl | exact r_move rfl) rfl rfl rfl ?_
    -- R13.2 41 := zzsize.go:24 move
    refine WL.v (by first | exact r_move (v := .int _ _) rfl | exact r_move rfl) rfl rfl rfl ?_
    -- R13.3 42 := zzsize.go:24 indexAddr
    refine WL.v (by exact r_indexS ty_sl22 rfl rfl rfl (by omega)) rfl rfl rfl ?_
    -- R13.4 43 := zzsize.go:24 fieldAddr
    refine WL.v (by exact r_field ty_fld45_1 rfl) rfl rfl rfl ?_
    -- R13.5 44 := zzsize.go:24 fieldAddr
    refine WL.v (by exact r_field ty_fld43_4 rfl) rfl rfl rfl ?_
    -- R13.6 45 := zzsize.go:24 fieldAddr
    refine WL.v (by exact r_field ty_fld41_4 rfl) rfl rfl rfl ?_
    -- R13.7 46 := zzsize.go:24 fieldAddr
    refine WL.v (by exact r_field ty_fld36_10 rfl) rfl rfl rfl ?_
    -- R13.8 47 := zzsize.go:24 load
    refine WL.v (by exact r_load1 ty_one25 rfl (st.old (fun h => h) (hS.cell i hlt 62 (by decide)))) rfl rfl rfl ?_
    -- R13.9 48 := zzsize.go:24 call
    refine WL.v (by exact r_len ty_usl25 rfl) rfl rfl rfl ?_
    -- R13.10 49 := zzsize.go:24 binOp
    refine WL.v (by exact r_add (r := ((s + (f i).s1.bs.length + (f i).s2.bs.length + (f i).s3.bs.length : Nat) : Int)) rfl rfl (by rw [wi64 (by omega) (by omega)]; omega)) rfl rfl rfl ?_
    -- R13.11 3 := zzsize.go:24 assign
    refine WL.v (by first | exact r_assign (v := .int _ _) rfl | exact r_assign rfl) rfl rfl rfl ?_
    refine WL.fin hK1064 (fun _ _ h => h) ?_
    refine WC.seq fun K1065 hK1065 => ?_
    refine WC.seq fun K1066 hK1066 => ?_
    -- region 14
    refine WC.region ?_
    -- R14.0 50 := zzsize.go:25 move
    refine WL.v (by first | exact r_move (v := .int _ _) rfl | exact r_move rfl) rfl rfl rfl ?_
    -- R14.1 51 := zzsize.go:25 binOp
    refine WL.v (by first | exact r_gtr rfl rfl (decide_eq_true (by omega)) | exact r_gtr rfl rfl (decide_eq_false (by omega)) | exact r_gtr rfl rfl rfl) rfl rfl rfl ?_
    refine WL.fin hK1066 (fun _ _ h => h) ?_
    refine WC.condF rfl rfl ?_
    refine WC.skipF hK1065 (fun _ _ h => h) ?_
    refine WC.seq fun K1067 hK1067 => ?_
    -- region 16
    refine WC.region ?_
    -- R16.0 52 := zzsize.go:28 move
    refine WL.v (by first | exact r_move (v := .int _ _) rfl | exact r_move rfl) rfl rfl rfl ?_
    -- R16.1 53 := zzsize.go:28 move
    refine WL.v (by first | exact r_move (v := .slice _ _ _) rfl | exact r_move rfl) rfl rfl rfl ?_
    -- R16.2 54 := zzsize.go:28 move
    refine WL.v (by first | exact r_move (v := .int _ _) rfl | exact r_move rfl) rfl rfl rfl ?_
    -- R16.3 55 := zzsize.go:28 indexAddr
    refine WL.v (by exact r_indexS ty_sl22 rfl rfl rfl (by omega)) rfl rfl rfl ?_
    -- R16.4 56 := zzsize.go:28 fieldAddr
    refine WL.v (by exact r_field ty_fld45_1 rfl) rfl rfl rfl ?_
    -- R16.5 57 := zzsize.go:28 fieldAddr
    refine WL.v (by exact r_field ty_fld43_5 rfl) rfl rfl rfl ?_
    -- R16.6 58 := zzsize.go:28 load
    refine WL.v (by exact r_load1 ty_one25 rfl (st.old (fun h => h) (hS.cell i hlt 63 (by decide)))) rfl rfl rfl ?_
    -- R16.7 59 := zzsize.go:28 call
    refine WL.v (by exact r_len ty_usl25 rfl) rfl rfl rfl ?_
    -- R16.8 60 := zzsize.go:28 binOp
    refine WL.v (by exact r_add (r := ((s + (f i).s1.bs.length + (f i).s2.bs.length + (f i).s3.bs.length + (f i).s4.bs.length : Nat) : Int)) rfl rfl (by rw [wi64 (by omega) (by omega)]; omega)) rfl rfl rfl ?_
    -- R16.9 3 := zzsize.go:28 assign
    refine WL.v (by first | exact r_assign (v := .int _ _) rfl | exact r_assign rfl) rfl rfl rfl ?_
    refine WL.fin hK1067 (fun _ _ h => h) ?_
    refine WC.seq fun K1068 hK1068 => ?_
    refine WC.seq fun K1069 hK1069 => ?_
    -- region 17
    refine WC.region ?_
    -- R17.0 61 := zzsize.go:29 move
    refine WL.v (by first | exact r_move (v := .int _ _) rfl | exact r_move rfl) rfl rfl rfl ?_
    -- R17.1 62 := zzsize.go:29 binOp
    refine WL.v (by first | exact r_gtr rfl rfl (decide_eq_true (by omega)) | exact r_gtr rfl rfl (decide_eq_false (by omega)) | exact r_gtr rfl rfl rfl) rfl rfl rfl ?_
    refine WL.fin hK1069 (fun _ _ h => h) ?_
    refine WC.condF rfl rfl ?_
    refine WC.skipF hK1068 (fun _ _ h => h) ?_
    refine WC.seq fun K1070 hK1070 => ?_
    -- region 19
    refine WC.region ?_
    -- R19.0 63 := zzsize.go:32 move
    refine WL.v (by first | exact r_move (v := .int _ _) rfl | exact r_move rfl) rfl rfl rfl ?_
    -- R19.1 64 := zzsize.go:32 move
    refine WL.v (by first | exact r_move (v := .slice _ _ _) rfl | exact r_move rfl) rfl rfl rfl ?_
    -- R19.2 65 := zzsize.go:32 move
    refine WL.v (by first | exact r_move (v := .int _ _) rfl | exact r_move rfl) rfl rfl rfl ?_
    -- R19.3 66 := zzsize.go:32 indexAddr
    refine WL.v (by exact r_indexS ty_sl22 rfl rfl rfl (by omega)) rfl rfl rfl ?_
    -- R19.4 67 := zzsize.go:32 fieldAddr
    refine WL.v (by exact r_field ty_fld45_1 rfl) rfl rfl rfl ?_
    -- R19.5 68 := zzsize.go:32 fieldAddr
    refine WL.v (by exact r_field ty_fld43_6 rfl) rfl rfl rfl ?_
    -- R19.6 69 := zzsize.go:32 load
    refine WL.v (by exact r_load1 ty_one25 rfl (st.old (fun h => h) (hS.cell i hlt 64 (by decide)))) rfl rfl rfl ?_
    -- R19.7 70 := zzsize.go:32 call
    refine WL.v (by exact r_len ty_usl25 rfl) rfl rfl rfl ?_
    -- R19.8 71 := zzsize.go:32 binOp
    refine WL.v (by exact r_add (r := ((s + (f i).s1.bs.length + (f i).s2.bs.length + (f i).s3.bs.length + (f i).s4.bs.length + (f i).s5.bs.length : Nat) : Int)) rfl rfl (by rw [wi64 (by omega) (by omega)]; omega)) rfl rfl rfl ?_
    -- R19.9 3 := zzsize.go:32 assign
    refine WL.v (by first | exact r_assign (v := .int _ _) rfl | exact r_assign rfl) rfl rfl rfl ?_
    refine WL.fin hK1070 (fun _ _ h => h) ?_
    refine WC.seq fun K1071 hK1071 => ?_
    refine WC.seq fun K1072 hK1072 => ?_
    -- region 20
    refine WC.region ?_
    -- R20.0 72 := zzsize.go:33 move
    refine WL.v (by first | exact r_move (v := .int _ _) rfl | exact r_move rfl) rfl rfl rfl ?_
    -- R20.1 73 := zzsize.go:33 binOp
    refine WL.v (by first | exact r_gtr rfl rfl (decide_eq_true (by omega)) | exact r_gtr rfl rfl (decide_eq_false (by omega)) | exact r_gtr rfl rfl rfl) rfl rfl rfl ?_
    refine WL.fin hK1072 (fun _ _ h => h) ?_
    refine WC.condF rfl rfl ?_
    refine WC.skipF hK1071 (fun _ _ h => h) ?_
    refine WC.seq fun K1073 hK1073 => ?_
    -- region 22
    refine WC.region ?_
    -- R22.0 74 := zzsize.go:36 move
    refine WL.v (by first | exact r_move (v := .int _ _) rfl | exact r_move rfl) rfl rfl rfl ?_
    -- R22.1 75 := zzsize.go:36 move
    refine WL.v (by first | exact r_move (v := .slice _ _ _) rfl | exact r_move rfl) rfl rfl rfl ?_
    -- R22.2 76 := zzsize.go:36 move
    refine WL.v (by first | exact r_move (v := .int _ _) rfl | exact r_move rfl) rfl rfl rfl ?_
    -- R22.3 77 := zzsize.go:36 indexAddr
    refine WL.v (by exact r_indexS ty_sl22 rfl rfl rfl (by omega)) rfl rfl rfl ?_
    -- R22.4 78 := zzsize.go:36 fieldAddr
    refine WL.v (by exact r_field ty_fld45_2 rfl) rfl rfl rfl ?_
    -- R22.5 79 := zzsize.go:36 load
    refine WL.v (by exact r_load1 ty_one25 rfl (st.old (fun h => h) (hS.cell i hlt 65 (by decide)))) rfl rfl rfl ?_
    -- R22.6 80 := zzsize.go:36 call
    refine WL.v (by exact r_len ty_usl25 rfl) rfl rfl rfl ?_
    -- R22.7 81 := zzsize.go:36 binOp
    refine WL.v (by exact r_add (r := ((s + (f i).s1.bs.length + (f i).s2.bs.length + (f i).s3.bs.length + (f i).s4.bs.length + (f i).s5.bs.length + (d i).bs.length : Nat) : Int)) rfl rfl (by rw [wi64 (by omega) (by omega)]; omega)) rfl rfl rfl ?_
    -- R22.8 3 := zzsize.go:36 assign
    refine WL.v (by first | exact r_assign (v := .int _ _) rfl | exact r_assign rfl) rfl rfl rfl ?_
    refine WL.fin hK1073 (fun _ _ h => h) ?_
    refine WC.seq fun K1074 hK1074 => ?_
    -- region 23
    refine WC.region ?_
    -- R23.0 82 := zzsize.go:37 move
    refine WL.v (by first | exact r_move (v := .int _ _) rfl | exact r_move rfl) rfl rfl rfl ?_
    -- R23.1 83 := zzsize.go:37 binOp
    refine WL.v (by first | exact r_gtr rfl rfl (decide_eq_true (by omega)) | exact r_gtr rfl rfl (decide_eq_false (by omega)) | exact r_gtr rfl rfl rfl) rfl rfl rfl ?_
    refine WL.fin hK1074 (fun _ _ h => h) ?_
    refine WC.condT rfl rfl ?_
    refine WC.seq fun K1075 hK1075 => ?_
    -- region 24
    refine WC.region ?_
    -- R24.0 2 := zzsize.go:38 assign
    refine WL.v (by first | exact r_assign (v := .bool _) rfl | exact r_assign rfl) rfl rfl rfl ?_
    refine WL.fin hK1075 (fun _ _ h => h) ?_
    refine WC.ret1 Tryd.results7 (fun _ _ h => h) rfl ?_
    exact ⟨_, rfl, false, rfl, (fun h => absurd h (by decide)), st⟩
  refine WC.seq fun K1076 hK1076 => ?_
  refine WC.seq fun K1077 hK1077 => ?_
  -- region 5
  refine WC.region ?_
  -- R5.0 9 := zzsize.go:15 move
  refine WL.v (by first | exact r_move (v := .int _ _) rfl | exact r_move rfl) rfl rfl rfl ?_
  -- R5.1 10 := zzsize.go:15 move
  refine WL.v (by first | exact r_move (v := .slice _ _ _) rfl | exact r_move rfl) rfl rfl rfl ?_
  -- R5.2 11 := zzsize.go:15 call
  refine WL.v (by exact r_len ty_usl22 rfl) rfl rfl rfl ?_
  -- R5.3 12 := zzsize.go:15 binOp
  refine WL.v (by first | exact r_lss rfl rfl (decide_eq_true (by omega)) | exact r_lss rfl rfl (decide_eq_false (by omega)) | exact r_lss rfl rfl rfl) rfl rfl rfl ?_
  refine WL.fin hK1077 (fun _ _ h => h) ?_
  refine WC.condT rfl rfl ?_
  refine WC.skipF hK1076 (fun _ _ h => h) ?_
  refine WC.seq fun K1078 hK1078 => ?_
  refine WC.block ?_
  refine WC.seq fun K1079 hK1079 => ?_
  -- region 7
  refine WC.region ?_
  -- R7.0 15 := zzsize.go:16 move
  refine WL.v (by first | exact r_move (v := .int _ _) rfl | exact r_move rfl) rfl rfl rfl ?_
  -- R7.1 16 := zzsize.go:16 move
  refine WL.v (by first | exact r_move (v := .slice _ _ _) rfl | exact r_move rfl) rfl rfl rfl ?_
  -- R7.2 17 := zzsize.go:16 move
  refine WL.v (by first | exact r_move (v := .int _ _) rfl | exact r_move rfl) rfl rfl rfl ?_
  -- R7.3 18 := zzsize.go:16 indexAddr
  refine WL.v (by exact r_indexS ty_sl22 rfl rfl rfl (by omega)) rfl rfl rfl ?_
  -- R7.4 19 := zzsize.go:16 fieldAddr
  refine WL.v (by exact r_field ty_fld45_1 rfl) rfl rfl rfl ?_
  -- R7.5 20 := zzsize.go:16 fieldAddr
  refine WL.v (by exact r_field ty_fld43_2 rfl) rfl rfl rfl ?_
  -- R7.6 21 := zzsize.go:16 fieldAddr
  refine WL.v (by exact r_field ty_fld36_10 rfl) rfl rfl rfl ?_
  -- R7.7 22 := zzsize.go:16 load
  refine WL.v (by exact r_load1 ty_one25 rfl (st.old (fun h => h) (hS.cell i hlt 31 (by decide)))) rfl rfl rfl ?_
  -- R7.8 23 := zzsize.go:16 call
  refine WL.v (by exact r_len ty_usl25 rfl) rfl rfl rfl ?_
  -- R7.9 24 := zzsize.go:16 binOp
  refine WL.v (by exact r_add (r := ((s + (f i).s1.bs.length : Nat) : Int)) rfl rfl (by rw [wi64 (by omega) (by omega)]; omega)) rfl rfl rfl ?_
  -- R7.10 3 := zzsize.go:16 assign
  refine WL.v (by first | exact r_assign (v := .int _ _) rfl | exact r_assign rfl) rfl rfl rfl ?_
  refine WL.fin hK1079 (fun _ _ h => h) ?_
  refine WC.seq fun K1080 hK1080 => ?_
  refine WC.seq fun K1081 hK1081 => ?_
  -- region 8
  refine WC.region ?_
  -- R8.0 25 := zzsize.go:17 move
  refine WL.v (by first | exact r_move (v := .int _ _) rfl | exact r_move rfl) rfl rfl rfl ?_
  -- R8.1 26 := zzsize.go:17 binOp
  refine WL.v (by first | exact r_gtr rfl rfl (decide_eq_true (by omega)) | exact r_gtr rfl rfl (decide_eq_false (by omega)) | exact r_gtr rfl rfl rfl) rfl rfl rfl ?_
  refine WL.fin hK1081 (fun _ _ h => h) ?_
  refine WC.condF rfl rfl ?_
  refine WC.skipF hK1080 (fun _ _ h => h) ?_
  refine WC.seq fun K1082 hK1082 => ?_
  -- region 10
  refine WC.region ?_
  -- R10.0 27 := zzsize.go:20 move
  refine WL.v (by first | exact r_move (v := .int _ _) rfl | exact r_move rfl) rfl rfl rfl ?_
  -- R10.1 28 := zzsize.go:20 move
  refine WL.v (by first | exact r_move (v := .slice _ _ _) rfl | exact r_move rfl) rfl rfl rfl ?_
  -- R10.2 29 := zzsize.go:20 move
  refine WL.v (by first | exact r_move (v := .int _ _) rfl | exact r_move rfl) rfl rfl rfl ?_
  -- R10.3 30 := zzsize.go:20 indexAddr
  refine WL.v (by exact r_indexS ty_sl22 rfl rfl rfl (by omega)) rfl rfl rfl ?_
  -- R10.4 31 := zzsize.go:20 fieldAddr
  refine WL.v (by exact r_field ty_fld45_1 rfl) rfl rfl rfl ?_
  -- R10.5 32 := zzsize.go:20 fieldAddr
  refine WL.v (by exact r_field ty_fld43_3 rfl) rfl rfl rfl ?_
  -- R10.6 33 := zzsize.go:20 fieldAddr
  refine WL.v (by exact r_field ty_fld39_9 rfl) rfl rfl rfl ?_
  -- R10.7 34 := zzsize.go:20 load
  refine WL.v (by exact r_load1 ty_one25 rfl (st.old (fun h => h) (hS.cell i hlt 41 (by decide)))) rfl rfl rfl ?_
  -- R10.8 35 := zzsize.go:20 call
  refine WL.v (by exact r_len ty_usl25 rfl) rfl rfl rfl ?_
  -- R10.9 36 := zzsize.go:20 binOp
  refine WL.v (by exact r_add (r := ((s + (f i).s1.bs.length + (f i).s2.bs.length : Nat) : Int)) rfl rfl (by rw [wi64 (by omega) (by omega)]; omega)) rfl rfl rfl ?_
  -- R10.10 3 := zzsize.go:20 assign
  refine WL.v (by first | exact r_assign (v := .int _ _) rfl | exact r_assign rfl) rfl rfl rfl ?_
  refine WL.fin hK1082 (fun _ _ h => h) ?_
  refine WC.seq fun K1083 hK1083 => ?_
  refine WC.seq fun K1084 hK1084 => ?_
  -- region 11
  refine WC.region ?_
  -- R11.0 37 := zzsize.go:21 move
  refine WL.v (by first | exact r_move (v := .int _ _) rfl | exact r_move rfl) rfl rfl rfl ?_
  -- R11.1 38 := zzsize.go:21 binOp
  refine WL.v (by first | exact r_gtr rfl rfl (decide_eq_true (by omega)) | exact r_gtr rfl rfl (decide_eq_false (by omega)) | exact r_gtr rfl rfl rfl) rfl rfl rfl ?_
  refine WL.fin hK1084 (fun _ _ h => h) ?_
  refine WC.condF rfl rfl ?_
  refine WC.skipF hK1083 (fun _ _ h => h) ?_
  refine WC.seq fun K1085 hK1085 => ?_
  -- region 13
  refine WC.region ?_
  -- R13.0 39 := zzsize.go:24 move
  refine WL.v (by first | exact r_move (v := .int _ _) rfl | exact r_move rfl) rfl rfl rfl ?_
  -- R13.1 40 := zzsize.go:24 move
  refine WL.v (by first | exact r_move (v := .slice _ _ _) rfl | exact r_move rfl) rfl rfl rfl ?_
  -- R13.2 41 := zzsize.go:24 move
  refine WL.v (by first | exact r_move (v := .int _ _) rfl | exact r_move rfl) rfl rfl rfl ?_
  -- R13.3 42 := zzsize.go:24 indexAddr
  refine WL.v (by exact r_indexS ty_sl22 rfl rfl rfl (by omega)) rfl rfl rfl ?_
  -- R13.4 43 := zzsize.go:24 fieldAddr
  refine WL.v (by exact r_field ty_fld45_1 rfl) rfl rfl rfl ?_
  -- R13.5 44 := zzsize.go:24 fieldAddr
  refine WL.v (by exact r_field ty_fld43_4 rfl) rfl rfl rfl ?_
  -- R13.6 45 := zzsize.go:24 fieldAddr
  refine WL.v (by exact r_field ty_fld41_4 rfl) rfl rfl rfl ?_
  -- R13.7 46 := zzsize.go:24 fieldAddr
  refine WL.v (by exact r_field ty_fld36_10 rfl) rfl rfl rfl ?_
  -- R13.8 47 := zzsize.go:24 load
  refine WL.v (by exact r_load1 ty_one25 rfl (st.old (fun h => h) (hS.cell i hlt 62 (by decide)))) rfl rfl rfl ?_
  -- R13.9 48 := zzsize.go:24 call
  refine WL.v (by exact r_len ty_usl25 rfl) rfl rfl rfl ?_
  -- R13.10 49 := zzsize.go:24 binOp
  refine WL.v (by exact r_add (r := ((s + (f i).s1.bs.length + (f i).s2.bs.length + (f i).s3.bs.length : Nat) : Int)) rfl rfl (by rw [wi64 (by omega) (by omega)]; omega)) rfl rfl rfl ?_
  -- R13.11 3 := zzsize.go:24 assign
  refine WL.v (by first | exact r_assign (v := .int _ _) rfl | exact r_assign rfl) rfl rfl rfl ?_
  refine WL.fin hK1085 (fun _ _ h => h) ?_
  refine WC.seq fun K1086 hK1086 => ?_
  refine WC.seq fun K1087 hK1087 => ?_
  -- region 14
  refine WC.region ?_
  -- R14.0 50 := zzsize.go:25 move
  refine WL.v (by first | exact r_move (v := .int _ _) rfl | exact r_move rfl) rfl rfl rfl ?_
  -- R14.1 51 := zzsize.go:25 binOp
  refine WL.v (by first | exact r_gtr rfl rfl (decide_eq_true (by omega)) | exact r_gtr rfl rfl (decide_eq_false (by omega)) | exact r_gtr rfl rfl rfl) rfl rfl rfl ?_
  refine WL.fin hK1087 (fun _ _ h => h) ?_
  refine WC.condF rfl rfl ?_
  refine WC.skipF hK1086 (fun _ _ h => h) ?_
  refine WC.seq fun K1088 hK1088 => ?_
  -- region 16
  refine WC.region ?_
  -- R16.0 52 := zzsize.go:28 move
  refine WL.v (by first | exact r_move (v := .int _ _) rfl | exact r_move rfl) rfl rfl rfl ?_
  -- R16.1 53 := zzsize.go:28 move
  refine WL.v (by first | exact r_move (v := .slice _ _ _) rfl | exact r_move rfl) rfl rfl rfl ?_
  -- R16.2 54 := zzsize.go:28 move
  refine WL.v (by first | exact r_move (v := .int _ _) rfl | exact r_move rfl) rfl rfl rfl ?_
  -- R16.3 55 := zzsize.go:28 indexAddr
  refine WL.v (by exact r_indexS ty_sl22 rfl rfl rfl (by omega)) rfl rfl rfl ?_
  -- R16.4 56 := zzsize.go:28 fieldAddr
  refine WL.v (by exact r_field ty_fld45_1 rfl) rfl rfl rfl ?_
  -- R16.5 57 := zzsize.go:28 fieldAddr
  refine WL.v (by exact r_field ty_fld43_5 rfl) rfl rfl rfl ?_
  -- R16.6 58 := zzsize.go:28 load
  refine WL.v (by exact r_load1 ty_one25 rfl (st.old (fun h => h) (hS.cell i hlt 63 (by decide)))) rfl rfl rfl ?_
  -- R16.7 59 := zzsize.go:28 call
  refine WL.v (by exact r_len ty_usl25 rfl) rfl rfl rfl ?_
  -- R16.8 60 := zzsize.go:28 binOp
  refine WL.v (by exact r_add (r := ((s + (f i).s1.bs.length + (f i).s2.bs.length + (f i).s3.bs.length + (f i).s4.bs.length : Nat) : Int)) rfl rfl (by rw [wi64 (by omega) (by omega)]; omega)) rfl rfl rfl ?_
  -- R16.9 3 := zzsize.go:28 assign
  refine WL.v (by first | exact r_assign (v := .int _ _) rfl | exact r_assign rfl) rfl rfl rfl ?_
  refine WL.fin hK1088 (fun _ _ h => h) ?_
  refine WC.seq fun K1089 hK1089 => ?_
  refine WC.seq fun K1090 hK1090 => ?_
  -- region 17
  refine WC.region ?_
  -- R17.0 61 := zzsize.go:29 move
  refine WL.v (by first | exact r_move (v := .int _ _) rfl | exact r_move rfl) rfl rfl rfl ?_
  -- R17.1 62 := zzsize.go:29 binOp
  refine WL.v (by first | exact r_gtr rfl rfl (decide_eq_true (by omega)) | exact r_gtr rfl rfl (decide_eq_false (by omega)) | exact r_gtr rfl rfl rfl) rfl rfl rfl ?_
  refine WL.fin hK1090 (fun _ _ h => h) ?_
  refine WC.condF rfl rfl ?_
  refine WC.skipF hK1089 (fun _ _ h => h) ?_
  refine WC.seq fun K1091 hK1091 => ?_
  -- region 19
  refine WC.region ?_
  -- R19.0 63 := zzsize.go:32 move
  refine WL.v (by first | exact r_move (v := .int _ _) rfl | exact r_move rfl) rfl rfl rfl ?_
  -- R19.1 64 := zzsize.go:32 move
  refine WL.v (by first | exact r_move (v := .slice _ _ _) rfl | exact r_move rfl) rfl rfl rfl ?_
  -- R19.2 65 := zzsize.go:32 move
  refine WL.v (by first | exact r_move (v := .int _ _) rfl | exact r_move rfl) rfl rfl rfl ?_
  -- R19.3 66 := zzsize.go:32 indexAddr
  refine WL.v (by exact r_indexS ty_sl22 rfl rfl rfl (by omega)) rfl rfl rfl ?_
  -- R19.4 67 := zzsize.go:32 fieldAddr
  refine WL.v (by exact r_field ty_fld45_1 rfl) rfl rfl rfl ?_
  -- R19.5 68 := zzsize.go:32 fieldAddr
  refine WL.v (by exact r_field ty_fld43_6 rfl) rfl rfl rfl ?_
  -- R19.6 69 := zzsize.go:32 load
  refine WL.v (by exact r_load1 ty_one25 rfl (st.old (fun h => h) (hS.cell i hlt 64 (by decide)))) rfl rfl rfl ?_
  -- R19.7 70 := zzsize.go:32 call
  refine WL.v (by exact r_len ty_usl25 rfl) rfl rfl rfl ?_
  -- R19.8 71 := zzsize.go:32 binOp
  refine WL.v (by exact r_add (r := ((s + (f i).s1.bs.length + (f i).s2.bs.length + (f i).s3.bs.length + (f i).s4.bs.length + (f i).s5.bs.length : Nat) : Int)) rfl rfl (by rw [wi64 (by omega) (by omega)]; omega)) rfl rfl rfl ?_
  -- R19.9 3 := zzsize.go:32 assign
  refine WL.v (by first | exact r_assign (v := .int _ _) rfl | exact r_assign rfl) rfl rfl rfl ?_
  refine WL.fin hK1091 (fun _ _ h => h) ?_
  refine WC.seq fun K1092 hK1092 => ?_
  refine WC.seq fun K1093 hK1093 => ?_
  -- region 20
  refine WC.region ?_
  -- R20.0 72 := zzsize.go:33 move
  refine WL.v (by first | exact r_move (v := .int _ _) rfl | exact r_move rfl) rfl rfl rfl ?_
  -- R20.1 73 := zzsize.go:33 binOp
  refine WL.v (by first | exact r_gtr rfl rfl (decide_eq_true (by omega)) | exact r_gtr rfl rfl (decide_eq_false (by omega)) | exact r_gtr rfl rfl rfl) rfl rfl rfl ?_
  refine WL.fin hK1093 (fun _ _ h => h) ?_
  refine WC.condF rfl rfl ?_
  refine WC.skipF hK1092 (fun _ _ h => h) ?_
  refine WC.seq fun K1094 hK1094 => ?_
  -- region 22
  refine WC.region ?_
  -- R22.0 74 := zzsize.go:36 move
  refine WL.v (by first | exact r_move (v := .int _ _) rfl | exact r_move rfl) rfl rfl rfl ?_
  -- R22.1 75 := zzsize.go:36 move
  refine WL.v (by first | exact r_move (v := .slice _ _ _) rfl | exact r_move rfl) rfl rfl rfl ?_
  -- R22.2 76 := zzsize.go:36 move
  refine WL.v (by first | exact r_move (v := .int _ _) rfl | exact r_move rfl) rfl rfl rfl ?_
  -- R22.3 77 := zzsize.go:36 indexAddr
  refine WL.v (by exact r_indexS ty_sl22 rfl rfl rfl (by omega)) rfl rfl rfl ?_
  -- R22.4 78 := zzsize.go:36 fieldAddr
  refine WL.v (by exact r_field ty_fld45_2 rfl) rfl rfl rfl ?_
  -- R22.5 79 := zzsize.go:36 load
  refine WL.v (by exact r_load1 ty_one25 rfl (st.old (fun h => h) (hS.cell i hlt 65 (by decide)))) rfl rfl rfl ?_
  -- R22.6 80 := zzsize.go:36 call
  refine WL.v (by exact r_len ty_usl25 rfl) rfl rfl rfl ?_
  -- R22.7 81 := zzsize.go:36 binOp
  refine WL.v (by exact r_add (r := ((s + (f i).s1.bs.length + (f i).s2.bs.length + (f i).s3.bs.length + (f i).s4.bs.length + (f i).s5.bs.length + (d i).bs.length : Nat) : Int)) rfl rfl (by rw [wi64 (by omega) (by omega)]; omega)) rfl rfl rfl ?_
  -- R22.8 3 := zzsize.go:36 assign
  refine WL.v (by first | exact r_assign (v := .int _ _) rfl | exact r_assign rfl) rfl rfl rfl ?_
  refine WL.fin hK1094 (fun _ _ h => h) ?_
  refine WC.seq fun K1095 hK1095 => ?_
  -- region 23
  refine WC.region ?_
  -- R23.0 82 := zzsize.go:37 move
  refine WL.v (by first | exact r_move (v := .int _ _) rfl | exact r_move rfl) rfl rfl rfl ?_
  -- R23.1 83 := zzsize.go:37 binOp
  refine WL.v (by first | exact r_gtr rfl rfl (decide_eq_true (by omega)) | exact r_gtr rfl rfl (decide_eq_false (by omega)) | exact r_gtr rfl rfl rfl) rfl rfl rfl ?_
  refine WL.fin hK1095 (fun _ _ h => h) ?_
  refine WC.condF rfl rfl ?_
  refine WC.skipF hK1078 (fun _ _ h => h) ?_
  -- region 6
  refine WC.region ?_
  -- R6.0 13 := zzsize.go:15 move
  refine WL.v (by first | exact r_move (v := .int _ _) rfl | exact r_move rfl) rfl rfl rfl ?_
  -- R6.1 14 := zzsize.go:15 binOp
  refine WL.v (by first | exact r_add rfl rfl (wi64 (by omega) (by omega)) | exact r_add rfl rfl rfl) rfl rfl rfl ?_
  -- R6.2 4 := zzsize.go:15 assign
  refine WL.v (by first | exact r_assign (v := .int _ _) rfl | exact r_assign rfl) rfl rfl rfl ?_
  refine WL.next hK1 (fun _ _ h => h) (i + 1, s + (f i).s1.bs.length + (f i).s2.bs.length + (f i).s3.bs.length + (f i).s4.bs.length + (f i).s5.bs.length + (d i).bs.length) ⟨st, by show i + 1 ≤ n; omega, by show s + (f i).s1.bs.length + (f i).s2.bs.length + (f i).s3.bs.length + (f i).s4.bs.length + (f i).s5.bs.length + (d i).bs.length ≤ 65536; omega, by show dsum d i + (d i).bs.length ≤ s + (f i).s1.bs.length + (f i).s2.bs.length + (f i).s3.bs.length + (f i).s4.bs.length + (f i).s5.bs.length + (d i).bs.length; omega, fun j hj => ?_⟩ (by show n - (i + 1) < n - i; omega) (by repeat (first | exact sub_nil _ | refine sub_cons rfl rfl ?_))
  simp only at hj
  by_cases hji : j = i
  · subst hji; exact ⟨by omega, by omega, by omega, by omega, by omega, by omega⟩
  · exact hl j (by omega)

/-- A state of the walk. -/
structure WkI where
  i : Nat
  v : Value
  bs : List Int
  XI : List HI

set_option maxHeartbeats 16000000 in
theorem walk_ok (hE : ErrOk w0 ET EU) (F : Nat) (hF : callT Tryd.prog F = true) (a : Option Addr) (sb so n c : Nat) (kd : Nat → Int) (f : Nat → FD) (d : Nat → SV) (off val : Nat → Int) (hS : Scr w0 sb so n kd f d off val) (hn : n ≤ 65536) (hds : dsum d n ≤ 65536) (hlens : ∀ i, i < n → Lens (f i) (d i)) (ha : 0 < n → a = some ⟨sb, so, none⟩)
    (hlook : ∀ (v0 v : Value) (bs : List Int) (XI L : List HI) (i : Nat) (w : World), i < n → BO 5 v bs XI → bs.length ≤ 100000000 → S0 w0 (XI ++ L) w → Calls Tryd.prog F #[v0, v, .agg (opC (kd i) (f i) (d i).v (off i) (val i)).toArray] w (Ret fun r w' => r = .bool true ∧ S0 w0 (XI ++ L) w')) (st : S0 w0 [] w) :
    Calls Tryd.prog 8 #[.slice a n c, .func (.func F) #[] #[]] w (Ret fun r w' => r = .bool true ∧ S0 w0 [] w') := by
  refine enter [.slice a n c, .func (.func F) #[] #[]] Tryd.func8 rfl Tryd.ntmps8 rfl ?_
  show WC _ _ _ 26 [] [(0, .slice a n c), (1, .func (.func F) #[] #[])] _
  refine WC.seq fun K1096 hK1096 => ?_
  -- region 0
  refine WC.region ?_
  -- R0.0 4 := wirelaw.go:53 assign
  refine WL.v (by first | exact r_assign (v := .bool _) rfl | exact r_assign rfl) rfl rfl rfl ?_
  refine WL.fin hK1096 (fun _ _ h => h) ?_
  refine WC.seq fun K1097 hK1097 => ?_
  -- region 1
  refine WC.region ?_
  -- R1.0 5 := wirelaw.go:54 assign
  refine WL.v (by first | exact r_assign (v := .slice _ _ _) rfl | exact r_assign rfl) rfl rfl rfl ?_
  refine WL.fin hK1097 (fun _ _ h => h) ?_
  refine WC.seq fun K1098 hK1098 => ?_
  refine WC.seq fun K1099 hK1099 => ?_
  -- region 2
  refine WC.region ?_
  -- R2.0 9 := wirelaw.go:55 move
  refine WL.v (by first | exact r_move (v := .slice _ _ _) rfl | exact r_move rfl) rfl rfl rfl ?_
  -- R2.1 10 := wirelaw.go:55 call
  refine WL.v (by exact r_len ty_usl22 rfl) rfl rfl rfl ?_
  -- R2.2 11 := wirelaw.go:55 move
  refine WL.v (by first | exact r_move (v := .int _ _) rfl | exact r_move rfl) rfl rfl rfl ?_
  refine WL.fin hK1099 (fun _ _ h => h) ?_
  refine WC.block ?_
  refine WC.loop (ι := WkI) (fun z => [(1, .func (.func F) #[] #[]), (5, z.v), (9, .slice a n c), (10, .int .i64 (n : Nat)), (11, .int .i64 (z.i : Nat))])
    (fun z w' => S0 w0 z.XI w' ∧ z.i ≤ n ∧ BO 5 z.v z.bs z.XI ∧ z.bs.length ≤ 400000 + dsum d z.i) (fun z => n - z.i) ⟨0, .slice none 0 0, [], []⟩ ⟨st, Nat.zero_le _, BO.nil _, Nat.zero_le _⟩ ?_ ?_
  · skip
    repeat (first | exact sub_nil _ | refine sub_cons rfl rfl ?_)
  clear st
  rintro ⟨i, v, bs, XI⟩ w ⟨st, hi, ho, hbl⟩ K1 hK1
  simp only at st hi ho hbl hK1 ⊢
  by_cases hlt : ¬ i < n
  · skip
    refine WC.seq fun K1100 hK1100 => ?_
    -- region 3
    refine WC.region ?_
    -- R3.0 12 := wirelaw.go:55 binOp
    refine WL.v (by first | exact r_lss rfl rfl (decide_eq_true (by omega)) | exact r_lss rfl rfl (decide_eq_false (by omega)) | exact r_lss rfl rfl rfl) rfl rfl rfl ?_
    refine WL.fin hK1100 (fun _ _ h => h) ?_
    refine WC.seq fun K1101 hK1101 => ?_
    refine WC.condF rfl rfl ?_
    refine WC.exitF hK1098 (fun _ _ h => h) ?_
    refine WC.seq fun K1102 hK1102 => ?_
    -- region 10
    refine WC.region ?_
    -- R10.0 4 := wirelaw.go:62 assign
    refine WL.v (by first | exact r_assign (v := .bool _) rfl | exact r_assign rfl) rfl rfl rfl ?_
    refine WL.fin hK1102 (fun _ _ h => h) ?_
    refine WC.ret1 Tryd.results8 (fun _ _ h => h) rfl ?_
    exact ⟨_, rfl, rfl, st_none st⟩
  have hlt : i < n := by omega
  obtain rfl := ha (by omega)
  have hdi := dsum_mono d (show i ≤ n by omega)
  have hop := (hS.pre i hlt).ok (hlens i hlt)
  have hdi2 := dsum_mono d (show i + 1 ≤ n by omega)
  have hdq : dsum d (i + 1) = dsum d i + (d i).bs.length := rfl
  refine WC.seq fun K1103 hK1103 => ?_
  -- region 3
  refine WC.region ?_
  -- R3.0 12 := wirelaw.go:55 binOp
  refine WL.v (by first | exact r_lss rfl rfl (decide_eq_true (by omega)) | exact r_lss rfl rfl (decide_eq_false (by omega)) | exact r_lss rfl rfl rfl) rfl rfl rfl ?_
  refine WL.fin hK1103 (fun _ _ h => h) ?_
  refine WC.seq fun K1104 hK1104 => ?_
  refine WC.condT rfl rfl ?_
  refine WC.skipF hK1104 (fun _ _ h => h) ?_
  refine WC.seq fun K1105 hK1105 => ?_
  refine WC.block ?_
  refine WC.seq fun K1106 hK1106 => ?_
  -- region 4
  refine WC.region ?_
  -- R4.0 13 := wirelaw.go:55 indexAddr
  refine WL.v (by exact r_indexS ty_sl22 rfl rfl rfl (by omega)) rfl rfl rfl ?_
  -- R4.1 14 := wirelaw.go:55 load
  refine WL.v (by exact r_loadL (vs := opC (kd i) (f i) (d i).v (off i) (val i)) ty_agg45 rfl ⟨st.old (fun h => h) (hS.cell i hlt 0 (by decide)), st.old (fun h => h) (hS.cell i hlt 1 (by decide)), st.old (fun h => h) (hS.cell i hlt 2 (by decide)), st.old (fun h => h) (hS.cell i hlt 3 (by decide)), st.old (fun h => h) (hS.cell i hlt 4 (by decide)), st.old (fun h => h) (hS.cell i hlt 5 (by decide)), st.old (fun h => h) (hS.cell i hlt 6 (by decide)), st.old (fun h => h) (hS.cell i hlt 7 (by decide)), st.old (fun h => h) (hS.cell i hlt 8 (by decide)), st.old (fun h => h) (hS.cell i hlt 9 (by decide)), st.old (fun h => h) (hS.cell i hlt 10 (by decide)), st.old (fun h => h) (hS.cell i hlt 11 (by decide)), st.old (fun h => h) (hS.cell i hlt 12 (by decide)), st.old (fun h => h) (hS.cell i hlt 13 (by decide)), st.old (fun h => h) (hS.cell i hlt 14 (by decide)), st.old (fun h => h) (hS.cell i hlt 15 (by decide)), st.old (fun h => h) (hS.cell i hlt 16 (by decide)), st.old (fun h => h) (hS.cell i hlt 17 (by decide)), st.old (fun h => h) (hS.cell i hlt 18 (by decide)), st.old (fun h => h) (hS.cell i hlt 19 (by decide)), st.old (fun h => h) (hS.cell i hlt 20 (by decide)), st.old (fun h => h) (hS.cell i hlt 21 (by decide)), st.old (fun h => h) (hS.cell i hlt 22 (by decide)), st.old (fun h => h) (hS.cell i hlt 23 (by decide)), st.old (fun h => h) (hS.cell i hlt 24 (by decide)), st.old (fun h => h) (hS.cell i hlt 25 (by decide)), st.old (fun h => h) (hS.cell i hlt 26 (by decide)), st.old (fun h => h) (hS.cell i hlt 27 (by decide)), st.old (fun h => h) (hS.cell i hlt 28 (by decide)), st.old (fun h => h) (hS.cell i hlt 29 (by decide)), st.old (fun h => h) (hS.cell i hlt 30 (by decide)), st.old (fun h => h) (hS.cell i hlt 31 (by decide)), st.old (fun h => h) (hS.cell i hlt 32 (by decide)), st.old (fun h => h) (hS.cell i hlt 33 (by decide)), st.old (fun h => h) (hS.cell i hlt 34 (by decide)), st.old (fun h => h) (hS.cell i hlt 35 (by decide)), st.old (fun h => h) (hS.cell i hlt 36 (by decide)), st.old (fun h => h) (hS.cell i hlt 37 (by decide)), st.old (fun h => h) (hS.cell i hlt 38 (by decide)), st.old (fun h => h) (hS.cell i hlt 39 (by decide)), st.old (fun h => h) (hS.cell i hlt 40 (by decide)), st.old (fun h => h) (hS.cell i hlt 41 (by decide)), st.old (fun h => h) (hS.cell i hlt 42 (by decide)), st.old (fun h => h) (hS.cell i hlt 43 (by decide)), st.old (fun h => h) (hS.cell i hlt 44 (by decide)), st.old (fun h => h) (hS.cell i hlt 45 (by decide)), st.old (fun h => h) (hS.cell i hlt 46 (by decide)), st.old (fun h => h) (hS.cell i hlt 47 (by decide)), st.old (fun h => h) (hS.cell i hlt 48 (by decide)), st.old (fun h => h) (hS.cell i hlt 49 (by decide)), st.old (fun h => h) (hS.cell i hlt 50 (by decide)), st.old (fun h => h) (hS.cell i hlt 51 (by decide)), st.old (fun h => h) (hS.cell i hlt 52 (by decide)), st.old (fun h => h) (hS.cell i hlt 53 (by decide)), st.old (fun h => h) (hS.cell i hlt 54 (by decide)), st.old (fun h => h) (hS.cell i hlt 55 (by decide)), st.old (fun h => h) (hS.cell i hlt 56 (by decide)), st.old (fun h => h) (hS.cell i hlt 57 (by decide)), st.old (fun h => h) (hS.cell i hlt 58 (by decide)), st.old (fun h => h) (hS.cell i hlt 59 (by decide)), st.old (fun h => h) (hS.cell i hlt 60 (by decide)), st.old (fun h => h) (hS.cell i hlt 61 (by decide)), st.old (fun h => h) (hS.cell i hlt 62 (by decide)), st.old (fun h => h) (hS.cell i hlt 63 (by decide)), st.old (fun h => h) (hS.cell i hlt 64 (by decide)), st.old (fun h => h) (hS.cell i hlt 65 (by decide)), st.old (fun h => h) (hS.cell i hlt 66 (by decide)), st.old (fun h => h) (hS.cell i hlt 67 (by decide)), trivial⟩) rfl rfl rfl ?_
  -- R4.2 7 := wirelaw.go:55 alloc
  refine WL.alloc (m := 68) st ty_zero45 rfl rfl rfl ?_
  intro b7 w st
  -- R4.3 None := wirelaw.go:55 store
  refine WL.storeW (m := 68) (vs := opC (kd i) (f i) (d i).v (off i) (val i)) st ty_agg45 rfl rfl rfl rfl rfl rfl ?_
  intro w st
  have st : S0 w0 (XI ++ [(b7, Row 45 68 (nth (opC (kd i) (f i) (d i).v (off i) (val i))))]) w := st_swap (P := [_]) (Q := XI) st
  have hcf : ∀ its w', S0 w0 (its ++ [(b7, Row 45 68 (nth (opC (kd i) (f i) (d i).v (off i) (val i))))]) w' → CF w' b7 0 68 (nth (opC (kd i) (f i) (d i).v (off i) (val i))) := fun its w' q => cf_row (t := 45) q (by simp)
  refine WL.fin hK1106 (fun _ _ h => h) ?_
  refine WC.seq fun K1107 hK1107 => ?_
  -- region 5
  refine WC.region ?_
  -- R5.0 15 := wirelaw.go:56 move
  refine WL.v (by first | exact r_move (v := .slice _ _ _) rfl | exact r_move rfl) rfl rfl rfl ?_
  -- R5.1 16 := wirelaw.go:56 load
  refine WL.v (by exact r_loadL (vs := opC (kd i) (f i) (d i).v (off i) (val i)) ty_agg45 rfl ⟨hcf _ _ st 0 (by decide), hcf _ _ st 1 (by decide), hcf _ _ st 2 (by decide), hcf _ _ st 3 (by decide), hcf _ _ st 4 (by decide), hcf _ _ st 5 (by decide), hcf _ _ st 6 (by decide), hcf _ _ st 7 (by decide), hcf _ _ st 8 (by decide), hcf _ _ st 9 (by decide), hcf _ _ st 10 (by decide), hcf _ _ st 11 (by decide), hcf _ _ st 12 (by decide), hcf _ _ st 13 (by decide), hcf _ _ st 14 (by decide), hcf _ _ st 15 (by decide), hcf _ _ st 16 (by decide), hcf _ _ st 17 (by decide), hcf _ _ st 18 (by decide), hcf _ _ st 19 (by decide), hcf _ _ st 20 (by decide), hcf _ _ st 21 (by decide), hcf _ _ st 22 (by decide), hcf _ _ st 23 (by decide), hcf _ _ st 24 (by decide), hcf _ _ st 25 (by decide), hcf _ _ st 26 (by decide), hcf _ _ st 27 (by decide), hcf _ _ st 28 (by decide), hcf _ _ st 29 (by decide), hcf _ _ st 30 (by decide), hcf _ _ st 31 (by decide), hcf _ _ st 32 (by decide), hcf _ _ st 33 (by decide), hcf _ _ st 34 (by decide), hcf _ _ st 35 (by decide), hcf _ _ st 36 (by decide), hcf _ _ st 37 (by decide), hcf _ _ st 38 (by decide), hcf _ _ st 39 (by decide), hcf _ _ st 40 (by decide), hcf _ _ st 41 (by decide), hcf _ _ st 42 (by decide), hcf _ _ st 43 (by decide), hcf _ _ st 44 (by decide), hcf _ _ st 45 (by decide), hcf _ _ st 46 (by decide), hcf _ _ st 47 (by decide), hcf _ _ st 48 (by decide), hcf _ _ st 49 (by decide), hcf _ _ st 50 (by decide), hcf _ _ st 51 (by decide), hcf _ _ st 52 (by decide), hcf _ _ st 53 (by decide), hcf _ _ st 54 (by decide), hcf _ _ st 55 (by decide), hcf _ _ st 56 (by decide), hcf _ _ st 57 (by decide), hcf _ _ st 58 (by decide), hcf _ _ st 59 (by decide), hcf _ _ st 60 (by decide), hcf _ _ st 61 (by decide), hcf _ _ st 62 (by decide), hcf _ _ st 63 (by decide), hcf _ _ st 64 (by decide), hcf _ _ st 65 (by decide), hcf _ _ st 66 (by decide), hcf _ _ st 67 (by decide), trivial⟩) rfl rfl rfl ?_
  -- R5.2 17 := wirelaw.go:56 call
  refine WL.call (r_call ty_call26 rfl) rfl rfl rfl (apply_ok hE (kd i) (f i) (d i) (off i) (val i) hop ho (by omega) st) ?_
  rintro v' w ⟨bs', XN, hbn, hbl', st⟩
  have hbl2 : bs'.length ≤ 400000 + dsum d (i + 1) := by omega
  -- R5.3 8 := wirelaw.go:56 assign
  refine WL.v (by first | exact r_assign (v := .slice _ _ _) rfl | exact r_assign rfl) rfl rfl rfl ?_
  refine WL.fin hK1107 (fun _ _ h => h) ?_
  refine WC.seq fun K1108 hK1108 => ?_
  refine WC.seq fun K1109 hK1109 => ?_
  -- region 6
  refine WC.region ?_
  -- R6.0 18 := wirelaw.go:57 move
  refine WL.v (by first | exact r_move (v := .func _ _ _) rfl | exact r_move (v := .nilFunc) rfl | exact r_move rfl) rfl rfl rfl ?_
  -- R6.1 19 := wirelaw.go:57 move
  refine WL.v (by first | exact r_move (v := .slice _ _ _) rfl | exact r_move rfl) rfl rfl rfl ?_
  -- R6.2 20 := wirelaw.go:57 move
  refine WL.v (by first | exact r_move (v := .slice _ _ _) rfl | exact r_move rfl) rfl rfl rfl ?_
  -- R6.3 21 := wirelaw.go:57 load
  refine WL.v (by exact r_loadL (vs := opC (kd i) (f i) (d i).v (off i) (val i)) ty_agg45 rfl ⟨hcf (XN ++ XI) _ (by rw [List.append_assoc]; exact st) 0 (by decide), hcf (XN ++ XI) _ (by rw [List.append_assoc]; exact st) 1 (by decide), hcf (XN ++ XI) _ (by rw [List.append_assoc]; exact st) 2 (by decide), hcf (XN ++ XI) _ (by rw [List.append_assoc]; exact st) 3 (by decide), hcf (XN ++ XI) _ (by rw [List.append_assoc]; exact st) 4 (by decide), hcf (XN ++ XI) _ (by rw [List.append_assoc]; exact st) 5 (by decide), hcf (XN ++ XI) _ (by rw [List.append_assoc]; exact st) 6 (by decide), hcf (XN ++ XI) _ (by rw [List.append_assoc]; exact st) 7 (by decide), hcf (XN ++ XI) _ (by rw [List.append_assoc]; exact st) 8 (by decide), hcf (XN ++ XI) _ (by rw [List.append_assoc]; exact st) 9 (by decide), hcf (XN ++ XI) _ (by rw [List.append_assoc]; exact st) 10 (by decide), hcf (XN ++ XI) _ (by rw [List.append_assoc]; exact st) 11 (by decide), hcf (XN ++ XI) _ (by rw [List.append_assoc]; exact st) 12 (by decide), hcf (XN ++ XI) _ (by rw [List.append_assoc]; exact st) 13 (by decide), hcf (XN ++ XI) _ (by rw [List.append_assoc]; exact st) 14 (by decide), hcf (XN ++ XI) _ (by rw [List.append_assoc]; exact st) 15 (by decide), hcf (XN ++ XI) _ (by rw [List.append_assoc]; exact st) 16 (by decide), hcf (XN ++ XI) _ (by rw [List.append_assoc]; exact st) 17 (by decide), hcf (XN ++ XI) _ (by rw [List.append_assoc]; exact st) 18 (by decide), hcf (XN ++ XI) _ (by rw [List.append_assoc]; exact st) 19 (by decide), hcf (XN ++ XI) _ (by rw [List.append_assoc]; exact st) 20 (by decide), hcf (XN ++ XI) _ (by rw [List.append_assoc]; exact st) 21 (by decide), hcf (XN ++ XI) _ (by rw [List.append_assoc]; exact st) 22 (by decide), hcf (XN ++ XI) _ (by rw [List.append_assoc]; exact st) 23 (by decide), hcf (XN ++ XI) _ (by rw [List.append_assoc]; exact st) 24 (by decide), hcf (XN ++ XI) _ (by rw [List.append_assoc]; exact st) 25 (by decide), hcf (XN ++ XI) _ (by rw [List.append_assoc]; exact st) 26 (by decide), hcf (XN ++ XI) _ (by rw [List.append_assoc]; exact st) 27 (by decide), hcf (XN ++ XI) _ (by rw [List.append_assoc]; exact st) 28 (by decide), hcf (XN ++ XI) _ (by rw [List.append_assoc]; exact st) 29 (by decide), hcf (XN ++ XI) _ (by rw [List.append_assoc]; exact st) 30 (by decide), hcf (XN ++ XI) _ (by rw [List.append_assoc]; exact st) 31 (by decide), hcf (XN ++ XI) _ (by rw [List.append_assoc]; exact st) 32 (by decide), hcf (XN ++ XI) _ (by rw [List.append_assoc]; exact st) 33 (by decide), hcf (XN ++ XI) _ (by rw [List.append_assoc]; exact st) 34 (by decide), hcf (XN ++ XI) _ (by rw [List.append_assoc]; exact st) 35 (by decide), hcf (XN ++ XI) _ (by rw [List.append_assoc]; exact st) 36 (by decide), hcf (XN ++ XI) _ (by rw [List.append_assoc]; exact st) 37 (by decide), hcf (XN ++ XI) _ (by rw [List.append_assoc]; exact st) 38 (by decide), hcf (XN ++ XI) _ (by rw [List.append_assoc]; exact st) 39 (by decide), hcf (XN ++ XI) _ (by rw [List.append_assoc]; exact st) 40 (by decide), hcf (XN ++ XI) _ (by rw [List.append_assoc]; exact st) 41 (by decide), hcf (XN ++ XI) _ (by rw [List.append_assoc]; exact st) 42 (by decide), hcf (XN ++ XI) _ (by rw [List.append_assoc]; exact st) 43 (by decide), hcf (XN ++ XI) _ (by rw [List.append_assoc]; exact st) 44 (by decide), hcf (XN ++ XI) _ (by rw [List.append_assoc]; exact st) 45 (by decide), hcf (XN ++ XI) _ (by rw [List.append_assoc]; exact st) 46 (by decide), hcf (XN ++ XI) _ (by rw [List.append_assoc]; exact st) 47 (by decide), hcf (XN ++ XI) _ (by rw [List.append_assoc]; exact st) 48 (by decide), hcf (XN ++ XI) _ (by rw [List.append_assoc]; exact st) 49 (by decide), hcf (XN ++ XI) _ (by rw [List.append_assoc]; exact st) 50 (by decide), hcf (XN ++ XI) _ (by rw [List.append_assoc]; exact st) 51 (by decide), hcf (XN ++ XI) _ (by rw [List.append_assoc]; exact st) 52 (by decide), hcf (XN ++ XI) _ (by rw [List.append_assoc]; exact st) 53 (by decide), hcf (XN ++ XI) _ (by rw [List.append_assoc]; exact st) 54 (by decide), hcf (XN ++ XI) _ (by rw [List.append_assoc]; exact st) 55 (by decide), hcf (XN ++ XI) _ (by rw [List.append_assoc]; exact st) 56 (by decide), hcf (XN ++ XI) _ (by rw [List.append_assoc]; exact st) 57 (by decide), hcf (XN ++ XI) _ (by rw [List.append_assoc]; exact st) 58 (by decide), hcf (XN ++ XI) _ (by rw [List.append_assoc]; exact st) 59 (by decide), hcf (XN ++ XI) _ (by rw [List.append_assoc]; exact st) 60 (by decide), hcf (XN ++ XI) _ (by rw [List.append_assoc]; exact st) 61 (by decide), hcf (XN ++ XI) _ (by rw [List.append_assoc]; exact st) 62 (by decide), hcf (XN ++ XI) _ (by rw [List.append_assoc]; exact st) 63 (by decide), hcf (XN ++ XI) _ (by rw [List.append_assoc]; exact st) 64 (by decide), hcf (XN ++ XI) _ (by rw [List.append_assoc]; exact st) 65 (by decide), hcf (XN ++ XI) _ (by rw [List.append_assoc]; exact st) 66 (by decide), hcf (XN ++ XI) _ (by rw [List.append_assoc]; exact st) 67 (by decide), trivial⟩) rfl rfl rfl ?_
  -- R6.4 22 := wirelaw.go:57 call
  refine WL.call (r_callv hF rfl rfl) rfl rfl rfl (hlook _ v' bs' XN _ i w hlt hbn (by omega) st) ?_
  rintro _ w ⟨rfl, st⟩
  -- R6.5 23 := wirelaw.go:57 unOp
  refine WL.v (by first | exact r_notT rfl | exact r_notF rfl | exact r_not rfl) rfl rfl rfl ?_
  refine WL.fin hK1109 (fun _ _ h => h) ?_
  refine WC.condF rfl rfl ?_
  refine WC.skipF hK1108 (fun _ _ h => h) ?_
  -- region 8
  refine WC.region ?_
  -- R8.0 24 := wirelaw.go:60 move
  refine WL.v (by first | exact r_move (v := .slice _ _ _) rfl | exact r_move rfl) rfl rfl rfl ?_
  -- R8.1 5 := wirelaw.go:60 assign
  refine WL.v (by first | exact r_assign (v := .slice _ _ _) rfl | exact r_assign rfl) rfl rfl rfl ?_
  refine WL.fin hK1105 (fun _ _ h => h) ?_
  -- region 9
  refine WC.region ?_
  -- R9.0 25 := wirelaw.go:55 binOp
  refine WL.v (by first | exact r_add rfl rfl (wi64 (by omega) (by omega)) | exact r_add rfl rfl rfl) rfl rfl rfl ?_
  -- R9.1 11 := wirelaw.go:55 move
  refine WL.v (by first | exact r_move (v := .int _ _) rfl | exact r_move rfl) rfl rfl rfl ?_
  refine WL.next hK1 (fun _ _ h => h) ⟨i + 1, v', bs', XN⟩ ⟨st.sublist (List.sublist_append_left _ _), by show i + 1 ≤ n; omega, hbn, hbl2⟩ (by show n - (i + 1) < n - i; omega) (by repeat (first | exact sub_nil _ | refine sub_cons rfl rfl ?_))

set_option maxHeartbeats 4000000 in
theorem serInv_ok (a : Option Addr) (sb so n c : Nat) (kd : Nat → Int) (f : Nat → FD) (d : Nat → SV) (off val : Nat → Int) {w : World} (hE : ErrOk w ET EU) (hS : Scr w sb so n kd f d off val) (hn63 : n ≤ 140737488355328) (hlb : ∀ i, i < n → (f i).s1.bs.length ≤ 140737488355328 ∧ (f i).s2.bs.length ≤ 140737488355328 ∧ (f i).s3.bs.length ≤ 140737488355328 ∧ (f i).s4.bs.length ≤ 140737488355328 ∧ (f i).s5.bs.length ≤ 140737488355328 ∧ (d i).bs.length ≤ 140737488355328) (ha : 0 < n → a = some ⟨sb, so, none⟩) :
    Calls Tryd.prog 3 #[.slice a n c] w (Ret fun v w' => v = .bool true ∧ S0 w [] w') := by
  have st0 := St.init w (fun _ => False)
  obtain ⟨w0, hw0⟩ : ∃ w0, w0 = w := ⟨w, rfl⟩
  have st : S0 w0 [] w := by rw [hw0]; exact st0
  clear st0
  have hE : ErrOk w0 ET EU := by rw [hw0]; exact hE
  have hS : Scr w0 sb so n kd f d off val := by rw [hw0]; exact hS
  have goal : Calls Tryd.prog 3 #[.slice a n c] w (Ret fun v w' => v = .bool true ∧ S0 w0 [] w') := by
    clear hw0
    refine enter [.slice a n c] Tryd.func3 rfl Tryd.ntmps3 rfl ?_
    show WC _ _ _ 8 [] [(0, .slice a n c)] _
    refine WC.seq fun K1110 hK1110 => ?_
    -- region 0
    refine WC.region ?_
    -- R0.0 2 := wirelaw.go:220 assign
    refine WL.v (by first | exact r_assign (v := .bool _) rfl | exact r_assign rfl) rfl rfl rfl ?_
    refine WL.fin hK1110 (fun _ _ h => h) ?_
    refine WC.seq fun K1111 hK1111 => ?_
    refine WC.seq fun K1112 hK1112 => ?_
    -- region 1
    refine WC.region ?_
    -- R1.0 3 := wirelaw.go:221 move
    refine WL.v (by first | exact r_move (v := .slice _ _ _) rfl | exact r_move rfl) rfl rfl rfl ?_
    -- R1.1 4 := wirelaw.go:221 call
    refine WL.call (r_call ty_call7 rfl) rfl rfl rfl (zzSmall1_ok a sb so n c kd f d off val hS hn63 hlb ha st) ?_
    rintro _ w ⟨t, rfl, ht, st⟩
    -- R1.2 5 := wirelaw.go:221 unOp
    refine WL.v (by first | exact r_notT rfl | exact r_notF rfl | exact r_not rfl) rfl rfl rfl ?_
    refine WL.fin hK1112 (fun _ _ h => h) ?_
    rcases t with _ | _
    · skip
      refine WC.condT rfl rfl ?_
      refine WC.seq fun K1113 hK1113 => ?_
      -- region 2
      refine WC.region ?_
      -- R2.0 2 := wirelaw.go:222 assign
      refine WL.v (by first | exact r_assign (v := .bool _) rfl | exact r_assign rfl) rfl rfl rfl ?_
      refine WL.fin hK1113 (fun _ _ h => h) ?_
      refine WC.ret1 Tryd.results3 (fun _ _ h => h) rfl ?_
      exact ⟨_, rfl, rfl, st⟩
    obtain ⟨hn, hds, hl⟩ := ht rfl
    refine WC.condF rfl rfl ?_
    refine WC.skipF hK1111 (fun _ _ h => h) ?_
    refine WC.seq fun K1114 hK1114 => ?_
    -- region 3
    refine WC.region ?_
    -- R3.0 6 := wirelaw.go:225 move
    refine WL.v (by first | exact r_move (v := .slice _ _ _) rfl | exact r_move rfl) rfl rfl rfl ?_
    -- R3.1 7 := wirelaw.go:225 call
    refine WL.call (r_call ty_call8 rfl) rfl rfl rfl (walk_ok hE 9 ty_call9 a sb so n c kd f d off val hS hn hds hl ha (fun v0 v bs XI L i w hi ho hb st => lookS_ok hE v0 _ _ _ _ _ ho hb st) st) ?_
    rintro _ w ⟨rfl, st⟩
    -- R3.2 2 := wirelaw.go:225 assign
    refine WL.v (by first | exact r_assign (v := .bool _) rfl | exact r_assign rfl) rfl rfl rfl ?_
    refine WL.fin hK1114 (fun _ _ h => h) ?_
    refine WC.ret1 Tryd.results3 (fun _ _ h => h) rfl ?_
    exact ⟨_, rfl, rfl, st⟩
  rw [hw0] at goal
  exact goal
end Go.Proofs.Qxb6500841aDoor

