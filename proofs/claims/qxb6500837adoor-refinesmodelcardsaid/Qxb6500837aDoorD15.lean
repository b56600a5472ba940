import Derived.Test.Qxb6500837aDoorD14
set_option linter.unusedVariables false
set_option linter.unusedSimpArgs false
set_option maxRecDepth 20000
namespace Go.Proofs.Qxb6500837aDoor
open Go.RowKit Go.E1 Go.Disk
variable {w0 : World} {L L' l : List HI} {w : World} {D : DK} {m : Int} {P : PD} {q : Obj → Prop}

def opC (o : OP) : List Value := [.int .i64 o.kind, .int .i64 o.sct, .int .i64 o.cnt, .int .i64 o.cache, .slice o.dat.a o.dat.bs.length o.dat.c, .int .i64 o.after, .slice o.kp.a o.kp.bs.length o.kp.c, .int .i64 o.tear, .int .i64 o.tb]
structure OP.pre (w0 : World) (o : OP) : Prop where
  sct : -9223372036854775808 ≤ o.sct ∧ o.sct ≤ 9223372036854775807
  cnt : -9223372036854775808 ≤ o.cnt ∧ o.cnt ≤ 9223372036854775807
  after : o.after ≤ 9223372036854775807
  dat : o.dat.ok
  datr : o.dat.rd w0
  datl : o.dat.bs.length ≤ 140737488355328
  kp : o.kp.ok
  kpr : o.kp.rd w0
  kpl : o.kp.bs.length ≤ 140737488355328
/-- A script in memory. -/
structure Scr (w0 : World) (sb so n : Nat) (op : Nat → OP) : Prop where
  cell : ∀ i, i < n → ∀ k, k < 9 → w0.cell? ⟨sb, so + i * 9 + k, none⟩ = some (nth (opC (op i)) k)
  pre : ∀ i, i < n → (op i).pre w0
def Sml (n : Nat) (op : Nat → OP) : Prop := n ≤ 65536 ∧ ∀ i, i < n → (op i).dat.bs.length ≤ 65536 ∧ (op i).kp.bs.length ≤ 65536
theorem Scr.ok {sb so n i : Nat} {op : Nat → OP} (h : Scr w0 sb so n op) (hs : Sml n op) (hi : i < n) : (op i).ok w0 :=
  let p := h.pre i hi
  ⟨p.sct, p.after, p.dat, (hs.2 i hi).1, p.datr, p.kp, (hs.2 i hi).2, p.kpr⟩
theorem Scr.ld {sb so n i : Nat} {op : Nat → OP} (h : Scr w0 sb so n op) (hi : i < n) (st : S0 w0 l w) (k : Nat) (hk : k < 9) : w.cell? ⟨sb, so + i * 9 + k, none⟩ = some (nth (opC (op i)) k) := st.old (fun h => h) (h.cell i hi k hk)

set_option maxHeartbeats 8000000 in
theorem zzSmall1_ok (a : Option Addr) (sb so n c : Nat) (op : Nat → OP) (hS : Scr w0 sb so n op) (hn63 : n ≤ 140737488355328) (ha : 0 < n → a = some ⟨sb, so, none⟩) (st : S0 w0 L w) :
    Calls Tryd.prog 10 #[.slice a n c] w (Ret fun v w' => ∃ t, v = .bool t ∧ (t = true → Sml n op) ∧ S0 w0 L w') := by
  by_cases hn : 65536 < n
  · skip
    refine enter [.slice a n c] Tryd.func10 rfl Tryd.ntmps10 rfl ?_
    show WC _ _ _ 36 [] [(0, .slice a n c)] _
    refine WC.seq fun K553 hK553 => ?_
    -- region 0
    refine WC.region ?_
    -- R0.0 2 := zzsize.go:10 assign
    refine WL.v (by first | exact r_assign (v := .bool _) rfl | exact r_assign rfl) rfl rfl rfl ?_
    refine WL.fin hK553 (fun _ _ h => h) ?_
    refine WC.seq fun K554 hK554 => ?_
    -- region 1
    refine WC.region ?_
    -- R1.0 5 := zzsize.go:11 move
    refine WL.v (by first | exact r_move (v := .slice _ _ _) rfl | exact r_move rfl) rfl rfl rfl ?_
    -- R1.1 6 := zzsize.go:11 call
    refine WL.v (by exact r_len ty_usl22 rfl) rfl rfl rfl ?_
    -- R1.2 3 := zzsize.go:11 assign
    refine WL.v (by first | exact r_assign (v := .int _ _) rfl | exact r_assign rfl) rfl rfl rfl ?_
    refine WL.fin hK554 (fun _ _ h => h) ?_
    refine WC.seq fun K555 hK555 => ?_
    refine WC.seq fun K556 hK556 => ?_
    -- region 2
    refine WC.region ?_
    -- R2.0 7 := zzsize.go:12 move
    refine WL.v (by first | exact r_move (v := .int _ _) rfl | exact r_move rfl) rfl rfl rfl ?_
    -- R2.1 8 := zzsize.go:12 binOp
    refine WL.v (by first | exact r_gtr rfl rfl (decide_eq_true (by omega)) | exact r_gtr rfl rfl (decide_eq_false (by omega)) | exact r_gtr rfl rfl rfl) rfl rfl rfl ?_
    refine WL.fin hK556 (fun _ _ h => h) ?_
    refine WC.condT rfl rfl ?_
    refine WC.seq fun K557 hK557 => ?_
    -- region 3
    refine WC.region ?_
    -- R3.0 2 := zzsize.go:13 assign
    refine WL.v (by first | exact r_assign (v := .bool _) rfl | exact r_assign rfl) rfl rfl rfl ?_
    refine WL.fin hK557 (fun _ _ h => h) ?_
    refine WC.ret1 Tryd.results10 (fun _ _ h => h) rfl ?_
    exact ⟨_, rfl, false, rfl, (fun h => absurd h (by decide)), st⟩
  refine enter [.slice a n c] Tryd.func10 rfl Tryd.ntmps10 rfl ?_
  show WC _ _ _ 36 [] [(0, .slice a n c)] _
  refine WC.seq fun K558 hK558 => ?_
  -- region 0
  refine WC.region ?_
  -- R0.0 2 := zzsize.go:10 assign
  refine WL.v (by first | exact r_assign (v := .bool _) rfl | exact r_assign rfl) rfl rfl rfl ?_
  refine WL.fin hK558 (fun _ _ h => h) ?_
  refine WC.seq fun K559 hK559 => ?_
  -- region 1
  refine WC.region ?_
  -- R1.0 5 := zzsize.go:11 move
  refine WL.v (by first | exact r_move (v := .slice _ _ _) rfl | exact r_move rfl) rfl rfl rfl ?_
  -- R1.1 6 := zzsize.go:11 call
  refine WL.v (by exact r_len ty_usl22 rfl) rfl rfl rfl ?_
  -- R1.2 3 := zzsize.go:11 assign
  refine WL.v (by first | exact r_assign (v := .int _ _) rfl | exact r_assign rfl) rfl rfl rfl ?_
  refine WL.fin hK559 (fun _ _ h => h) ?_
  refine WC.seq fun K560 hK560 => ?_
  refine WC.seq fun K561 hK561 => ?_
  -- region 2
  refine WC.region ?_
  -- R2.0 7 := zzsize.go:12 move
  refine WL.v (by first | exact r_move (v := .int _ _) rfl | exact r_move rfl) rfl rfl rfl ?_
  -- R2.1 8 := zzsize.go:12 binOp
  refine WL.v (by first | exact r_gtr rfl rfl (decide_eq_true (by omega)) | exact r_gtr rfl rfl (decide_eq_false (by omega)) | exact r_gtr rfl rfl rfl) rfl rfl rfl ?_
  refine WL.fin hK561 (fun _ _ h => h) ?_
  refine WC.condF rfl rfl ?_
  refine WC.skipF hK560 (fun _ _ h => h) ?_
  refine WC.seq fun K562 hK562 => ?_
  refine WC.seq fun K563 hK563 => ?_
  -- region 4
  refine WC.region ?_
  -- R4.0 4 := zzsize.go:15 assign
  refine WL.v (by first | exact r_assign (v := .int _ _) rfl | exact r_assign rfl) rfl rfl rfl ?_
  refine WL.fin hK563 (fun _ _ h => h) ?_
  refine WC.block ?_
  refine WC.loop (ι := Nat × Nat) (fun z => [(0, .slice a n c), (3, .int .i64 (z.2 : Nat)), (4, .int .i64 (z.1 : Nat))]) (fun z w' => S0 w0 L w' ∧ z.1 ≤ n ∧ z.2 ≤ 65536 ∧ ∀ j, j < z.1 → (op j).dat.bs.length ≤ 65536 ∧ (op j).kp.bs.length ≤ 65536) (fun z => n - z.1)
    (0, n) ⟨st, Nat.zero_le _, by show n ≤ 65536; omega, fun j hj => absurd hj (Nat.not_lt_zero _)⟩ ?_ ?_
  · skip
    repeat (first | exact sub_nil _ | refine sub_cons rfl rfl ?_)
  rintro ⟨i, s⟩ w ⟨st, hi, hsm, hl⟩ K1 hK1
  simp only at st hi hsm hl hK1 ⊢
  by_cases hlt : ¬ i < n
  · obtain rfl : i = n := by omega
    refine WC.seq fun K564 hK564 => ?_
    refine WC.seq fun K565 hK565 => ?_
    -- region 5
    refine WC.region ?_
    -- R5.0 9 := zzsize.go:15 move
    refine WL.v (by first | exact r_move (v := .int _ _) rfl | exact r_move rfl) rfl rfl rfl ?_
    -- R5.1 10 := zzsize.go:15 move
    refine WL.v (by first | exact r_move (v := .slice _ _ _) rfl | exact r_move rfl) rfl rfl rfl ?_
    -- R5.2 11 := zzsize.go:15 call
    refine WL.v (by exact r_len ty_usl22 rfl) rfl rfl rfl ?_
    -- R5.3 12 := zzsize.go:15 binOp
    refine WL.v (by first | exact r_lss rfl rfl (decide_eq_true (by omega)) | exact r_lss rfl rfl (decide_eq_false (by omega)) | exact r_lss rfl rfl rfl) rfl rfl rfl ?_
    refine WL.fin hK565 (fun _ _ h => h) ?_
    refine WC.condF rfl rfl ?_
    refine WC.exitF hK562 (fun _ _ h => h) ?_
    refine WC.seq fun K566 hK566 => ?_
    -- region 13
    refine WC.region ?_
    -- R13.0 2 := zzsize.go:25 assign
    refine WL.v (by first | exact r_assign (v := .bool _) rfl | exact r_assign rfl) rfl rfl rfl ?_
    refine WL.fin hK566 (fun _ _ h => h) ?_
    refine WC.ret1 Tryd.results10 (fun _ _ h => h) rfl ?_
    exact ⟨_, rfl, true, rfl, fun _ => ⟨by omega, hl⟩, st⟩
  have hlt : i < n := by omega
  obtain rfl := ha (by omega)
  have q1 := (hS.pre i hlt).datl
  have q2 := (hS.pre i hlt).kpl
  by_cases c0 : 65536 < s + (op i).dat.bs.length
  · skip
    refine WC.seq fun K567 hK567 => ?_
    refine WC.seq fun K568 hK568 => ?_
    -- region 5
    refine WC.region ?_
    -- R5.0 9 := zzsize.go:15 move
    refine WL.v (by first | exact r_move (v := .int _ _) rfl | exact r_move rfl) rfl rfl rfl ?_
    -- R5.1 10 := zzsize.go:15 move
    refine WL.v (by first | exact r_move (v := .slice _ _ _) rfl | exact r_move rfl) rfl rfl rfl ?_
    -- R5.2 11 := zzsize.go:15 call
    refine WL.v (by exact r_len ty_usl22 rfl) rfl rfl rfl ?_
    -- R5.3 12 := zzsize.go:15 binOp
    refine WL.v (by first | exact r_lss rfl rfl (decide_eq_true (by omega)) | exact r_lss rfl rfl (decide_eq_false (by omega)) | exact r_lss rfl rfl rfl) rfl rfl rfl ?_
    refine WL.fin hK568 (fun _ _ h => h) ?_
    refine WC.condT rfl rfl ?_
    refine WC.skipF hK567 (fun _ _ h => h) ?_
    refine WC.seq fun K569 hK569 => ?_
    refine WC.block ?_
    refine WC.seq fun K570 hK570 => ?_
    -- region 7
    refine WC.region ?_
    -- R7.0 15 := zzsize.go:16 move
    refine WL.v (by first | exact r_move (v := .int _ _) rfl | exact r_move rfl) rfl rfl rfl ?_
    -- R7.1 16 := zzsize.go:16 move
    refine WL.v (by first | exact r_move (v := .slice _ _ _) rfl | exact r_move rfl) rfl rfl rfl ?_
    -- R7.2 17 := zzsize.go:16 move
    refine WL.v (by first | exact r_move (v := .int _ _) rfl | exact r_move rfl) rfl rfl rfl ?_
    -- R7.3 18 := zzsize.go:16 indexAddr
    refine WL.v (by exact r_indexS ty_sl22 rfl rfl rfl (by omega)) rfl rfl rfl ?_
    -- R7.4 19 := zzsize.go:16 fieldAddr
    refine WL.v (by exact r_field ty_fld33_4 rfl) rfl rfl rfl ?_
    -- R7.5 20 := zzsize.go:16 load
    refine WL.v (by exact r_load1 ty_one29 rfl (hS.ld hlt st 4 (by decide))) rfl rfl rfl ?_
    -- R7.6 21 := zzsize.go:16 call
    refine WL.v (by exact r_len ty_usl29 rfl) rfl rfl rfl ?_
    -- R7.7 22 := zzsize.go:16 binOp
    refine WL.v (by exact r_add (r := ((s + (op i).dat.bs.length : Nat) : Int)) rfl rfl (by rw [wi64 (by omega) (by omega)]; omega)) rfl rfl rfl ?_
    -- R7.8 3 := zzsize.go:16 assign
    refine WL.v (by first | exact r_assign (v := .int _ _) rfl | exact r_assign rfl) rfl rfl rfl ?_
    refine WL.fin hK570 (fun _ _ h => h) ?_
    refine WC.seq fun K571 hK571 => ?_
    refine WC.seq fun K572 hK572 => ?_
    -- region 8
    refine WC.region ?_
    -- R8.0 23 := zzsize.go:17 move
    refine WL.v (by first | exact r_move (v := .int _ _) rfl | exact r_move rfl) rfl rfl rfl ?_
    -- R8.1 24 := zzsize.go:17 binOp
    refine WL.v (by first | exact r_gtr rfl rfl (decide_eq_true (by omega)) | exact r_gtr rfl rfl (decide_eq_false (by omega)) | exact r_gtr rfl rfl rfl) rfl rfl rfl ?_
    refine WL.fin hK572 (fun _ _ h => h) ?_
    refine WC.condT rfl rfl ?_
    refine WC.seq fun K573 hK573 => ?_
    -- region 9
    refine WC.region ?_
    -- R9.0 2 := zzsize.go:18 assign
    refine WL.v (by first | exact r_assign (v := .bool _) rfl | exact r_assign rfl) rfl rfl rfl ?_
    refine WL.fin hK573 (fun _ _ h => h) ?_
    refine WC.ret1 Tryd.results10 (fun _ _ h => h) rfl ?_
    exact ⟨_, rfl, false, rfl, (fun h => absurd h (by decide)), st⟩
  by_cases c1 : 65536 < s + (op i).dat.bs.length + (op i).kp.bs.length
  · skip
    refine WC.seq fun K574 hK574 => ?_
    refine WC.seq fun K575 hK575 => ?_
    -- region 5
    refine WC.region ?_
    -- R5.0 9 := zzsize.go:15 move
    refine WL.v (by first | exact r_move (v := .int _ _) rfl | exact r_move rfl) rfl rfl rfl ?_
    -- R5.1 10 := zzsize.go:15 move
    refine WL.v (by first | exact r_move (v := .slice _ _ _) rfl | exact r_move rfl) rfl rfl rfl ?_
    -- R5.2 11 := zzsize.go:15 call
    refine WL.v (by exact r_len ty_usl22 rfl) rfl rfl rfl ?_
    -- R5.3 12 := zzsize.go:15 binOp
    refine WL.v (by first | exact r_lss rfl rfl (decide_eq_true (by omega)) | exact r_lss rfl rfl (decide_eq_false (by omega)) | exact r_lss rfl rfl rfl) rfl rfl rfl ?_
    refine WL.fin hK575 (fun _ _ h => h) ?_
    refine WC.condT rfl rfl ?_
    refine WC.skipF hK574 (fun _ _ h => h) ?_
    refine WC.seq fun K576 hK576 => ?_
    refine WC.block ?_
    refine WC.seq fun K577 hK577 => ?_
    -- region 7
    refine WC.region ?_
    -- R7.0 15 := zzsize.go:16 move
    refine WL.v (by first | exact r_move (v := .int _ _) rfl | exact r_move rfl) rfl rfl rfl ?_
    -- R7.1 16 := zzsize.go:16 move
    refine WL.v (by first | exact r_move (v := .slice _ _ _) rfl | exact r_move rfl) rfl rfl rfl ?_
    -- R7.2 17 := zzsize.go:16 move
    refine WL.v (by first | exact r_move (v := .int _ _) rfl | exact r_move rfl) rfl rfl rfl ?_
    -- R7.3 18 := zzsize.go:16 indexAddr
    refine WL.v (by exact r_indexS ty_sl22 rfl rfl rfl (by omega)) rfl rfl rfl ?_
    -- R7.4 19 := zzsize.go:16 fieldAddr
    refine WL.v (by exact r_field ty_fld33_4 rfl) rfl rfl rfl ?_
    -- R7.5 20 := zzsize.go:16 load
    refine WL.v (by exact r_load1 ty_one29 rfl (hS.ld hlt st 4 (by decide))) rfl rfl rfl ?_
    -- R7.6 21 := zzsize.go:16 call
    refine WL.v (by exact r_len ty_usl29 rfl) rfl rfl rfl ?_
    -- R7.7 22 := zzsize.go:16 binOp
    refine WL.v (by exact r_add (r := ((s + (op i).dat.bs.length : Nat) : Int)) rfl rfl (by rw [wi64 (by omega) (by omega)]; omega)) rfl rfl rfl ?_
    -- R7.8 3 := zzsize.go:16 assign
    refine WL.v (by first | exact r_assign (v := .int _ _) rfl | exact r_assign rfl) rfl rfl rfl ?_
    refine WL.fin hK577 (fun _ _ h => h) ?_
    refine WC.seq fun K578 hK578 => ?_
    refine WC.seq fun K579 hK579 => ?_
    -- region 8
    refine WC.region ?_
    -- R8.0 23 := zzsize.go:17 move
    refine WL.v (by first | exact r_move (v := .int _ _) rfl | exact r_move rfl) rfl rfl rfl ?_
    -- R8.1 24 := zzsize.go:17 binOp
    refine WL.v (by first | exact r_gtr rfl rfl (decide_eq_true (by omega)) | exact r_gtr rfl rfl (decide_eq_false (by omega)) | exact r_gtr rfl rfl rfl) rfl rfl rfl ?_
    refine WL.fin hK579 (fun _ _ h => h) ?_
    refine WC.condF rfl rfl ?_
    refine WC.skipF hK578 (fun _ _ h => h) ?_
    refine WC.seq fun K580 hK580 => ?_
    -- region 10
    refine WC.region ?_
    -- R10.0 25 := zzsize.go:20 move
    refine WL.v (by first | exact r_move (v := .int _ _) rfl | exact r_move rfl) rfl rfl rfl ?_
    -- R10.1 26 := zzsize.go:20 move
    refine WL.v (by first | exact r_move (v := .slice _ _ _) rfl | exact r_move rfl) rfl rfl rfl ?_
    -- R10.2 27 := zzsize.go:20 move
    refine WL.v (by first | exact r_move (v := .int _ _) rfl | exact r_move rfl) rfl rfl rfl ?_
    -- R10.3 28 := zzsize.go:20 indexAddr
    refine WL.v (by exact r_indexS ty_sl22 rfl rfl rfl (by omega)) rfl rfl rfl ?_
    -- R10.4 29 := zzsize.go:20 fieldAddr
    refine WL.v (by exact r_field ty_fld33_6 rfl) rfl rfl rfl ?_
    -- R10.5 30 := zzsize.go:20 fieldAddr
    refine WL.v (by exact r_field ty_fld31_0 rfl) rfl rfl rfl ?_
    -- R10.6 31 := zzsize.go:20 load
    refine WL.v (by exact r_load1 ty_one29 rfl (hS.ld hlt st 6 (by decide))) rfl rfl rfl ?_
    -- R10.7 32 := zzsize.go:20 call
    refine WL.v (by exact r_len ty_usl29 rfl) rfl rfl rfl ?_
    -- R10.8 33 := zzsize.go:20 binOp
    refine WL.v (by exact r_add (r := ((s + (op i).dat.bs.length + (op i).kp.bs.length : Nat) : Int)) rfl rfl (by rw [wi64 (by omega) (by omega)]; omega)) rfl rfl rfl ?_
    -- R10.9 3 := zzsize.go:20 assign
    refine WL.v (by first | exact r_assign (v := .int _ _) rfl | exact r_assign rfl) rfl rfl rfl ?_
    refine WL.fin hK580 (fun _ _ h => h) ?_
    refine WC.seq fun K581 hK581 => ?_
    -- region 11
    refine WC.region ?_
    -- R11.0 34 := zzsize.go:21 move
    refine WL.v (by first | exact r_move (v := .int _ _) rfl | exact r_move rfl) rfl rfl rfl ?_
    -- R11.1 35 := zzsize.go:21 binOp
    refine WL.v (by first | exact r_gtr rfl rfl (decide_eq_true (by omega)) | exact r_gtr rfl rfl (decide_eq_false (by omega)) | exact r_gtr rfl rfl rfl) rfl rfl rfl ?_
    refine WL.fin hK581 (fun _ _ h => h) ?_
    refine WC.condT rfl rfl ?_
    refine WC.seq fun K582 hK582 => ?_
    -- region 12
    refine WC.region ?_
    -- R12.0 2 := zzsize.go:22 assign
    refine WL.v (by first | exact r_assign (v := .bool _) rfl | exact r_assign rfl) rfl rfl rfl ?_
    refine WL.fin hK582 (fun _ _ h => h) ?_
    refine WC.ret1 Tryd.results10 (fun _ _ h => h) rfl ?_
    exact ⟨_, rfl, false, rfl, (fun h => absurd h (by decide)), st⟩
  refine WC.seq fun K583 hK583 => ?_
  refine WC.seq fun K584 hK584 => ?_
  -- region 5
  refine WC.region ?_
  -- R5.0 9 := zzsize.go:15 move
  refine WL.v (by first | exact r_move (v := .int _ _) rfl | exact r_move rfl) rfl rfl rfl ?_
  -- R5.1 10 := zzsize.go:15 move
  refine WL.v (by first | exact r_move (v := .slice _ _ _) rfl | exact r_move rfl) rfl rfl rfl ?_
  -- R5.2 11 := zzsize.go:15 call
  refine WL.v (by exact r_len ty_usl22 rfl) rfl rfl rfl ?_
  -- R5.3 12 := zzsize.go:15 binOp
  refine WL.v (by first | exact r_lss rfl rfl (decide_eq_true (by omega)) | exact r_lss rfl rfl (decide_eq_false (by omega)) | exact r_lss rfl rfl rfl) rfl rfl rfl ?_
  refine WL.fin hK584 (fun _ _ h => h) ?_
  refine WC.condT rfl rfl ?_
  refine WC.skipF hK583 (fun _ _ h => h) ?_
  refine WC.seq fun K585 hK585 => ?_
  refine WC.block ?_
  refine WC.seq fun K586 hK586 => ?_
  -- region 7
  refine WC.region ?_
  -- R7.0 15 := zzsize.go:16 move
  refine WL.v (by first | exact r_move (v := .int _ _) rfl | exact r_move rfl) rfl rfl rfl ?_
  -- R7.1 16 := zzsize.go:16 move
  refine WL.v (by first | exact r_move (v := .slice _ _ _) rfl | exact r_move rfl) rfl rfl rfl ?_
  -- R7.2 17 := zzsize.go:16 move
  refine WL.v (by first | exact r_move (v := .int _ _) rfl | exact r_move rfl) rfl rfl rfl ?_
  -- R7.3 18 := zzsize.go:16 indexAddr
  refine WL.v (by exact r_indexS ty_sl22 rfl rfl rfl (by omega)) rfl rfl rfl ?_
  -- R7.4 19 := zzsize.go:16 fieldAddr
  refine WL.v (by exact r_field ty_fld33_4 rfl) rfl rfl rfl ?_
  -- R7.5 20 := zzsize.go:16 load
  refine WL.v (by exact r_load1 ty_one29 rfl (hS.ld hlt st 4 (by decide))) rfl rfl rfl ?_
  -- R7.6 21 := zzsize.go:16 call
  refine WL.v (by exact r_len ty_usl29 rfl) rfl rfl rfl ?_
  -- R7.7 22 := zzsize.go:16 binOp
  refine WL.v (by exact r_add (r := ((s + (op i).dat.bs.length : Nat) : Int)) rfl rfl (by rw [wi64 (by omega) (by omega)]; omega)) rfl rfl rfl ?_
  -- R7.8 3 := zzsize.go:16 assign
  refine WL.v (by first | exact r_assign (v := .int _ _) rfl | exact r_assign rfl) rfl rfl rfl ?_
  refine WL.fin hK586 (fun _ _ h => h) ?_
  refine WC.seq fun K587 hK587 => ?_
  refine WC.seq fun K588 hK588 => ?_
  -- region 8
  refine WC.region ?_
  -- R8.0 23 := zzsize.go:17 move
  refine WL.v (by first | exact r_move (v := .int _ _) rfl | exact r_move rfl) rfl rfl rfl ?_
  -- R8.1 24 := zzsize.go:17 binOp
  refine WL.v (by first | exact r_gtr rfl rfl (decide_eq_true (by omega)) | exact r_gtr rfl rfl (decide_eq_false (by omega)) | exact r_gtr rfl rfl rfl) rfl rfl rfl ?_
  refine WL.fin hK588 (fun _ _ h => h) ?_
  refine WC.condF rfl rfl ?_
  refine WC.skipF hK587 (fun _ _ h => h) ?_
  refine WC.seq fun K589 hK589 => ?_
  -- region 10
  refine WC.region ?_
  -- R10.0 25 := zzsize.go:20 move
  refine WL.v (by first | exact r_move (v := .int _ _) rfl | exact r_move rfl) rfl rfl rfl ?_
  -- R10.1 26 := zzsize.go:20 move
  refine WL.v (by first | exact r_move (v := .slice _ _ _) rfl | exact r_move rfl) rfl rfl rfl ?_
  -- R10.2 27 := zzsize.go:20 move
  refine WL.v (by first | exact r_move (v := .int _ _) rfl | exact r_move rfl) rfl rfl rfl ?_
  -- R10.3 28 := zzsize.go:20 indexAddr
  refine WL.v (by exact r_indexS ty_sl22 rfl rfl rfl (by omega)) rfl rfl rfl ?_
  -- R10.4 29 := zzsize.go:20 fieldAddr
  refine WL.v (by exact r_field ty_fld33_6 rfl) rfl rfl rfl ?_
  -- R10.5 30 := zzsize.go:20 fieldAddr
  refine WL.v (by exact r_field ty_fld31_0 rfl) rfl rfl rfl ?_
  -- R10.6 31 := zzsize.go:20 load
  refine WL.v (by exact r_load1 ty_one29 rfl (hS.ld hlt st 6 (by decide))) rfl rfl rfl ?_
  -- R10.7 32 := zzsize.go:20 call
  refine WL.v (by exact r_len ty_usl29 rfl) rfl rfl rfl ?_
  -- R10.8 33 := zzsize.go:20 binOp
  refine WL.v (by exact r_add (r := ((s + (op i).dat.bs.length + (op i).kp.bs.length : Nat) : Int)) rfl rfl (by rw [wi64 (by omega) (by omega)]; omega)) rfl rfl rfl ?_
  -- R10.9 3 := zzsize.go:20 assign
  refine WL.v (by first | exact r_assign (v := .int _ _) rfl | exact r_assign rfl) rfl rfl rfl ?_
  refine WL.fin hK589 (fun _ _ h => h) ?_
  refine WC.seq fun K590 hK590 => ?_
  -- region 11
  refine WC.region ?_
  -- R11.0 34 := zzsize.go:21 move
  refine WL.v (by first | exact r_move (v := .int _ _) rfl | exact r_move rfl) rfl rfl rfl ?_
  -- R11.1 35 := zzsize.go:21 binOp
  refine WL.v (by first | exact r_gtr rfl rfl (decide_eq_true (by omega)) | exact r_gtr rfl rfl (decide_eq_false (by omega)) | exact r_gtr rfl rfl rfl) rfl rfl rfl ?_
  refine WL.fin hK590 (fun _ _ h => h) ?_
  refine WC.condF rfl rfl ?_
  refine WC.skipF hK585 (fun _ _ h => h) ?_
  -- region 6
  refine WC.region ?_
  -- R6.0 13 := zzsize.go:15 move
  refine WL.v (by first | exact r_move (v := .int _ _) rfl | exact r_move rfl) rfl rfl rfl ?_
  -- R6.1 14 := zzsize.go:15 binOp
  refine WL.v (by first | exact r_add rfl rfl (wi64 (by omega) (by omega)) | exact r_add rfl rfl rfl) rfl rfl rfl ?_
  -- R6.2 4 := zzsize.go:15 assign
  refine WL.v (by first | exact r_assign (v := .int _ _) rfl | exact r_assign rfl) rfl rfl rfl ?_
  refine WL.next hK1 (fun _ _ h => h) (i + 1, s + (op i).dat.bs.length + (op i).kp.bs.length) ⟨st, by show i + 1 ≤ n; omega, by show s + (op i).dat.bs.length + (op i).kp.bs.length ≤ 65536; omega, fun j hj => ?_⟩ (by show n - (i + 1) < n - i; omega) (by repeat (first | exact sub_nil _ | refine sub_cons rfl rfl ?_))
  have hj : j < i + 1 := hj
  by_cases hji : j = i
  · subst hji; exact ⟨by omega, by omega⟩
  · exact hl j (by omega)

/-! The number of sector writes. -/
theorem fuseP_wr : (fuseP P).1.wr = P.wr := by
  unfold fuseP
  split
  · split <;> rfl
  · rfl
theorem write1_wr {s : Nat} {f : Nat → Int} : (write1 P s f).1.wr = P.wr + 1 := by
  unfold write1
  rw [fuseP_wr]
  show (destP P).wr + 1 = _
  rw [destP_wr]
theorem writeL_wr {bs : List Int} {s : Nat} : ∀ {n i : Nat} {P : PD}, (writeL bs s i n P).1.wr ≤ P.wr + n
  | 0, i, P => Nat.le_refl _
  | n + 1, i, P => by
    show (if (write1 P (s + i) (cutB bs i)).2 then ((write1 P (s + i) (cutB bs i)).1, 3) else writeL bs s (i + 1) n (write1 P (s + i) (cutB bs i)).1).1.wr ≤ _
    have := write1_wr (P := P) (s := s + i) (f := cutB bs i)
    split
    · show (write1 P (s + i) (cutB bs i)).1.wr ≤ _; omega
    · have := writeL_wr (bs := bs) (s := s) (n := n) (i := i + 1) (P := (write1 P (s + i) (cutB bs i)).1)
      omega
theorem step_wr {o : OP} (h : o.dat.bs.length ≤ 65536) : (stepP P o).1.wr ≤ P.wr + 128 := by
  unfold stepP
  split
  · unfold fmtS
    split
    · exact Nat.le_add_right _ _
    · rename_i P' h
      unfold fmtP at h
      split at h
      · cases h
      · split at h
        · cases h
        · cases h; exact Nat.zero_le _
  split
  · unfold writeP
    split
    · exact Nat.le_add_right _ _
    · split
      · exact Nat.le_add_right _ _
      · have := writeL_wr (bs := o.dat.bs) (s := o.sct.toNat) (n := o.dat.bs.length / 512) (i := 0) (P := P)
        omega
  split
  · exact Nat.le_add_right _ _
  split
  · exact Nat.le_add_right _ _
  split
  · unfold syncP; split <;> exact Nat.le_add_right _ _
  split
  · unfold crashCP; split <;> exact Nat.le_add_right _ _
  split
  · unfold armP
    split
    · exact Nat.le_add_right _ _
    · split <;> exact Nat.le_add_right _ _
  split
  · unfold disarmP; split <;> exact Nat.le_add_right _ _
  split
  · unfold reopenP; split <;> exact Nat.le_add_right _ _
  exact Nat.le_add_right _ _
end Go.Proofs.Qxb6500837aDoor

