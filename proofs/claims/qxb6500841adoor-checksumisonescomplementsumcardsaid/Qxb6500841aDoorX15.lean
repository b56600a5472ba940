import Derived.Test.Qxb6500841aDoorX14
set_option linter.unusedVariables false
set_option linter.unusedSimpArgs false
set_option maxRecDepth 20000
namespace Go.Proofs.Qxb6500841aDoor
open Go.RowKit Go.E1 Go.Wire
variable {w0 : World} {L : List HI} {w : World} {ET : Nat → TypeId} {EU : Nat → Value}

def setI (x : Nat → Int) (j : Nat) (v : Int) : Nat → Int := fun i =>
  match Nat.beq i j with
  | true => v
  | false => x i

theorem IpR.set1 {x : Nat → Int} (h : IpR x) {v : Int} (hv : 0 ≤ v ∧ v < 65536) : IpR (setI x 1 v) := ⟨h.r0, hv, h.r2, h.r3, h.r4, h.r5, h.r6, h.r7, h.r8, h.r9, h.r10, h.r11, h.r12, h.r13, h.r14, h.r15⟩
theorem IpR.set7 {x : Nat → Int} (h : IpR x) {v : Int} (hv : 0 ≤ v ∧ v < 65536) : IpR (setI x 7 v) := ⟨h.r0, h.r1, h.r2, h.r3, h.r4, h.r5, h.r6, hv, h.r8, h.r9, h.r10, h.r11, h.r12, h.r13, h.r14, h.r15⟩
theorem TcpR.set7 {x : Nat → Int} (h : TcpR x) {v : Int} (hv : 0 ≤ v ∧ v < 65536) : TcpR (setI x 7 v) := ⟨h.r0, h.r1, h.r2, h.r3, h.r4, h.r5, h.r6, hv, h.r8⟩
theorem IcR.set2 {x : Nat → Int} (h : IcR x) {v : Int} (hv : 0 ≤ v ∧ v < 65536) : IcR (setI x 2 v) := ⟨h.r0, h.r1, hv, h.r3⟩

def FD.setX (f : FD) (x : Nat → Int) : FD := ⟨f.k, f.e, x, f.t, f.y, f.z, f.s1, f.s2, f.s3, f.s4, f.s5⟩
def FD.setT (f : FD) (t : Nat → Int) : FD := ⟨f.k, f.e, f.x, t, f.y, f.z, f.s1, f.s2, f.s3, f.s4, f.s5⟩
def FD.setY (f : FD) (y : Nat → Int) : FD := ⟨f.k, f.e, f.x, f.t, y, f.z, f.s1, f.s2, f.s3, f.s4, f.s5⟩
theorem FD.setX_ok {f : FD} (h : f.ok) {x : Nat → Int} (hx : IpR x) : (f.setX x).ok := ⟨h.kr, h.eb, h.e12, hx, h.tr, h.yr, h.zr, h.o1, h.o2, h.o3, h.o4, h.o5, h.l1, h.l2, h.l3, h.l4, h.l5⟩
theorem FD.setT_ok {f : FD} (h : f.ok) {x : Nat → Int} (hx : TcpR x) : (f.setT x).ok := ⟨h.kr, h.eb, h.e12, h.xr, hx, h.yr, h.zr, h.o1, h.o2, h.o3, h.o4, h.o5, h.l1, h.l2, h.l3, h.l4, h.l5⟩
theorem FD.setY_ok {f : FD} (h : f.ok) {x : Nat → Int} (hx : IcR x) : (f.setY x).ok := ⟨h.kr, h.eb, h.e12, h.xr, h.tr, hx, h.zr, h.o1, h.o2, h.o3, h.o4, h.o5, h.l1, h.l2, h.l3, h.l4, h.l5⟩

/-- The same slices. -/
def FD.like (f g : FD) : Prop := g.s1 = f.s1 ∧ g.s2 = f.s2 ∧ g.s3 = f.s3 ∧ g.s4 = f.s4 ∧ g.s5 = f.s5
theorem FD.like.rd {f g : FD} (h : f.like g) {w : World} (hr : f.rd w) : g.rd w := by
  obtain ⟨h1, h2, h3, h4, h5⟩ := h
  exact ⟨by rw [h1]; exact hr.d1, by rw [h2]; exact hr.d2, by rw [h3]; exact hr.d3, by rw [h4]; exact hr.d4, by rw [h5]; exact hr.d5⟩

theorem frAt_row {f g : FD} {fb : Nat} (hl : f.like g) (hrd : ∀ its w', S0 w0 (its ++ L) w' → f.rd w') : ∀ its w', S0 w0 (its ++ ((fb, Row 43 64 (nth g.cs)) :: L)) w' → FrAt w' fb 0 g := fun its w' q =>
  ⟨cf_row (t := 43) q (by simp), hl.rd (hrd (its ++ [_]) w' (by rw [List.append_assoc]; exact q))⟩

set_option maxHeartbeats 8000000 in
theorem seal_ok (hE : ErrOk w0 ET EU) (fb : Nat) (f : FD) (hf : f.ok) (hrd : ∀ its w', S0 w0 (its ++ L) w' → f.rd w') (st : S0 w0 ((fb, Row 43 64 (nth f.cs)) :: L) w) :
    Calls Tryd.prog 46 #[.pointer (some ⟨fb, 0, none⟩)] w (Ret fun v w' => ∃ g : FD, g.ok ∧ f.like g ∧ (v = .nilIface ∨ ∃ T u, v = .iface T u) ∧ S0 w0 ((fb, Row 43 64 (nth g.cs)) :: L) w') := by
  have l1 := hf.l1
  have l4 := hf.l4
  have kr := hf.kr
  have hiN : innerN f ≤ 2000000000 := by
    have := hf.l2
    have := hf.l3
    unfold innerN; split
    · omega
    · split <;> omega
  have hlf : f.like f := ⟨rfl, rfl, rfl, rfl, rfl⟩
  have hIE : ∀ {v : Value} {P : Prop}, IfErr v P → v = .nilIface ∨ ∃ T u, v = .iface T u := fun h => h.elim (fun h => .inl h.1) (fun h => .inr h.1)
  by_cases k0 : f.k = 0
  · skip
    refine enter [.pointer (some ⟨fb, 0, none⟩)] Tryd.func46 rfl Tryd.ntmps46 rfl ?_
    show WC _ _ _ 107 [] [(0, .pointer (some ⟨fb, 0, none⟩))] _
    refine WC.seq fun K790 hK790 => ?_
    -- region 0
    refine WC.region ?_
    -- R0.0 2 := frame.go:207 assign
    refine WL.v (by first | exact r_assign (v := .nilIface) rfl | exact r_assign (v := .iface _ _) rfl | exact r_assign rfl) rfl rfl rfl ?_
    refine WL.fin hK790 (fun _ _ h => h) ?_
    refine WC.seq fun K791 hK791 => ?_
    refine WC.seq fun K792 hK792 => ?_
    -- region 1
    refine WC.region ?_
    -- R1.0 6 := frame.go:208 move
    refine WL.v (by first | exact r_move (v := .pointer _) rfl | exact r_move rfl) rfl rfl rfl ?_
    -- R1.1 7 := frame.go:208 nilCheck
    refine WL.v (by exact r_nilCheck rfl) rfl rfl rfl ?_
    -- R1.2 8 := frame.go:208 fieldAddr
    refine WL.v (by exact r_field ty_fld43_0 rfl) rfl rfl rfl ?_
    -- R1.3 9 := frame.go:208 load
    refine WL.v (by exact r_load1 ty_one27 rfl (by first | assumption | exact st.c0 (by first | decide | omega) | exact st.c1 (by first | decide | omega) | exact st.c2 (by first | decide | omega) | exact st.c3 (by first | decide | omega) | exact st.c4 (by first | decide | omega) | exact st.c5 (by first | decide | omega) | exact st.c6 (by first | decide | omega) | exact st.c7 (by first | decide | omega) | exact st.c8 (by first | decide | omega))) rfl rfl rfl ?_
    -- R1.4 10 := frame.go:208 binOp
    refine WL.v (by first | exact r_eql rfl rfl (decide_eq_true (by omega)) | exact r_eql rfl rfl (decide_eq_false (by omega)) | exact r_eql rfl rfl rfl) rfl rfl rfl ?_
    -- R1.5 11 := frame.go:208 move
    refine WL.v (by first | exact r_move (v := .bool _) rfl | exact r_move rfl) rfl rfl rfl ?_
    -- R1.6 12 := frame.go:208 move
    refine WL.no rfl rfl ?_
    -- R1.7 13 := frame.go:208 nilCheck
    refine WL.no rfl rfl ?_
    -- R1.8 14 := frame.go:208 fieldAddr
    refine WL.no rfl rfl ?_
    -- R1.9 15 := frame.go:208 load
    refine WL.no rfl rfl ?_
    -- R1.10 16 := frame.go:208 binOp
    refine WL.no rfl rfl ?_
    -- R1.11 17 := frame.go:208 pick
    refine WL.v (by first | exact r_pickT (v := .bool _) rfl rfl | exact r_pickF (v := .bool _) rfl rfl) rfl rfl rfl ?_
    refine WL.fin hK792 (fun _ _ h => h) ?_
    refine WC.condT rfl rfl ?_
    refine WC.seq fun K793 hK793 => ?_
    -- region 2
    refine WC.region ?_
    -- R2.0 18 := frame.go:209 move
    refine WL.v (by first | exact r_move (v := .pointer _) rfl | exact r_move rfl) rfl rfl rfl ?_
    -- R2.1 19 := frame.go:209 call
    refine WL.call (r_call ty_call33 rfl) rfl rfl rfl (check_ok hE fb 0 f hf (frAt_row hlf hrd) st) ?_
    rintro ev w ⟨hev, st⟩
    -- R2.2 2 := frame.go:209 assign
    refine WL.v (by first | exact r_assign (v := .nilIface) rfl | exact r_assign (v := .iface _ _) rfl | exact r_assign rfl) rfl rfl rfl ?_
    refine WL.fin hK793 (fun _ _ h => h) ?_
    refine WC.ret1 Tryd.results46 (fun _ _ h => h) rfl ?_
    exact ⟨_, rfl, f, hf, hlf, hIE hev, st⟩
  by_cases k4 : 4 ≤ f.k
  · skip
    refine enter [.pointer (some ⟨fb, 0, none⟩)] Tryd.func46 rfl Tryd.ntmps46 rfl ?_
    show WC _ _ _ 107 [] [(0, .pointer (some ⟨fb, 0, none⟩))] _
    refine WC.seq fun K794 hK794 => ?_
    -- region 0
    refine WC.region ?_
    -- R0.0 2 := frame.go:207 assign
    refine WL.v (by first | exact r_assign (v := .nilIface) rfl | exact r_assign (v := .iface _ _) rfl | exact r_assign rfl) rfl rfl rfl ?_
    refine WL.fin hK794 (fun _ _ h => h) ?_
    refine WC.seq fun K795 hK795 => ?_
    refine WC.seq fun K796 hK796 => ?_
    -- region 1
    refine WC.region ?_
    -- R1.0 6 := frame.go:208 move
    refine WL.v (by first | exact r_move (v := .pointer _) rfl | exact r_move rfl) rfl rfl rfl ?_
    -- R1.1 7 := frame.go:208 nilCheck
    refine WL.v (by exact r_nilCheck rfl) rfl rfl rfl ?_
    -- R1.2 8 := frame.go:208 fieldAddr
    refine WL.v (by exact r_field ty_fld43_0 rfl) rfl rfl rfl ?_
    -- R1.3 9 := frame.go:208 load
    refine WL.v (by exact r_load1 ty_one27 rfl (by first | assumption | exact st.c0 (by first | decide | omega) | exact st.c1 (by first | decide | omega) | exact st.c2 (by first | decide | omega) | exact st.c3 (by first | decide | omega) | exact st.c4 (by first | decide | omega) | exact st.c5 (by first | decide | omega) | exact st.c6 (by first | decide | omega) | exact st.c7 (by first | decide | omega) | exact st.c8 (by first | decide | omega))) rfl rfl rfl ?_
    -- R1.4 10 := frame.go:208 binOp
    refine WL.v (by first | exact r_eql rfl rfl (decide_eq_true (by omega)) | exact r_eql rfl rfl (decide_eq_false (by omega)) | exact r_eql rfl rfl rfl) rfl rfl rfl ?_
    -- R1.5 11 := frame.go:208 move
    refine WL.v (by first | exact r_move (v := .bool _) rfl | exact r_move rfl) rfl rfl rfl ?_
    -- R1.6 12 := frame.go:208 move
    refine WL.v (by first | exact r_move (v := .pointer _) rfl | exact r_move rfl) rfl rfl rfl ?_
    -- R1.7 13 := frame.go:208 nilCheck
    refine WL.v (by exact r_nilCheck rfl) rfl rfl rfl ?_
    -- R1.8 14 := frame.go:208 fieldAddr
    refine WL.v (by exact r_field ty_fld43_0 rfl) rfl rfl rfl ?_
    -- R1.9 15 := frame.go:208 load
    refine WL.v (by exact r_load1 ty_one27 rfl (by first | assumption | exact st.c0 (by first | decide | omega) | exact st.c1 (by first | decide | omega) | exact st.c2 (by first | decide | omega) | exact st.c3 (by first | decide | omega) | exact st.c4 (by first | decide | omega) | exact st.c5 (by first | decide | omega) | exact st.c6 (by first | decide | omega) | exact st.c7 (by first | decide | omega) | exact st.c8 (by first | decide | omega))) rfl rfl rfl ?_
    -- R1.10 16 := frame.go:208 binOp
    refine WL.v (by first | exact r_geq rfl rfl (decide_eq_true (by omega)) | exact r_geq rfl rfl (decide_eq_false (by omega)) | exact r_geq rfl rfl rfl) rfl rfl rfl ?_
    -- R1.11 17 := frame.go:208 pick
    refine WL.v (by first | exact r_pickT (v := .bool _) rfl rfl | exact r_pickF (v := .bool _) rfl rfl) rfl rfl rfl ?_
    refine WL.fin hK796 (fun _ _ h => h) ?_
    refine WC.condT rfl rfl ?_
    refine WC.seq fun K797 hK797 => ?_
    -- region 2
    refine WC.region ?_
    -- R2.0 18 := frame.go:209 move
    refine WL.v (by first | exact r_move (v := .pointer _) rfl | exact r_move rfl) rfl rfl rfl ?_
    -- R2.1 19 := frame.go:209 call
    refine WL.call (r_call ty_call33 rfl) rfl rfl rfl (check_ok hE fb 0 f hf (frAt_row hlf hrd) st) ?_
    rintro ev w ⟨hev, st⟩
    -- R2.2 2 := frame.go:209 assign
    refine WL.v (by first | exact r_assign (v := .nilIface) rfl | exact r_assign (v := .iface _ _) rfl | exact r_assign rfl) rfl rfl rfl ?_
    refine WL.fin hK797 (fun _ _ h => h) ?_
    refine WC.ret1 Tryd.results46 (fun _ _ h => h) rfl ?_
    exact ⟨_, rfl, f, hf, hlf, hIE hev, st⟩
  obtain ⟨tot, htot⟩ : ∃ tot : Nat, tot = 20 + f.s1.bs.length + innerN f + f.s4.bs.length := ⟨_, rfl⟩
  by_cases hbig : 65535 < tot
  · skip
    refine enter [.pointer (some ⟨fb, 0, none⟩)] Tryd.func46 rfl Tryd.ntmps46 rfl ?_
    show WC _ _ _ 107 [] [(0, .pointer (some ⟨fb, 0, none⟩))] _
    refine WC.seq fun K798 hK798 => ?_
    -- region 0
    refine WC.region ?_
    -- R0.0 2 := frame.go:207 assign
    refine WL.v (by first | exact r_assign (v := .nilIface) rfl | exact r_assign (v := .iface _ _) rfl | exact r_assign rfl) rfl rfl rfl ?_
    refine WL.fin hK798 (fun _ _ h => h) ?_
    refine WC.seq fun K799 hK799 => ?_
    refine WC.seq fun K800 hK800 => ?_
    -- region 1
    refine WC.region ?_
    -- R1.0 6 := frame.go:208 move
    refine WL.v (by first | exact r_move (v := .pointer _) rfl | exact r_move rfl) rfl rfl rfl ?_
    -- R1.1 7 := frame.go:208 nilCheck
    refine WL.v (by exact r_nilCheck rfl) rfl rfl rfl ?_
    -- R1.2 8 := frame.go:208 fieldAddr
    refine WL.v (by exact r_field ty_fld43_0 rfl) rfl rfl rfl ?_
    -- R1.3 9 := frame.go:208 load
    refine WL.v (by exact r_load1 ty_one27 rfl (by first | assumption | exact st.c0 (by first | decide | omega) | exact st.c1 (by first | decide | omega) | exact st.c2 (by first | decide | omega) | exact st.c3 (by first | decide | omega) | exact st.c4 (by first | decide | omega) | exact st.c5 (by first | decide | omega) | exact st.c6 (by first | decide | omega) | exact st.c7 (by first | decide | omega) | exact st.c8 (by first | decide | omega))) rfl rfl rfl ?_
    -- R1.4 10 := frame.go:208 binOp
    refine WL.v (by first | exact r_eql rfl rfl (decide_eq_true (by omega)) | exact r_eql rfl rfl (decide_eq_false (by omega)) | exact r_eql rfl rfl rfl) rfl rfl rfl ?_
    -- R1.5 11 := frame.go:208 move
    refine WL.v (by first | exact r_move (v := .bool _) rfl | exact r_move rfl) rfl rfl rfl ?_
    -- R1.6 12 := frame.go:208 move
    refine WL.v (by first | exact r_move (v := .pointer _) rfl | exact r_move rfl) rfl rfl rfl ?_
    -- R1.7 13 := frame.go:208 nilCheck
    refine WL.v (by exact r_nilCheck rfl) rfl rfl rfl ?_
    -- R1.8 14 := frame.go:208 fieldAddr
    refine WL.v (by exact r_field ty_fld43_0 rfl) rfl rfl rfl ?_
    -- R1.9 15 := frame.go:208 load
    refine WL.v (by exact r_load1 ty_one27 rfl (by first | assumption | exact st.c0 (by first | decide | omega) | exact st.c1 (by first | decide | omega) | exact st.c2 (by first | decide | omega) | exact st.c3 (by first | decide | omega) | exact st.c4 (by first | decide | omega) | exact st.c5 (by first | decide | omega) | exact st.c6 (by first | decide | omega) | exact st.c7 (by first | decide | omega) | exact st.c8 (by first | decide | omega))) rfl rfl rfl ?_
    -- R1.10 16 := frame.go:208 binOp
    refine WL.v (by first | exact r_geq rfl rfl (decide_eq_true (by omega)) | exact r_geq rfl rfl (decide_eq_false (by omega)) | exact r_geq rfl rfl rfl) rfl rfl rfl ?_
    -- R1.11 17 := frame.go:208 pick
    refine WL.v (by first | exact r_pickT (v := .bool _) rfl rfl | exact r_pickF (v := .bool _) rfl rfl) rfl rfl rfl ?_
    refine WL.fin hK800 (fun _ _ h => h) ?_
    refine WC.condF rfl rfl ?_
    refine WC.skipF hK799 (fun _ _ h => h) ?_
    refine WC.seq fun K801 hK801 => ?_
    -- region 3 (draws)
    refine WC.quietS st ty_mixed (by kernel_rfl) fun Kq hKq => ?_
    -- R3.0 20 := frame.go:211 move
    refine QL.v (fun w st => by first | exact r_move (v := .pointer _) rfl | exact r_move rfl) rfl rfl rfl ?_
    -- R3.1 21 := frame.go:211 nilCheck
    refine QL.v (fun w st => by exact r_nilCheck rfl) rfl rfl rfl ?_
    -- R3.2 22 := frame.go:211 fieldAddr
    refine QL.v (fun w st => by exact r_field ty_fld43_2 rfl) rfl rfl rfl ?_
    -- R3.3 23 := frame.go:211 call
    refine QL.call (val := .int .i64 ((20 + f.s1.bs.length : Nat) : Int)) (fun w st => r_call ty_call29 rfl) rfl rfl rfl (fun w st => ipLen_ok fb (0 + 14) f.x f.s1 hf.l1 (fun its w' q => (frAt_row hlf hrd its w' q).ip) st) ?_
    -- R3.4 24 := frame.go:211 move
    refine QL.v (fun w st => by first | exact r_move (v := .pointer _) rfl | exact r_move rfl) rfl rfl rfl ?_
    -- R3.5 25 := frame.go:211 call
    refine QL.call (val := .int .i64 ((innerN f : Nat) : Int)) (fun w st => r_call ty_call52 rfl) rfl rfl rfl (fun w st => innerLen_ok fb 0 f hf (frAt_row hlf hrd) st) ?_
    -- R3.6 26 := frame.go:211 binOp
    refine QL.v (fun w st => by first | exact r_add rfl rfl (wi64 (by omega) (by omega)) | exact r_add rfl rfl rfl) rfl rfl rfl ?_
    -- R3.7 27 := frame.go:211 move
    refine QL.v (fun w st => by first | exact r_move (v := .pointer _) rfl | exact r_move rfl) rfl rfl rfl ?_
    -- R3.8 28 := frame.go:211 nilCheck
    refine QL.v (fun w st => by exact r_nilCheck rfl) rfl rfl rfl ?_
    -- R3.9 29 := frame.go:211 fieldAddr
    refine QL.v (fun w st => by exact r_field ty_fld43_5 rfl) rfl rfl rfl ?_
    -- R3.10 30 := frame.go:211 load
    refine QL.v (fun w st => by exact r_load1 ty_one25 rfl (by first | assumption | exact st.c0 (by first | decide | omega) | exact st.c1 (by first | decide | omega) | exact st.c2 (by first | decide | omega) | exact st.c3 (by first | decide | omega) | exact st.c4 (by first | decide | omega) | exact st.c5 (by first | decide | omega) | exact st.c6 (by first | decide | omega) | exact st.c7 (by first | decide | omega) | exact st.c8 (by first | decide | omega))) rfl rfl rfl ?_
    -- R3.11 31 := frame.go:211 call
    refine QL.v (fun w st => by exact r_len ty_usl25 rfl) rfl rfl rfl ?_
    -- R3.12 32 := frame.go:211 binOp
    refine QL.v (fun w st => by exact r_add (r := (tot : Int)) rfl rfl ((wi64 (by omega) (by omega)).trans (by omega))) rfl rfl rfl ?_
    -- R3.13 3 := frame.go:211 assign
    refine QL.v (fun w st => by first | exact r_assign (v := .int _ _) rfl | exact r_assign rfl) rfl rfl rfl ?_
    refine QL.wl hKq fun w st => ?_
    refine WL.fin hK801 (fun _ _ h => h) ?_
    refine WC.seq fun K802 hK802 => ?_
    refine WC.seq fun K803 hK803 => ?_
    -- region 4
    refine WC.region ?_
    -- R4.0 33 := frame.go:212 move
    refine WL.v (by first | exact r_move (v := .int _ _) rfl | exact r_move rfl) rfl rfl rfl ?_
    -- R4.1 34 := frame.go:212 binOp
    refine WL.v (by first | exact r_gtr rfl rfl (decide_eq_true (by omega)) | exact r_gtr rfl rfl (decide_eq_false (by omega)) | exact r_gtr rfl rfl rfl) rfl rfl rfl ?_
    refine WL.fin hK803 (fun _ _ h => h) ?_
    refine WC.condT rfl rfl ?_
    refine WC.seq fun K804 hK804 => ?_
    -- region 5
    refine WC.region ?_
    -- R5.0 35 := frame.go:213 load
    refine WL.v (by exact r_load1 ty_one47 rfl (st.old (fun h => h) (hE 15 (by decide)))) rfl rfl rfl ?_
    -- R5.1 2 := frame.go:213 assign
    refine WL.v (by first | exact r_assign (v := .nilIface) rfl | exact r_assign (v := .iface _ _) rfl | exact r_assign rfl) rfl rfl rfl ?_
    refine WL.fin hK804 (fun _ _ h => h) ?_
    refine WC.ret1 Tryd.results46 (fun _ _ h => h) rfl ?_
    exact ⟨_, rfl, f, hf, hlf, .inr ⟨_, _, rfl⟩, st⟩
  obtain ⟨f1, hf1⟩ : ∃ f1, f1 = f.setX (setI f.x 1 (tot : Int)) := ⟨_, rfl⟩
  have hok1 : f1.ok := by rw [hf1]; exact FD.setX_ok hf (hf.xr.set1 (by omega))
  have hl1 : f.like f1 := by rw [hf1]; exact ⟨rfl, rfl, rfl, rfl, rfl⟩
  have ek : f1.k = f.k := by rw [hf1]; rfl
  refine enter [.pointer (some ⟨fb, 0, none⟩)] Tryd.func46 rfl Tryd.ntmps46 rfl ?_
  show WC _ _ _ 107 [] [(0, .pointer (some ⟨fb, 0, none⟩))] _
  refine WC.seq fun K805 hK805 => ?_
  -- region 0
  refine WC.region ?_
  -- R0.0 2 := frame.go:207 assign
  refine WL.v (by first | exact r_assign (v := .nilIface) rfl | exact r_assign (v := .iface _ _) rfl | exact r_assign rfl) rfl rfl rfl ?_
  refine WL.fin hK805 (fun _ _ h => h) ?_
  refine WC.seq fun K806 hK806 => ?_
  refine WC.seq fun K807 hK807 => ?_
  -- region 1
  refine WC.region ?_
  -- R1.0 6 := frame.go:208 move
  refine WL.v (by first | exact r_move (v := .pointer _) rfl | exact r_move rfl) rfl rfl rfl ?_
  -- R1.1 7 := frame.go:208 nilCheck
  refine WL.v (by exact r_nilCheck rfl) rfl rfl rfl ?_
  -- R1.2 8 := frame.go:208 fieldAddr
  refine WL.v (by exact r_field ty_fld43_0 rfl) rfl rfl rfl ?_
  -- R1.3 9 := frame.go:208 load
  refine WL.v (by exact r_load1 ty_one27 rfl (by first | assumption | exact st.c0 (by first | decide | omega) | exact st.c1 (by first | decide | omega) | exact st.c2 (by first | decide | omega) | exact st.c3 (by first | decide | omega) | exact st.c4 (by first | decide | omega) | exact st.c5 (by first | decide | omega) | exact st.c6 (by first | decide | omega) | exact st.c7 (by first | decide | omega) | exact st.c8 (by first | decide | omega))) rfl rfl rfl ?_
  -- R1.4 10 := frame.go:208 binOp
  refine WL.v (by first | exact r_eql rfl rfl (decide_eq_true (by omega)) | exact r_eql rfl rfl (decide_eq_false (by omega)) | exact r_eql rfl rfl rfl) rfl rfl rfl ?_
  -- R1.5 11 := frame.go:208 move
  refine WL.v (by first | exact r_move (v := .bool _) rfl | exact r_move rfl) rfl rfl rfl ?_
  -- R1.6 12 := frame.go:208 move
  refine WL.v (by first | exact r_move (v := .pointer _) rfl | exact r_move rfl) rfl rfl rfl ?_
  -- R1.7 13 := frame.go:208 nilCheck
  refine WL.v (by exact r_nilCheck rfl) rfl rfl rfl ?_
  -- R1.8 14 := frame.go:208 fieldAddr
  refine WL.v (by exact r_field ty_fld43_0 rfl) rfl rfl rfl ?_
  -- R1.9 15 := frame.go:208 load
  refine WL.v (by exact r_load1 ty_one27 rfl (by first | assumption | exact st.c0 (by first | decide | omega) | exact st.c1 (by first | decide | omega) | exact st.c2 (by first | decide | omega) | exact st.c3 (by first | decide | omega) | exact st.c4 (by first | decide | omega) | exact st.c5 (by first | decide | omega) | exact st.c6 (by first | decide | omega) | exact st.c7 (by first | decide | omega) | exact st.c8 (by first | decide | omega))) rfl rfl rfl ?_
  -- R1.10 16 := frame.go:208 binOp
  refine WL.v (by first | exact r_geq rfl rfl (decide_eq_true (by omega)) | exact r_geq rfl rfl (decide_eq_false (by omega)) | exact r_geq rfl rfl rfl) rfl rfl rfl ?_
  -- R1.11 17 := frame.go:208 pick
  refine WL.v (by first | exact r_pickT (v := .bool _) rfl rfl | exact r_pickF (v := .bool _) rfl rfl) rfl rfl rfl ?_
  refine WL.fin hK807 (fun _ _ h => h) ?_
  refine WC.condF rfl rfl ?_
  refine WC.skipF hK806 (fun _ _ h => h) ?_
  refine WC.seq fun K808 hK808 => ?_
  -- region 3 (draws)
  refine WC.quietS st ty_mixed (by kernel_rfl) fun Kq hKq => ?_
  -- R3.0 20 := frame.go:211 move
  refine QL.v (fun w st => by first | exact r_move (v := .pointer _) rfl | exact r_move rfl) rfl rfl rfl ?_
  -- R3.1 21 := frame.go:211 nilCheck
  refine QL.v (fun w st => by exact r_nilCheck rfl) rfl rfl rfl ?_
  -- R3.2 22 := frame.go:211 fieldAddr
  refine QL.v (fun w st => by exact r_field ty_fld43_2 rfl) rfl rfl rfl ?_
  -- R3.3 23 := frame.go:211 call
  refine QL.call (val := .int .i64 ((20 + f.s1.bs.length : Nat) : Int)) (fun w st => r_call ty_call29 rfl) rfl rfl rfl (fun w st => ipLen_ok fb (0 + 14) f.x f.s1 hf.l1 (fun its w' q => (frAt_row hlf hrd its w' q).ip) st) ?_
  -- R3.4 24 := frame.go:211 move
  refine QL.v (fun w st => by first | exact r_move (v := .pointer _) rfl | exact r_move rfl) rfl rfl rfl ?_
  -- R3.5 25 := frame.go:211 call
  refine QL.call (val := .int .i64 ((innerN f : Nat) : Int)) (fun w st => r_call ty_call52 rfl) rfl rfl rfl (fun w st => innerLen_ok fb 0 f hf (frAt_row hlf hrd) st) ?_
  -- R3.6 26 := frame.go:211 binOp
  refine QL.v (fun w st => by first | exact r_add rfl rfl (wi64 (by omega) (by omega)) | exact r_add rfl rfl rfl) rfl rfl rfl ?_
  -- R3.7 27 := frame.go:211 move
  refine QL.v (fun w st => by first | exact r_move (v := .pointer _) rfl | exact r_move rfl) rfl rfl rfl ?_
  -- R3.8 28 := frame.go:211 nilCheck
  refine QL.v (fun w st => by exact r_nilCheck rfl) rfl rfl rfl ?_
  -- R3.9 29 := frame.go:211 fieldAddr
  refine QL.v (fun w st => by exact r_field ty_fld43_5 rfl) rfl rfl rfl ?_
  -- R3.10 30 := frame.go:211 load
  refine QL.v (fun w st => by exact r_load1 ty_one25 rfl (by first | assumption | exact st.c0 (by first | decide | omega) | exact st.c1 (by first | decide | omega) | exact st.c2 (by first | decide | omega) | exact st.c3 (by first | decide | omega) | exact st.c4 (by first | decide | omega) | exact st.c5 (by first | decide | omega) | exact st.c6 (by first | decide | omega) | exact st.c7 (by first | decide | omega) | exact st.c8 (by first | decide | omega))) rfl rfl rfl ?_
  -- R3.11 31 := frame.go:211 call
  refine QL.v (fun w st => by exact r_len ty_usl25 rfl) rfl rfl rfl ?_
  -- R3.12 32 := frame.go:211 binOp
  refine QL.v (fun w st => by exact r_add (r := (tot : Int)) rfl rfl ((wi64 (by omega) (by omega)).trans (by omega))) rfl rfl rfl ?_
  -- R3.13 3 := frame.go:211 assign
  refine QL.v (fun w st => by first | exact r_assign (v := .int _ _) rfl | exact r_assign rfl) rfl rfl rfl ?_
  refine QL.wl hKq fun w st => ?_
  refine WL.fin hK808 (fun _ _ h => h) ?_
  refine WC.seq fun K809 hK809 => ?_
  refine WC.seq fun K810 hK810 => ?_
  -- region 4
  refine WC.region ?_
  -- R4.0 33 := frame.go:212 move
  refine WL.v (by first | exact r_move (v := .int _ _) rfl | exact r_move rfl) rfl rfl rfl ?_
  -- R4.1 34 := frame.go:212 binOp
  refine WL.v (by first | exact r_gtr rfl rfl (decide_eq_true (by omega)) | exact r_gtr rfl rfl (decide_eq_false (by omega)) | exact r_gtr rfl rfl rfl) rfl rfl rfl ?_
  refine WL.fin hK810 (fun _ _ h => h) ?_
  refine WC.condF rfl rfl ?_
  refine WC.skipF hK809 (fun _ _ h => h) ?_
  refine WC.seq fun K811 hK811 => ?_
  -- region 6
  refine WC.region ?_
  -- R6.0 36 := frame.go:215 move
  refine WL.v (by first | exact r_move (v := .pointer _) rfl | exact r_move rfl) rfl rfl rfl ?_
  -- R6.1 37 := frame.go:215 nilCheck
  refine WL.v (by exact r_nilCheck rfl) rfl rfl rfl ?_
  -- R6.2 38 := frame.go:215 fieldAddr
  refine WL.v (by exact r_field ty_fld43_2 rfl) rfl rfl rfl ?_
  -- R6.3 39 := frame.go:215 fieldAddr
  refine WL.v (by exact r_field ty_fld36_1 rfl) rfl rfl rfl ?_
  -- R6.4 40 := frame.go:215 load
  refine WL.v (by exact r_load1 ty_one30 rfl (by first | assumption | exact st.c0 (by first | decide | omega) | exact st.c1 (by first | decide | omega) | exact st.c2 (by first | decide | omega) | exact st.c3 (by first | decide | omega) | exact st.c4 (by first | decide | omega) | exact st.c5 (by first | decide | omega) | exact st.c6 (by first | decide | omega) | exact st.c7 (by first | decide | omega) | exact st.c8 (by first | decide | omega))) rfl rfl rfl ?_
  -- R6.5 4 := frame.go:215 assign
  refine WL.v (by first | exact r_assign (v := .int _ _) rfl | exact r_assign rfl) rfl rfl rfl ?_
  refine WL.fin hK811 (fun _ _ h => h) ?_
  refine WC.seq fun K812 hK812 => ?_
  -- region 7
  refine WC.region ?_
  -- R7.0 41 := frame.go:216 move
  refine WL.v (by first | exact r_move (v := .pointer _) rfl | exact r_move rfl) rfl rfl rfl ?_
  -- R7.1 42 := frame.go:216 move
  refine WL.v (by first | exact r_move (v := .int _ _) rfl | exact r_move rfl) rfl rfl rfl ?_
  -- R7.2 43 := frame.go:216 convert
  refine WL.v (by first | exact r_conv ty_cv3_30 rfl (wu16 (by omega) (by omega)) | exact r_conv ty_cv3_30 rfl rfl) rfl rfl rfl ?_
  -- R7.3 44 := frame.go:216 nilCheck
  refine WL.v (by exact r_nilCheck rfl) rfl rfl rfl ?_
  -- R7.4 45 := frame.go:216 fieldAddr
  refine WL.v (by exact r_field ty_fld43_2 rfl) rfl rfl rfl ?_
  -- R7.5 46 := frame.go:216 fieldAddr
  refine WL.v (by exact r_field ty_fld36_1 rfl) rfl rfl rfl ?_
  -- R7.6 None := frame.go:216 store
  first | refine WL.store (v := .int _ _) st ty_one30 rfl rfl rfl (by first | decide | omega) rfl rfl ?_ | refine WL.store (v := _) st ty_one30 rfl rfl rfl (by first | decide | omega) rfl rfl ?_ | refine WL.store (v := .int _ _) st.front1 ty_one30 rfl rfl rfl (by first | decide | omega) rfl rfl ?_ | refine WL.store (v := _) st.front1 ty_one30 rfl rfl rfl (by first | decide | omega) rfl rfl ?_ | refine WL.store (v := .int _ _) st.front2 ty_one30 rfl rfl rfl (by first | decide | omega) rfl rfl ?_ | refine WL.store (v := _) st.front2 ty_one30 rfl rfl rfl (by first | decide | omega) rfl rfl ?_ | refine WL.store (v := .int _ _) st.front3 ty_one30 rfl rfl rfl (by first | decide | omega) rfl rfl ?_ | refine WL.store (v := _) st.front3 ty_one30 rfl rfl rfl (by first | decide | omega) rfl rfl ?_ | refine WL.store (v := .int _ _) st.front4 ty_one30 rfl rfl rfl (by first | decide | omega) rfl rfl ?_ | refine WL.store (v := _) st.front4 ty_one30 rfl rfl rfl (by first | decide | omega) rfl rfl ?_ | refine WL.store (v := .int _ _) st.front5 ty_one30 rfl rfl rfl (by first | decide | omega) rfl rfl ?_ | refine WL.store (v := _) st.front5 ty_one30 rfl rfl rfl (by first | decide | omega) rfl rfl ?_ | refine WL.store (v := .int _ _) st.front6 ty_one30 rfl rfl rfl (by first | decide | omega) rfl rfl ?_ | refine WL.store (v := _) st.front6 ty_one30 rfl rfl rfl (by first | decide | omega) rfl rfl ?_ | refine WL.store (v := .int _ _) st.front7 ty_one30 rfl rfl rfl (by first | decide | omega) rfl rfl ?_ | refine WL.store (v := _) st.front7 ty_one30 rfl rfl rfl (by first | decide | omega) rfl rfl ?_ | refine WL.store (v := .int _ _) st.front8 ty_one30 rfl rfl rfl (by first | decide | omega) rfl rfl ?_ | refine WL.store (v := _) st.front8 ty_one30 rfl rfl rfl (by first | decide | omega) rfl rfl ?_
  intro w st
  refine WL.fin hK812 (fun _ _ h => h) ?_
  refine WC.seq fun K813 hK813 => ?_
  refine WC.seq fun K814 hK814 => ?_
  -- region 8
  have st := st_nrm (L' := (f.setX (setI f.x 1 (tot : Int))).cs) rfl st
  rw [← hf1] at st
  refine WC.region ?_
  -- R8.0 47 := frame.go:217 move
  refine WL.v (by first | exact r_move (v := .pointer _) rfl | exact r_move rfl) rfl rfl rfl ?_
  -- R8.1 48 := frame.go:217 call
  refine WL.call (r_call ty_call33 rfl) rfl rfl rfl (check_ok hE fb 0 f1 hok1 (frAt_row hl1 hrd) st) ?_
  rintro ev2 w ⟨hev2, st⟩
  -- R8.2 5 := frame.go:217 assign
  refine WL.v (by first | exact r_assign (v := .nilIface) rfl | exact r_assign (v := .iface _ _) rfl | exact r_assign rfl) rfl rfl rfl ?_
  refine WL.fin hK814 (fun _ _ h => h) ?_
  rcases hev2 with ⟨rfl, hP⟩ | ⟨⟨T, u, rfl⟩, hP⟩
  · obtain ⟨_, _, hP2⟩ := hP
    rw [ek] at hP2
    have hip : ipP f1.x f1.s1.bs.length := hP2.elim (fun q => absurd q.1 k0) (fun q => q.2.2.1)
    have htcp : f.k = 2 → tcpP f1.t f1.s2.bs.length := fun h => hP2.elim (fun q => by omega) (fun q => q.2.2.2.1.elim (fun r => by rw [ek] at r; omega) (fun r => r.2.2.elim (fun r => r.2.2) (fun r => absurd (ek.trans h) r.1)))
    have hic : f.k = 3 → ipP f1.z f1.s3.bs.length := fun h => hP2.elim (fun q => by omega) (fun q => q.2.2.2.1.elim (fun r => by rw [ek] at r; omega) (fun r => r.2.2.elim (fun r => by rw [ek] at r; omega) (fun r => r.2.2.2.1)))
    rw [← ek] at k0 k4 kr
    have hx1 := hok1.xr
    by_cases k2 : f1.k = 2
    · have hrg2 : 0 ≤ 65535 - tcpSumV (tcpPs (f1.x 8) (f1.x 9) (f1.x 10) (f1.x 11) (f1.x 12) (f1.x 13) (f1.x 14) (f1.x 15) f1.s2.bs.length f1.s4.bs.length) f1.t f1.s2.bs f1.s4.bs ∧ 65535 - tcpSumV (tcpPs (f1.x 8) (f1.x 9) (f1.x 10) (f1.x 11) (f1.x 12) (f1.x 13) (f1.x 14) (f1.x 15) f1.s2.bs.length f1.s4.bs.length) f1.t f1.s2.bs f1.s4.bs < 65536 := by
        have : 0 ≤ tcpSumV (tcpPs (f1.x 8) (f1.x 9) (f1.x 10) (f1.x 11) (f1.x 12) (f1.x 13) (f1.x 14) (f1.x 15) f1.s2.bs.length f1.s4.bs.length) f1.t f1.s2.bs f1.s4.bs ∧ tcpSumV (tcpPs (f1.x 8) (f1.x 9) (f1.x 10) (f1.x 11) (f1.x 12) (f1.x 13) (f1.x 14) (f1.x 15) f1.s2.bs.length f1.s4.bs.length) f1.t f1.s2.bs f1.s4.bs < 65536 := foldV_rng _
        omega
      obtain ⟨ck, hck⟩ : ∃ ck, ck = 65535 - tcpSumV (tcpPs (f1.x 8) (f1.x 9) (f1.x 10) (f1.x 11) (f1.x 12) (f1.x 13) (f1.x 14) (f1.x 15) f1.s2.bs.length f1.s4.bs.length) f1.t f1.s2.bs f1.s4.bs := ⟨_, rfl⟩
      rw [← hck] at hrg2
      have hl2 : f.like (f1.setT (setI f1.t 7 ck)) := hl1
      have hok2 : (f1.setT (setI f1.t 7 ck)).ok := FD.setT_ok hok1 (hok1.tr.set7 hrg2)
      refine WC.seq fun K815 hK815 => ?_
      -- region 9
      refine WC.region ?_
      -- R9.0 49 := frame.go:217 move
      refine WL.v (by first | exact r_move (v := .nilIface) rfl | exact r_move (v := .iface _ _) rfl | exact r_move rfl) rfl rfl rfl ?_
      -- R9.1 50 := frame.go:217 binOp
      refine WL.v (by first | exact r_nil_neq ty_ifc47 rfl | exact r_some_neq ty_ifc47 rfl) rfl rfl rfl ?_
      refine WL.fin hK815 (fun _ _ h => h) ?_
      refine WC.condF rfl rfl ?_
      refine WC.skipF hK813 (fun _ _ h => h) ?_
      refine WC.seq fun K816 hK816 => ?_
      refine WC.seq fun K817 hK817 => ?_
      -- region 12
      refine WC.region ?_
      -- R12.0 57 := frame.go:221 move
      refine WL.v (by first | exact r_move (v := .pointer _) rfl | exact r_move rfl) rfl rfl rfl ?_
      -- R12.1 58 := frame.go:221 nilCheck
      refine WL.v (by exact r_nilCheck rfl) rfl rfl rfl ?_
      -- R12.2 59 := frame.go:221 fieldAddr
      refine WL.v (by exact r_field ty_fld43_0 rfl) rfl rfl rfl ?_
      -- R12.3 60 := frame.go:221 load
      refine WL.v (by exact r_load1 ty_one27 rfl (by first | assumption | exact st.c0 (by first | decide | omega) | exact st.c1 (by first | decide | omega) | exact st.c2 (by first | decide | omega) | exact st.c3 (by first | decide | omega) | exact st.c4 (by first | decide | omega) | exact st.c5 (by first | decide | omega) | exact st.c6 (by first | decide | omega) | exact st.c7 (by first | decide | omega) | exact st.c8 (by first | decide | omega))) rfl rfl rfl ?_
      refine WL.fin hK817 (fun _ _ h => h) ?_
      refine WC.block ?_
      refine WC.seq fun K818 hK818 => ?_
      -- region 13
      refine WC.region ?_
      -- R13.0 62 := frame.go:222 binOp
      refine WL.v (by first | exact r_eql rfl rfl (decide_eq_true (by omega)) | exact r_eql rfl rfl (decide_eq_false (by omega)) | exact r_eql rfl rfl rfl) rfl rfl rfl ?_
      -- R13.1 61 := frame.go:222 assign
      refine WL.v (by first | exact r_assign (v := .bool _) rfl | exact r_assign rfl) rfl rfl rfl ?_
      refine WL.fin hK818 (fun _ _ h => h) ?_
      refine WC.condT rfl rfl ?_
      -- region 14 (draws)
      refine WC.heldS2 [18, 19, 20, 21, 22] [1, 2, 3, 4, 5, 6, 7, 8, 9, 10, 14, 15, 16, 17] [0, 11, 12, 13] [18, 19, 20, 21, 22] st (st) ty_mixed (by kernel_rfl) fun w st Kq Kq2 hKq hKq2 => ?_
      -- R14.1 64 := frame.go:223 move
      refine HL.v (fun w st => by first | exact r_move (v := .pointer _) rfl | exact r_move rfl) rfl rfl rfl ?_
      -- R14.2 65 := frame.go:223 nilCheck
      refine HL.v (fun w st => by exact r_nilCheck rfl) rfl rfl rfl ?_
      -- R14.3 66 := frame.go:223 fieldAddr
      refine HL.v (fun w st => by exact r_field ty_fld43_2 rfl) rfl rfl rfl ?_
      -- R14.4 67 := frame.go:223 fieldAddr
      refine HL.v (fun w st => by exact r_field ty_fld36_8 rfl) rfl rfl rfl ?_
      -- R14.5 68 := frame.go:223 load
      refine HL.v (fun w st => by exact r_loadL (vs := [_, _, _, _]) ty_agg34 rfl ⟨st.c0 (by decide), st.c0 (by decide), st.c0 (by decide), st.c0 (by decide), trivial⟩) rfl rfl rfl ?_
      -- R14.6 69 := frame.go:223 move
      refine HL.v (fun w st => by first | exact r_move (v := .pointer _) rfl | exact r_move rfl) rfl rfl rfl ?_
      -- R14.7 70 := frame.go:223 nilCheck
      refine HL.v (fun w st => by exact r_nilCheck rfl) rfl rfl rfl ?_
      -- R14.8 71 := frame.go:223 fieldAddr
      refine HL.v (fun w st => by exact r_field ty_fld43_2 rfl) rfl rfl rfl ?_
      -- R14.9 72 := frame.go:223 fieldAddr
      refine HL.v (fun w st => by exact r_field ty_fld36_9 rfl) rfl rfl rfl ?_
      -- R14.10 73 := frame.go:223 load
      refine HL.v (fun w st => by exact r_loadL (vs := [_, _, _, _]) ty_agg34 rfl ⟨st.c0 (by decide), st.c0 (by decide), st.c0 (by decide), st.c0 (by decide), trivial⟩) rfl rfl rfl ?_
      -- R14.14 77 := frame.go:223 move
      refine HL.v (fun w st => by first | exact r_move (v := .pointer _) rfl | exact r_move rfl) rfl rfl rfl ?_
      -- R14.15 78 := frame.go:223 nilCheck
      refine HL.v (fun w st => by exact r_nilCheck rfl) rfl rfl rfl ?_
      -- R14.16 79 := frame.go:223 fieldAddr
      refine HL.v (fun w st => by exact r_field ty_fld43_5 rfl) rfl rfl rfl ?_
      -- R14.17 80 := frame.go:223 load
      refine HL.v (fun w st => by exact r_load1 ty_one25 rfl (by first | assumption | exact st.c0 (by first | decide | omega) | exact st.c1 (by first | decide | omega) | exact st.c2 (by first | decide | omega) | exact st.c3 (by first | decide | omega) | exact st.c4 (by first | decide | omega) | exact st.c5 (by first | decide | omega) | exact st.c6 (by first | decide | omega) | exact st.c7 (by first | decide | omega) | exact st.c8 (by first | decide | omega))) rfl rfl rfl ?_
      refine HL.pure hKq ?_
      -- R14.0 63 := frame.go:223 move
      refine HL.v (fun w _ => by first | exact r_move (v := .pointer _) rfl | exact r_move rfl) rfl rfl rfl ?_
      -- R14.11 74 := frame.go:223 move
      refine HL.v (fun w _ => by first | exact r_move (v := .pointer _) rfl | exact r_move rfl) rfl rfl rfl ?_
      -- R14.12 75 := frame.go:223 nilCheck
      refine HL.v (fun w _ => by exact r_nilCheck rfl) rfl rfl rfl ?_
      -- R14.13 76 := frame.go:223 fieldAddr
      refine HL.v (fun w _ => by exact r_field ty_fld43_3 rfl) rfl rfl rfl ?_
      refine HL.fin hKq2 ?_
      refine TL.at ?_
      -- R14.18 81 := frame.go:223 call
      refine WL.call (r_call ty_call67 rfl) rfl rfl rfl (tcpCk_ok (f1.x 8) (f1.x 9) (f1.x 10) (f1.x 11) (f1.x 12) (f1.x 13) (f1.x 14) (f1.x 15) hx1.r8 hx1.r9 hx1.r10 hx1.r11 hx1.r12 hx1.r13 hx1.r14 hx1.r15 fb (0 + 31) f1.t f1.s2 f1.s4 hok1.tr hok1.o2 hok1.o4 hok1.l4 (htcp (ek.symm.trans k2)) (fun its w' q => (frAt_row hl1 hrd its w' q).tcp) (fun its w' q => (frAt_row hl1 hrd its w' q).rd.d2) (fun its w' q => (frAt_row hl1 hrd its w' q).rd.d4) st) ?_
      rintro _ w ⟨rfl, st⟩
      rw [← hck]
      refine TL.nxt' rfl ?_
      refine TL.at ?_
      -- R14.19 82 := frame.go:223 nilCheck
      refine WL.v (by exact r_nilCheck rfl) rfl rfl rfl ?_
      refine TL.nxt' rfl ?_
      refine TL.at ?_
      -- R14.20 83 := frame.go:223 fieldAddr
      refine WL.v (by exact r_field ty_fld43_3 rfl) rfl rfl rfl ?_
      refine TL.nxt' rfl ?_
      refine TL.at ?_
      -- R14.21 84 := frame.go:223 fieldAddr
      refine WL.v (by exact r_field ty_fld39_7 rfl) rfl rfl rfl ?_
      refine TL.nxt' rfl ?_
      refine TL.at ?_
      -- R14.22 None := frame.go:223 store
      first | refine WL.store (v := .int _ _) st ty_one30 rfl rfl rfl (by first | decide | omega) rfl rfl ?_ | refine WL.store (v := _) st ty_one30 rfl rfl rfl (by first | decide | omega) rfl rfl ?_ | refine WL.store (v := .int _ _) st.front1 ty_one30 rfl rfl rfl (by first | decide | omega) rfl rfl ?_ | refine WL.store (v := _) st.front1 ty_one30 rfl rfl rfl (by first | decide | omega) rfl rfl ?_ | refine WL.store (v := .int _ _) st.front2 ty_one30 rfl rfl rfl (by first | decide | omega) rfl rfl ?_ | refine WL.store (v := _) st.front2 ty_one30 rfl rfl rfl (by first | decide | omega) rfl rfl ?_ | refine WL.store (v := .int _ _) st.front3 ty_one30 rfl rfl rfl (by first | decide | omega) rfl rfl ?_ | refine WL.store (v := _) st.front3 ty_one30 rfl rfl rfl (by first | decide | omega) rfl rfl ?_ | refine WL.store (v := .int _ _) st.front4 ty_one30 rfl rfl rfl (by first | decide | omega) rfl rfl ?_ | refine WL.store (v := _) st.front4 ty_one30 rfl rfl rfl (by first | decide | omega) rfl rfl ?_ | refine WL.store (v := .int _ _) st.front5 ty_one30 rfl rfl rfl (by first | decide | omega) rfl rfl ?_ | refine WL.store (v := _) st.front5 ty_one30 rfl rfl rfl (by first | decide | omega) rfl rfl ?_ | refine WL.store (v := .int _ _) st.front6 ty_one30 rfl rfl rfl (by first | decide | omega) rfl rfl ?_ | refine WL.store (v := _) st.front6 ty_one30 rfl rfl rfl (by first | decide | omega) rfl rfl ?_ | refine WL.store (v := .int _ _) st.front7 ty_one30 rfl rfl rfl (by first | decide | omega) rfl rfl ?_ | refine WL.store (v := _) st.front7 ty_one30 rfl rfl rfl (by first | decide | omega) rfl rfl ?_ | refine WL.store (v := .int _ _) st.front8 ty_one30 rfl rfl rfl (by first | decide | omega) rfl rfl ?_ | refine WL.store (v := _) st.front8 ty_one30 rfl rfl rfl (by first | decide | omega) rfl rfl ?_
      intro w st
      refine TL.nxt' rfl ?_
      refine TL.wl ?_
      refine WL.fin hK816 (fun _ _ h => h) ?_
      refine WC.seq fun K819 hK819 => ?_
      -- region 17
      have st := st_nrm (L' := (f1.setT (setI f1.t 7 ck)).cs) rfl st
      refine WC.region ?_
      -- R17.0 99 := frame.go:227 move
      refine WL.v (by first | exact r_move (v := .pointer _) rfl | exact r_move rfl) rfl rfl rfl ?_
      -- R17.1 100 := frame.go:227 move
      refine WL.v (by first | exact r_move (v := .pointer _) rfl | exact r_move rfl) rfl rfl rfl ?_
      -- R17.2 101 := frame.go:227 nilCheck
      refine WL.v (by exact r_nilCheck rfl) rfl rfl rfl ?_
      -- R17.3 102 := frame.go:227 fieldAddr
      refine WL.v (by exact r_field ty_fld43_2 rfl) rfl rfl rfl ?_
      -- R17.4 103 := frame.go:227 call
      refine WL.call (r_call ty_call69 rfl) rfl rfl rfl (ipCk_ok fb (0 + 14) f1.x f1.s1 hok1.xr hok1.o1 hip (fun its w' q => (frAt_row (g := (f1.setT (setI f1.t 7 ck))) hl2 hrd its w' q).ip) (fun its w' q => (frAt_row (g := (f1.setT (setI f1.t 7 ck))) hl2 hrd its w' q).rd.d1) st) ?_
      rintro _ w ⟨rfl, st⟩
      -- R17.5 104 := frame.go:227 nilCheck
      refine WL.v (by exact r_nilCheck rfl) rfl rfl rfl ?_
      -- R17.6 105 := frame.go:227 fieldAddr
      refine WL.v (by exact r_field ty_fld43_2 rfl) rfl rfl rfl ?_
      -- R17.7 106 := frame.go:227 fieldAddr
      refine WL.v (by exact r_field ty_fld36_7 rfl) rfl rfl rfl ?_
      -- R17.8 None := frame.go:227 store
      first | refine WL.store (v := .int _ _) st ty_one30 rfl rfl rfl (by first | decide | omega) rfl rfl ?_ | refine WL.store (v := _) st ty_one30 rfl rfl rfl (by first | decide | omega) rfl rfl ?_ | refine WL.store (v := .int _ _) st.front1 ty_one30 rfl rfl rfl (by first | decide | omega) rfl rfl ?_ | refine WL.store (v := _) st.front1 ty_one30 rfl rfl rfl (by first | decide | omega) rfl rfl ?_ | refine WL.store (v := .int _ _) st.front2 ty_one30 rfl rfl rfl (by first | decide | omega) rfl rfl ?_ | refine WL.store (v := _) st.front2 ty_one30 rfl rfl rfl (by first | decide | omega) rfl rfl ?_ | refine WL.store (v := .int _ _) st.front3 ty_one30 rfl rfl rfl (by first | decide | omega) rfl rfl ?_ | refine WL.store (v := _) st.front3 ty_one30 rfl rfl rfl (by first | decide | omega) rfl rfl ?_ | refine WL.store (v := .int _ _) st.front4 ty_one30 rfl rfl rfl (by first | decide | omega) rfl rfl ?_ | refine WL.store (v := _) st.front4 ty_one30 rfl rfl rfl (by first | decide | omega) rfl rfl ?_ | refine WL.store (v := .int _ _) st.front5 ty_one30 rfl rfl rfl (by first | decide | omega) rfl rfl ?_ | refine WL.store (v := _) st.front5 ty_one30 rfl rfl rfl (by first | decide | omega) rfl rfl ?_ | refine WL.store (v := .int _ _) st.front6 ty_one30 rfl rfl rfl (by first | decide | omega) rfl rfl ?_ | refine WL.store (v := _) st.front6 ty_one30 rfl rfl rfl (by first | decide | omega) rfl rfl ?_ | refine WL.store (v := .int _ _) st.front7 ty_one30 rfl rfl rfl (by first | decide | omega) rfl rfl ?_ | refine WL.store (v := _) st.front7 ty_one30 rfl rfl rfl (by first | decide | omega) rfl rfl ?_ | refine WL.store (v := .int _ _) st.front8 ty_one30 rfl rfl rfl (by first | decide | omega) rfl rfl ?_ | refine WL.store (v := _) st.front8 ty_one30 rfl rfl rfl (by first | decide | omega) rfl rfl ?_
      intro w st
      refine WL.fin hK819 (fun _ _ h => h) ?_
      refine WC.seq fun K820 hK820 => ?_
      -- region 18
      refine WC.region ?_
      -- R18.0 2 := frame.go:228 assign
      refine WL.v (by first | exact r_assign (v := .nilIface) rfl | exact r_assign (v := .iface _ _) rfl | exact r_assign rfl) rfl rfl rfl ?_
      refine WL.fin hK820 (fun _ _ h => h) ?_
      refine WC.ret1 Tryd.results46 (fun _ _ h => h) rfl ?_
      have hrg : 0 ≤ 65535 - ipSumV f1.x f1.s1.bs ∧ 65535 - ipSumV f1.x f1.s1.bs < 65536 := by have : 0 ≤ ipSumV f1.x f1.s1.bs ∧ ipSumV f1.x f1.s1.bs < 65536 := foldV_rng _; omega
      exact ⟨_, rfl, (f1.setT (setI f1.t 7 ck)).setX (setI f1.x 7 (65535 - ipSumV f1.x f1.s1.bs)), FD.setX_ok hok2 (hok1.xr.set7 hrg), hl2, .inl rfl, st_nrm rfl st⟩
    by_cases k3 : f1.k = 3
    · have hrg2 : 0 ≤ 65535 - icSumV f1.y f1.z f1.s3.bs f1.s4.bs ∧ 65535 - icSumV f1.y f1.z f1.s3.bs f1.s4.bs < 65536 := by
        have : 0 ≤ icSumV f1.y f1.z f1.s3.bs f1.s4.bs ∧ icSumV f1.y f1.z f1.s3.bs f1.s4.bs < 65536 := foldV_rng _
        omega
      obtain ⟨ck, hck⟩ : ∃ ck, ck = 65535 - icSumV f1.y f1.z f1.s3.bs f1.s4.bs := ⟨_, rfl⟩
      rw [← hck] at hrg2
      have hl2 : f.like (f1.setY (setI f1.y 2 ck)) := hl1
      have hok2 : (f1.setY (setI f1.y 2 ck)).ok := FD.setY_ok hok1 (hok1.yr.set2 hrg2)
      refine WC.seq fun K821 hK821 => ?_
      -- region 9
      refine WC.region ?_
      -- R9.0 49 := frame.go:217 move
      refine WL.v (by first | exact r_move (v := .nilIface) rfl | exact r_move (v := .iface _ _) rfl | exact r_move rfl) rfl rfl rfl ?_
      -- R9.1 50 := frame.go:217 binOp
      refine WL.v (by first | exact r_nil_neq ty_ifc47 rfl | exact r_some_neq ty_ifc47 rfl) rfl rfl rfl ?_
      refine WL.fin hK821 (fun _ _ h => h) ?_
      refine WC.condF rfl rfl ?_
      refine WC.skipF hK813 (fun _ _ h => h) ?_
      refine WC.seq fun K822 hK822 => ?_
      refine WC.seq fun K823 hK823 => ?_
      -- region 12
      refine WC.region ?_
      -- R12.0 57 := frame.go:221 move
      refine WL.v (by first | exact r_move (v := .pointer _) rfl | exact r_move rfl) rfl rfl rfl ?_
      -- R12.1 58 := frame.go:221 nilCheck
      refine WL.v (by exact r_nilCheck rfl) rfl rfl rfl ?_
      -- R12.2 59 := frame.go:221 fieldAddr
      refine WL.v (by exact r_field ty_fld43_0 rfl) rfl rfl rfl ?_
      -- R12.3 60 := frame.go:221 load
      refine WL.v (by exact r_load1 ty_one27 rfl (by first | assumption | exact st.c0 (by first | decide | omega) | exact st.c1 (by first | decide | omega) | exact st.c2 (by first | decide | omega) | exact st.c3 (by first | decide | omega) | exact st.c4 (by first | decide | omega) | exact st.c5 (by first | decide | omega) | exact st.c6 (by first | decide | omega) | exact st.c7 (by first | decide | omega) | exact st.c8 (by first | decide | omega))) rfl rfl rfl ?_
      refine WL.fin hK823 (fun _ _ h => h) ?_
      refine WC.block ?_
      refine WC.seq fun K824 hK824 => ?_
      -- region 13
      refine WC.region ?_
      -- R13.0 62 := frame.go:222 binOp
      refine WL.v (by first | exact r_eql rfl rfl (decide_eq_true (by omega)) | exact r_eql rfl rfl (decide_eq_false (by omega)) | exact r_eql rfl rfl rfl) rfl rfl rfl ?_
      -- R13.1 61 := frame.go:222 assign
      refine WL.v (by first | exact r_assign (v := .bool _) rfl | exact r_assign rfl) rfl rfl rfl ?_
      refine WL.fin hK824 (fun _ _ h => h) ?_
      refine WC.condF rfl rfl ?_
      refine WC.seq fun K825 hK825 => ?_
      -- region 15
      refine WC.region ?_
      -- R15.0 86 := frame.go:224 binOp
      refine WL.v (by first | exact r_eql rfl rfl (decide_eq_true (by omega)) | exact r_eql rfl rfl (decide_eq_false (by omega)) | exact r_eql rfl rfl rfl) rfl rfl rfl ?_
      -- R15.1 85 := frame.go:224 assign
      refine WL.v (by first | exact r_assign (v := .bool _) rfl | exact r_assign rfl) rfl rfl rfl ?_
      refine WL.fin hK825 (fun _ _ h => h) ?_
      refine WC.condT rfl rfl ?_
      -- region 16 (draws)
      refine WC.heldS2 [8, 9, 10, 11, 12] [4, 5, 6, 7] [0, 1, 2, 3] [8, 9, 10, 11, 12] st (st) ty_mixed (by kernel_rfl) fun w st Kq Kq2 hKq hKq2 => ?_
      -- R16.4 91 := frame.go:225 move
      refine HL.v (fun w st => by first | exact r_move (v := .pointer _) rfl | exact r_move rfl) rfl rfl rfl ?_
      -- R16.5 92 := frame.go:225 nilCheck
      refine HL.v (fun w st => by exact r_nilCheck rfl) rfl rfl rfl ?_
      -- R16.6 93 := frame.go:225 fieldAddr
      refine HL.v (fun w st => by exact r_field ty_fld43_5 rfl) rfl rfl rfl ?_
      -- R16.7 94 := frame.go:225 load
      refine HL.v (fun w st => by exact r_load1 ty_one25 rfl (by first | assumption | exact st.c0 (by first | decide | omega) | exact st.c1 (by first | decide | omega) | exact st.c2 (by first | decide | omega) | exact st.c3 (by first | decide | omega) | exact st.c4 (by first | decide | omega) | exact st.c5 (by first | decide | omega) | exact st.c6 (by first | decide | omega) | exact st.c7 (by first | decide | omega) | exact st.c8 (by first | decide | omega))) rfl rfl rfl ?_
      refine HL.pure hKq ?_
      -- R16.0 87 := frame.go:225 move
      refine HL.v (fun w _ => by first | exact r_move (v := .pointer _) rfl | exact r_move rfl) rfl rfl rfl ?_
      -- R16.1 88 := frame.go:225 move
      refine HL.v (fun w _ => by first | exact r_move (v := .pointer _) rfl | exact r_move rfl) rfl rfl rfl ?_
      -- R16.2 89 := frame.go:225 nilCheck
      refine HL.v (fun w _ => by exact r_nilCheck rfl) rfl rfl rfl ?_
      -- R16.3 90 := frame.go:225 fieldAddr
      refine HL.v (fun w _ => by exact r_field ty_fld43_4 rfl) rfl rfl rfl ?_
      refine HL.fin hKq2 ?_
      refine TL.at ?_
      -- R16.8 95 := frame.go:225 call
      refine WL.call (r_call ty_call68 rfl) rfl rfl rfl (icCk_ok fb (0 + 41) f1.y f1.z f1.s3 f1.s4 hok1.yr hok1.zr hok1.o3 hok1.o4 hok1.l4 (hic (ek.symm.trans k3)) (fun its w' q => (frAt_row hl1 hrd its w' q).ic) (fun its w' q => (frAt_row hl1 hrd its w' q).rd.d3) (fun its w' q => (frAt_row hl1 hrd its w' q).rd.d4) st) ?_
      rintro _ w ⟨rfl, st⟩
      rw [← hck]
      refine TL.nxt' rfl ?_
      refine TL.at ?_
      -- R16.9 96 := frame.go:225 nilCheck
      refine WL.v (by exact r_nilCheck rfl) rfl rfl rfl ?_
      refine TL.nxt' rfl ?_
      refine TL.at ?_
      -- R16.10 97 := frame.go:225 fieldAddr
      refine WL.v (by exact r_field ty_fld43_4 rfl) rfl rfl rfl ?_
      refine TL.nxt' rfl ?_
      refine TL.at ?_
      -- R16.11 98 := frame.go:225 fieldAddr
      refine WL.v (by exact r_field ty_fld41_2 rfl) rfl rfl rfl ?_
      refine TL.nxt' rfl ?_
      refine TL.at ?_
      -- R16.12 None := frame.go:225 store
      first | refine WL.store (v := .int _ _) st ty_one30 rfl rfl rfl (by first | decide | omega) rfl rfl ?_ | refine WL.store (v := _) st ty_one30 rfl rfl rfl (by first | decide | omega) rfl rfl ?_ | refine WL.store (v := .int _ _) st.front1 ty_one30 rfl rfl rfl (by first | decide | omega) rfl rfl ?_ | refine WL.store (v := _) st.front1 ty_one30 rfl rfl rfl (by first | decide | omega) rfl rfl ?_ | refine WL.store (v := .int _ _) st.front2 ty_one30 rfl rfl rfl (by first | decide | omega) rfl rfl ?_ | refine WL.store (v := _) st.front2 ty_one30 rfl rfl rfl (by first | decide | omega) rfl rfl ?_ | refine WL.store (v := .int _ _) st.front3 ty_one30 rfl rfl rfl (by first | decide | omega) rfl rfl ?_ | refine WL.store (v := _) st.front3 ty_one30 rfl rfl rfl (by first | decide | omega) rfl rfl ?_ | refine WL.store (v := .int _ _) st.front4 ty_one30 rfl rfl rfl (by first | decide | omega) rfl rfl ?_ | refine WL.store (v := _) st.front4 ty_one30 rfl rfl rfl (by first | decide | omega) rfl rfl ?_ | refine WL.store (v := .int _ _) st.front5 ty_one30 rfl rfl rfl (by first | decide | omega) rfl rfl ?_ | refine WL.store (v := _) st.front5 ty_one30 rfl rfl rfl (by first | decide | omega) rfl rfl ?_ | refine WL.store (v := .int _ _) st.front6 ty_one30 rfl rfl rfl (by first | decide | omega) rfl rfl ?_ | refine WL.store (v := _) st.front6 ty_one30 rfl rfl rfl (by first | decide | omega) rfl rfl ?_ | refine WL.store (v := .int _ _) st.front7 ty_one30 rfl rfl rfl (by first | decide | omega) rfl rfl ?_ | refine WL.store (v := _) st.front7 ty_one30 rfl rfl rfl (by first | decide | omega) rfl rfl ?_ | refine WL.store (v := .int _ _) st.front8 ty_one30 rfl rfl rfl (by first | decide | omega) rfl rfl ?_ | refine WL.store (v := _) st.front8 ty_one30 rfl rfl rfl (by first | decide | omega) rfl rfl ?_
      intro w st
      refine TL.nxt' rfl ?_
      refine TL.wl ?_
      refine WL.fin hK822 (fun _ _ h => h) ?_
      refine WC.seq fun K826 hK826 => ?_
      -- region 17
      have st := st_nrm (L' := (f1.setY (setI f1.y 2 ck)).cs) rfl st
      refine WC.region ?_
      -- R17.0 99 := frame.go:227 move
      refine WL.v (by first | exact r_move (v := .pointer _) rfl | exact r_move rfl) rfl rfl rfl ?_
      -- R17.1 100 := frame.go:227 move
      refine WL.v (by first | exact r_move (v := .pointer _) rfl | exact r_move rfl) rfl rfl rfl ?_
      -- R17.2 101 := frame.go:227 nilCheck
      refine WL.v (by exact r_nilCheck rfl) rfl rfl rfl ?_
      -- R17.3 102 := frame.go:227 fieldAddr
      refine WL.v (by exact r_field ty_fld43_2 rfl) rfl rfl rfl ?_
      -- R17.4 103 := frame.go:227 call
      refine WL.call (r_call ty_call69 rfl) rfl rfl rfl (ipCk_ok fb (0 + 14) f1.x f1.s1 hok1.xr hok1.o1 hip (fun its w' q => (frAt_row (g := (f1.setY (setI f1.y 2 ck))) hl2 hrd its w' q).ip) (fun its w' q => (frAt_row (g := (f1.setY (setI f1.y 2 ck))) hl2 hrd its w' q).rd.d1) st) ?_
      rintro _ w ⟨rfl, st⟩
      -- R17.5 104 := frame.go:227 nilCheck
      refine WL.v (by exact r_nilCheck rfl) rfl rfl rfl ?_
      -- R17.6 105 := frame.go:227 fieldAddr
      refine WL.v (by exact r_field ty_fld43_2 rfl) rfl rfl rfl ?_
      -- R17.7 106 := frame.go:227 fieldAddr
      refine WL.v (by exact r_field ty_fld36_7 rfl) rfl rfl rfl ?_
      -- R17.8 None := frame.go:227 store
      first | refine WL.store (v := .int _ _) st ty_one30 rfl rfl rfl (by first | decide | omega) rfl rfl ?_ | refine WL.store (v := _) st ty_one30 rfl rfl rfl (by first | decide | omega) rfl rfl ?_ | refine WL.store (v := .int _ _) st.front1 ty_one30 rfl rfl rfl (by first | decide | omega) rfl rfl ?_ | refine WL.store (v := _) st.front1 ty_one30 rfl rfl rfl (by first | decide | omega) rfl rfl ?_ | refine WL.store (v := .int _ _) st.front2 ty_one30 rfl rfl rfl (by first | decide | omega) rfl rfl ?_ | refine WL.store (v := _) st.front2 ty_one30 rfl rfl rfl (by first | decide | omega) rfl rfl ?_ | refine WL.store (v := .int _ _) st.front3 ty_one30 rfl rfl rfl (by first | decide | omega) rfl rfl ?_ | refine WL.store (v := _) st.front3 ty_one30 rfl rfl rfl (by first | decide | omega) rfl rfl ?_ | refine WL.store (v := .int _ _) st.front4 ty_one30 rfl rfl rfl (by first | decide | omega) rfl rfl ?_ | refine WL.store (v := _) st.front4 ty_one30 rfl rfl rfl (by first | decide | omega) rfl rfl ?_ | refine WL.store (v := .int _ _) st.front5 ty_one30 rfl rfl rfl (by first | decide | omega) rfl rfl ?_ | refine WL.store (v := _) st.front5 ty_one30 rfl rfl rfl (by first | decide | omega) rfl rfl ?_ | refine WL.store (v := .int _ _) st.front6 ty_one30 rfl rfl rfl (by first | decide | omega) rfl rfl ?_ | refine WL.store (v := _) st.front6 ty_one30 rfl rfl rfl (by first | decide | omega) rfl rfl ?_ | refine WL.store (v := .int _ _) st.front7 ty_one30 rfl rfl rfl (by first | decide | omega) rfl rfl ?_ | refine WL.store (v := _) st.front7 ty_one30 rfl rfl rfl (by first | decide | omega) rfl rfl ?_ | refine WL.store (v := .int _ _) st.front8 ty_one30 rfl rfl rfl (by first | decide | omega) rfl rfl ?_ | refine WL.store (v := _) st.front8 ty_one30 rfl rfl rfl (by first | decide | omega) rfl rfl ?_
      intro w st
      refine WL.fin hK826 (fun _ _ h => h) ?_
      refine WC.seq fun K827 hK827 => ?_
      -- region 18
      refine WC.region ?_
      -- R18.0 2 := frame.go:228 assign
      refine WL.v (by first | exact r_assign (v := .nilIface) rfl | exact r_assign (v := .iface _ _) rfl | exact r_assign rfl) rfl rfl rfl ?_
      refine WL.fin hK827 (fun _ _ h => h) ?_
      refine WC.ret1 Tryd.results46 (fun _ _ h => h) rfl ?_
      have hrg : 0 ≤ 65535 - ipSumV f1.x f1.s1.bs ∧ 65535 - ipSumV f1.x f1.s1.bs < 65536 := by have : 0 ≤ ipSumV f1.x f1.s1.bs ∧ ipSumV f1.x f1.s1.bs < 65536 := foldV_rng _; omega
      exact ⟨_, rfl, (f1.setY (setI f1.y 2 ck)).setX (setI f1.x 7 (65535 - ipSumV f1.x f1.s1.bs)), FD.setX_ok hok2 (hok1.xr.set7 hrg), hl2, .inl rfl, st_nrm rfl st⟩
    refine WC.seq fun K828 hK828 => ?_
    -- region 9
    refine WC.region ?_
    -- R9.0 49 := frame.go:217 move
    refine WL.v (by first | exact r_move (v := .nilIface) rfl | exact r_move (v := .iface _ _) rfl | exact r_move rfl) rfl rfl rfl ?_
    -- R9.1 50 := frame.go:217 binOp
    refine WL.v (by first | exact r_nil_neq ty_ifc47 rfl | exact r_some_neq ty_ifc47 rfl) rfl rfl rfl ?_
    refine WL.fin hK828 (fun _ _ h => h) ?_
    refine WC.condF rfl rfl ?_
    refine WC.skipF hK813 (fun _ _ h => h) ?_
    refine WC.seq fun K829 hK829 => ?_
    refine WC.seq fun K830 hK830 => ?_
    -- region 12
    refine WC.region ?_
    -- R12.0 57 := frame.go:221 move
    refine WL.v (by first | exact r_move (v := .pointer _) rfl | exact r_move rfl) rfl rfl rfl ?_
    -- R12.1 58 := frame.go:221 nilCheck
    refine WL.v (by exact r_nilCheck rfl) rfl rfl rfl ?_
    -- R12.2 59 := frame.go:221 fieldAddr
    refine WL.v (by exact r_field ty_fld43_0 rfl) rfl rfl rfl ?_
    -- R12.3 60 := frame.go:221 load
    refine WL.v (by exact r_load1 ty_one27 rfl (by first | assumption | exact st.c0 (by first | decide | omega) | exact st.c1 (by first | decide | omega) | exact st.c2 (by first | decide | omega) | exact st.c3 (by first | decide | omega) | exact st.c4 (by first | decide | omega) | exact st.c5 (by first | decide | omega) | exact st.c6 (by first | decide | omega) | exact st.c7 (by first | decide | omega) | exact st.c8 (by first | decide | omega))) rfl rfl rfl ?_
    refine WL.fin hK830 (fun _ _ h => h) ?_
    refine WC.block ?_
    refine WC.seq fun K831 hK831 => ?_
    -- region 13
    refine WC.region ?_
    -- R13.0 62 := frame.go:222 binOp
    refine WL.v (by first | exact r_eql rfl rfl (decide_eq_true (by omega)) | exact r_eql rfl rfl (decide_eq_false (by omega)) | exact r_eql rfl rfl rfl) rfl rfl rfl ?_
    -- R13.1 61 := frame.go:222 assign
    refine WL.v (by first | exact r_assign (v := .bool _) rfl | exact r_assign rfl) rfl rfl rfl ?_
    refine WL.fin hK831 (fun _ _ h => h) ?_
    refine WC.condF rfl rfl ?_
    refine WC.seq fun K832 hK832 => ?_
    -- region 15
    refine WC.region ?_
    -- R15.0 86 := frame.go:224 binOp
    refine WL.v (by first | exact r_eql rfl rfl (decide_eq_true (by omega)) | exact r_eql rfl rfl (decide_eq_false (by omega)) | exact r_eql rfl rfl rfl) rfl rfl rfl ?_
    -- R15.1 85 := frame.go:224 assign
    refine WL.v (by first | exact r_assign (v := .bool _) rfl | exact r_assign rfl) rfl rfl rfl ?_
    refine WL.fin hK832 (fun _ _ h => h) ?_
    refine WC.condF rfl rfl ?_
    refine WC.skipF hK829 (fun _ _ h => h) ?_
    refine WC.seq fun K833 hK833 => ?_
    -- region 17
    have st := st_nrm (L' := f1.cs) rfl st
    refine WC.region ?_
    -- R17.0 99 := frame.go:227 move
    refine WL.v (by first | exact r_move (v := .pointer _) rfl | exact r_move rfl) rfl rfl rfl ?_
    -- R17.1 100 := frame.go:227 move
    refine WL.v (by first | exact r_move (v := .pointer _) rfl | exact r_move rfl) rfl rfl rfl ?_
    -- R17.2 101 := frame.go:227 nilCheck
    refine WL.v (by exact r_nilCheck rfl) rfl rfl rfl ?_
    -- R17.3 102 := frame.go:227 fieldAddr
    refine WL.v (by exact r_field ty_fld43_2 rfl) rfl rfl rfl ?_
    -- R17.4 103 := frame.go:227 call
    refine WL.call (r_call ty_call69 rfl) rfl rfl rfl (ipCk_ok fb (0 + 14) f1.x f1.s1 hok1.xr hok1.o1 hip (fun its w' q => (frAt_row (g := f1) hl1 hrd its w' q).ip) (fun its w' q => (frAt_row (g := f1) hl1 hrd its w' q).rd.d1) st) ?_
    rintro _ w ⟨rfl, st⟩
    -- R17.5 104 := frame.go:227 nilCheck
    refine WL.v (by exact r_nilCheck rfl) rfl rfl rfl ?_
    -- R17.6 105 := frame.go:227 fieldAddr
    refine WL.v (by exact r_field ty_fld43_2 rfl) rfl rfl rfl ?_
    -- R17.7 106 := frame.go:227 fieldAddr
    refine WL.v (by exact r_field ty_fld36_7 rfl) rfl rfl rfl ?_
    -- R17.8 None := frame.go:227 store
    first | refine WL.store (v := .int _ _) st ty_one30 rfl rfl rfl (by first | decide | omega) rfl rfl ?_ | refine WL.store (v := _) st ty_one30 rfl rfl rfl (by first | decide | omega) rfl rfl ?_ | refine WL.store (v := .int _ _) st.front1 ty_one30 rfl rfl rfl (by first | decide | omega) rfl rfl ?_ | refine WL.store (v := _) st.front1 ty_one30 rfl rfl rfl (by first | decide | omega) rfl rfl ?_ | refine WL.store (v := .int _ _) st.front2 ty_one30 rfl rfl rfl (by first | decide | omega) rfl rfl ?_ | refine WL.store (v := _) st.front2 ty_one30 rfl rfl rfl (by first | decide | omega) rfl rfl ?_ | refine WL.store (v := .int _ _) st.front3 ty_one30 rfl rfl rfl (by first | decide | omega) rfl rfl ?_ | refine WL.store (v := _) st.front3 ty_one30 rfl rfl rfl (by first | decide | omega) rfl rfl ?_ | refine WL.store (v := .int _ _) st.front4 ty_one30 rfl rfl rfl (by first | decide | omega) rfl rfl ?_ | refine WL.store (v := _) st.front4 ty_one30 rfl rfl rfl (by first | decide | omega) rfl rfl ?_ | refine WL.store (v := .int _ _) st.front5 ty_one30 rfl rfl rfl (by first | decide | omega) rfl rfl ?_ | refine WL.store (v := _) st.front5 ty_one30 rfl rfl rfl (by first | decide | omega) rfl rfl ?_ | refine WL.store (v := .int _ _) st.front6 ty_one30 rfl rfl rfl (by first | decide | omega) rfl rfl ?_ | refine WL.store (v := _) st.front6 ty_one30 rfl rfl rfl (by first | decide | omega) rfl rfl ?_ | refine WL.store (v := .int _ _) st.front7 ty_one30 rfl rfl rfl (by first | decide | omega) rfl rfl ?_ | refine WL.store (v := _) st.front7 ty_one30 rfl rfl rfl (by first | decide | omega) rfl rfl ?_ | refine WL.store (v := .int _ _) st.front8 ty_one30 rfl rfl rfl (by first | decide | omega) rfl rfl ?_ | refine WL.store (v := _) st.front8 ty_one30 rfl rfl rfl (by first | decide | omega) rfl rfl ?_
    intro w st
    refine WL.fin hK833 (fun _ _ h => h) ?_
    refine WC.seq fun K834 hK834 => ?_
    -- region 18
    refine WC.region ?_
    -- R18.0 2 := frame.go:228 assign
    refine WL.v (by first | exact r_assign (v := .nilIface) rfl | exact r_assign (v := .iface _ _) rfl | exact r_assign rfl) rfl rfl rfl ?_
    refine WL.fin hK834 (fun _ _ h => h) ?_
    refine WC.ret1 Tryd.results46 (fun _ _ h => h) rfl ?_
    have hrg : 0 ≤ 65535 - ipSumV f1.x f1.s1.bs ∧ 65535 - ipSumV f1.x f1.s1.bs < 65536 := by have : 0 ≤ ipSumV f1.x f1.s1.bs ∧ ipSumV f1.x f1.s1.bs < 65536 := foldV_rng _; omega
    exact ⟨_, rfl, (f1).setX (setI f1.x 7 (65535 - ipSumV f1.x f1.s1.bs)), FD.setX_ok hok1 (hok1.xr.set7 hrg), hl1, .inl rfl, st_nrm rfl st⟩
  · skip
    refine WC.seq fun K835 hK835 => ?_
    -- region 9
    refine WC.region ?_
    -- R9.0 49 := frame.go:217 move
    refine WL.v (by first | exact r_move (v := .nilIface) rfl | exact r_move (v := .iface _ _) rfl | exact r_move rfl) rfl rfl rfl ?_
    -- R9.1 50 := frame.go:217 binOp
    refine WL.v (by first | exact r_nil_neq ty_ifc47 rfl | exact r_some_neq ty_ifc47 rfl) rfl rfl rfl ?_
    refine WL.fin hK835 (fun _ _ h => h) ?_
    refine WC.condT rfl rfl ?_
    refine WC.seq fun K836 hK836 => ?_
    -- region 10
    refine WC.region ?_
    -- R10.0 51 := frame.go:218 move
    refine WL.v (by first | exact r_move (v := .pointer _) rfl | exact r_move rfl) rfl rfl rfl ?_
    -- R10.1 52 := frame.go:218 move
    refine WL.v (by first | exact r_move (v := .int _ _) rfl | exact r_move rfl) rfl rfl rfl ?_
    -- R10.2 53 := frame.go:218 nilCheck
    refine WL.v (by exact r_nilCheck rfl) rfl rfl rfl ?_
    -- R10.3 54 := frame.go:218 fieldAddr
    refine WL.v (by exact r_field ty_fld43_2 rfl) rfl rfl rfl ?_
    -- R10.4 55 := frame.go:218 fieldAddr
    refine WL.v (by exact r_field ty_fld36_1 rfl) rfl rfl rfl ?_
    -- R10.5 None := frame.go:218 store
    first | refine WL.store (v := .int _ _) st ty_one30 rfl rfl rfl (by first | decide | omega) rfl rfl ?_ | refine WL.store (v := _) st ty_one30 rfl rfl rfl (by first | decide | omega) rfl rfl ?_ | refine WL.store (v := .int _ _) st.front1 ty_one30 rfl rfl rfl (by first | decide | omega) rfl rfl ?_ | refine WL.store (v := _) st.front1 ty_one30 rfl rfl rfl (by first | decide | omega) rfl rfl ?_ | refine WL.store (v := .int _ _) st.front2 ty_one30 rfl rfl rfl (by first | decide | omega) rfl rfl ?_ | refine WL.store (v := _) st.front2 ty_one30 rfl rfl rfl (by first | decide | omega) rfl rfl ?_ | refine WL.store (v := .int _ _) st.front3 ty_one30 rfl rfl rfl (by first | decide | omega) rfl rfl ?_ | refine WL.store (v := _) st.front3 ty_one30 rfl rfl rfl (by first | decide | omega) rfl rfl ?_ | refine WL.store (v := .int _ _) st.front4 ty_one30 rfl rfl rfl (by first | decide | omega) rfl rfl ?_ | refine WL.store (v := _) st.front4 ty_one30 rfl rfl rfl (by first | decide | omega) rfl rfl ?_ | refine WL.store (v := .int _ _) st.front5 ty_one30 rfl rfl rfl (by first | decide | omega) rfl rfl ?_ | refine WL.store (v := _) st.front5 ty_one30 rfl rfl rfl (by first | decide | omega) rfl rfl ?_ | refine WL.store (v := .int _ _) st.front6 ty_one30 rfl rfl rfl (by first | decide | omega) rfl rfl ?_ | refine WL.store (v := _) st.front6 ty_one30 rfl rfl rfl (by first | decide | omega) rfl rfl ?_ | refine WL.store (v := .int _ _) st.front7 ty_one30 rfl rfl rfl (by first | decide | omega) rfl rfl ?_ | refine WL.store (v := _) st.front7 ty_one30 rfl rfl rfl (by first | decide | omega) rfl rfl ?_ | refine WL.store (v := .int _ _) st.front8 ty_one30 rfl rfl rfl (by first | decide | omega) rfl rfl ?_ | refine WL.store (v := _) st.front8 ty_one30 rfl rfl rfl (by first | decide | omega) rfl rfl ?_
    intro w st
    refine WL.fin hK836 (fun _ _ h => h) ?_
    refine WC.seq fun K837 hK837 => ?_
    -- region 11
    refine WC.region ?_
    -- R11.0 56 := frame.go:219 move
    refine WL.v (by first | exact r_move (v := .nilIface) rfl | exact r_move (v := .iface _ _) rfl | exact r_move rfl) rfl rfl rfl ?_
    -- R11.1 2 := frame.go:219 assign
    refine WL.v (by first | exact r_assign (v := .nilIface) rfl | exact r_assign (v := .iface _ _) rfl | exact r_assign rfl) rfl rfl rfl ?_
    refine WL.fin hK837 (fun _ _ h => h) ?_
    refine WC.ret1 Tryd.results46 (fun _ _ h => h) rfl ?_
    rw [hf1] at st
    exact ⟨_, rfl, f, hf, hlf, .inr ⟨T, u, rfl⟩, st_nrm rfl st⟩
end Go.Proofs.Qxb6500841aDoor

