import Derived.Test.Qxb6500837aDoorD5
import Derived.Test.Qxb6500837aDoorAs
import Derived.Test.Qxb6500837aDoorE23
set_option linter.unusedVariables false
set_option linter.unusedSimpArgs false
set_option maxRecDepth 20000
namespace Go.Proofs.Qxb6500837aDoor
open Go.RowKit Go.E1 Go.Disk
variable {w0 : World} {L l : List HI} {w : World} {D : DK} {m : Int}

abbrev EI (be : Nat) (c : Int) (c2 c3 : Value) : HI := (be, Row 105 3 (nth [.int .i64 c, c2, c3]))
/-- An error's value, and what of memory is its own. -/
def EV (c : Int) (v : Value) (l1 : List HI) : Prop := (c = 0 ∧ v = .nilIface ∧ l1 = []) ∨ c ≠ 0 ∧ ∃ (be : Nat) (c2 c3 : Value), v = .iface 101 (.pointer (some ⟨be, 0, none⟩)) ∧ l1 = [EI be c c2 c3]

theorem refuse_ok (c : Int) (nm : ByteArray) (s : Int) (st : S0 w0 l w) :
    Calls Tryd.prog 50 #[.int .i64 c, .string nm, .int .i64 s] w (Ret fun v w' => ∃ be, v = .iface 101 (.pointer (some ⟨be, 0, none⟩)) ∧ S0 w0 (EI be c (.string nm) (.int .i64 s) :: l) w') := by
  refine enter [.int .i64 c, .string nm, .int .i64 s] Tryd.func50 rfl Tryd.ntmps50 rfl ?_
  show WC _ _ _ 13 [] [(0, .int .i64 c), (1, .string nm), (2, .int .i64 s)] _
  refine WC.seq fun K72 hK72 => ?_
  -- region 0
  refine WC.region ?_
  -- R0.0 6 := errors.go:52 assign
  refine WL.v (by first | exact r_assign (v := .nilIface) rfl | exact r_assign (v := .iface _ _) rfl | exact r_assign rfl) rfl rfl rfl ?_
  refine WL.fin hK72 (fun _ _ h => h) ?_
  refine WC.seq fun K73 hK73 => ?_
  -- region 1
  refine WC.region ?_
  -- R1.0 7 := errors.go:53 move
  refine WL.v (by first | exact r_move (v := .int _ _) rfl | exact r_move rfl) rfl rfl rfl ?_
  -- R1.1 8 := errors.go:53 move
  refine WL.v (by first | exact r_move (v := .string _) rfl | exact r_move rfl) rfl rfl rfl ?_
  -- R1.2 9 := errors.go:53 move
  refine WL.v (by first | exact r_move (v := .int _ _) rfl | exact r_move rfl) rfl rfl rfl ?_
  -- R1.3 10 := errors.go:53 build
  refine WL.v (by exact r_build (ps := [(0, .int _ _), (1, .string _), (2, .int _ _)]) (vs := [_, _, _]) ty_pl105 ty_zero105 rfl (fill_step (pv := [_]) (cs' := [_, _, _]) rfl rfl rfl rfl (fill_step (pv := [_]) (cs' := [_, _, _]) rfl rfl rfl rfl (fill_step (pv := [_]) (cs' := [_, _, _]) rfl rfl rfl rfl (fill_nil))))) rfl rfl rfl ?_
  -- R1.4 11 := errors.go:53 box
  first | refine WL.box (m := 3) (vs := [.int _ _, .string _, .int _ _]) st rfl rfl rfl rfl rfl rfl ?_ | refine WL.box (m := 3) (vs := [_, _, _]) st rfl rfl rfl rfl rfl rfl ?_ | refine WL.box st rfl rfl rfl rfl rfl rfl ?_
  intro b11 w st
  -- R1.5 12 := errors.go:53 makeInterface
  refine WL.v (by exact r_iface ty_conc101 rfl) rfl rfl rfl ?_
  -- R1.6 6 := errors.go:53 assign
  refine WL.v (by first | exact r_assign (v := .nilIface) rfl | exact r_assign (v := .iface _ _) rfl | exact r_assign rfl) rfl rfl rfl ?_
  refine WL.fin hK73 (fun _ _ h => h) ?_
  refine WC.ret1 Tryd.results50 (fun _ _ h => h) rfl ?_
  exact ⟨_, rfl, _, rfl, st⟩

theorem as_st {be bt : Nat} {f : Nat → Value} (hg : w0.cell? ⟨0, 0, none⟩ = some (.iface 141 (.agg #[.pointer (some ⟨1, 70, none⟩)]))) (st : S0 w0 ((bt, Row 101 1 f) :: l) w) :
    Calls Tryd.prog 53 #[.iface 101 (.pointer (some ⟨be, 0, none⟩)), .iface 103 (.pointer (some ⟨bt, 0, none⟩))] w (Ret fun v w' => v = .bool true ∧ S0 w0 ((bt, Row 101 1 (upd f 0 (.pointer (some ⟨be, 0, none⟩)))) :: l) w') := by
  obtain ⟨_, c1, z1⟩ := st.setCell (off := 0) (by decide) (.pointer (some ⟨be, 0, none⟩))
  refine (as_hit ⟨be, 0, none⟩ ⟨bt, 0, none⟩ _ w (st.old (fun h => h) hg) c1 z1).mono ?_
  rintro ev w' ⟨rfl, rfl⟩
  refine ⟨_, rfl, rfl, ?_⟩
  have s1 := st.alloc (.cells #[.pointer (some ⟨bt, 0, none⟩)] 103) (p := fun _ => True) trivial
  have s2 := s1.alloc (.cells #[.pointer (some ⟨1, 103, none⟩), .pointer (some ⟨w.heap.size, 0, none⟩), .int .u64 150] 118) (p := fun _ => True) trivial
  have s3 := s2.alloc (.cells #[.pointer (some ⟨1, 103, none⟩), .pointer (some ⟨w.heap.size, 0, none⟩), .int .u64 150] 118) (p := fun _ => True) trivial
  have s4 := s3.alloc (.cells #[.pointer (some ⟨be, 0, none⟩)] 101) (p := fun _ => True) trivial
  obtain ⟨s5, _, _⟩ := s4.front4.setCell (off := 0) (by decide) (.pointer (some ⟨be, 0, none⟩))
  exact s5.drop1.drop1.drop1.drop1

theorem codeOf_ok {c : Int} {v : Value} {l1 : List HI} (hg : w0.cell? ⟨0, 0, none⟩ = some (.iface 141 (.agg #[.pointer (some ⟨1, 70, none⟩)]))) (he : EV c v l1) (st : S0 w0 (l1 ++ l) w) :
    Calls Tryd.prog 34 #[v] w (Ret fun v' w' => v' = .int .i64 c ∧ S0 w0 l w') := by
  rcases he with ⟨rfl, rfl, rfl⟩ | ⟨_, be, c2, c3, rfl, rfl⟩
  · skip
    refine enter [.nilIface] Tryd.func34 rfl Tryd.ntmps34 rfl ?_
    show WC _ _ _ 13 [] [(0, .nilIface)] _
    refine WC.seq fun K74 hK74 => ?_
    -- region 0
    refine WC.region ?_
    -- R0.0 2 := errors.go:41 assign
    refine WL.v (by first | exact r_assign (v := .int _ _) rfl | exact r_assign rfl) rfl rfl rfl ?_
    refine WL.fin hK74 (fun _ _ h => h) ?_
    refine WC.seq fun K75 hK75 => ?_
    refine WC.seq fun K76 hK76 => ?_
    -- region 1
    refine WC.region ?_
    -- R1.0 4 := errors.go:42 move
    refine WL.v (by first | exact r_move (v := .nilIface) rfl | exact r_move (v := .iface _ _) rfl | exact r_move rfl) rfl rfl rfl ?_
    -- R1.1 5 := errors.go:42 binOp
    refine WL.v (by first | exact r_nil_eql ty_ifc70 rfl | exact r_some_eql ty_ifc70 rfl) rfl rfl rfl ?_
    refine WL.fin hK76 (fun _ _ h => h) ?_
    refine WC.condT rfl rfl ?_
    refine WC.seq fun K77 hK77 => ?_
    -- region 2
    refine WC.region ?_
    -- R2.0 2 := errors.go:43 assign
    refine WL.v (by first | exact r_assign (v := .int _ _) rfl | exact r_assign rfl) rfl rfl rfl ?_
    refine WL.fin hK77 (fun _ _ h => h) ?_
    refine WC.ret1 Tryd.results34 (fun _ _ h => h) rfl ?_
    exact ⟨_, rfl, rfl, st⟩
  · have st : S0 w0 (EI be c c2 c3 :: l) w := st
    refine enter [.iface 101 (.pointer (some ⟨be, 0, none⟩))] Tryd.func34 rfl Tryd.ntmps34 rfl ?_
    show WC _ _ _ 13 [] [(0, .iface 101 (.pointer (some ⟨be, 0, none⟩)))] _
    refine WC.seq fun K78 hK78 => ?_
    -- region 0
    refine WC.region ?_
    -- R0.0 2 := errors.go:41 assign
    refine WL.v (by first | exact r_assign (v := .int _ _) rfl | exact r_assign rfl) rfl rfl rfl ?_
    refine WL.fin hK78 (fun _ _ h => h) ?_
    refine WC.seq fun K79 hK79 => ?_
    refine WC.seq fun K80 hK80 => ?_
    -- region 1
    refine WC.region ?_
    -- R1.0 4 := errors.go:42 move
    refine WL.v (by first | exact r_move (v := .nilIface) rfl | exact r_move (v := .iface _ _) rfl | exact r_move rfl) rfl rfl rfl ?_
    -- R1.1 5 := errors.go:42 binOp
    refine WL.v (by first | exact r_nil_eql ty_ifc70 rfl | exact r_some_eql ty_ifc70 rfl) rfl rfl rfl ?_
    refine WL.fin hK80 (fun _ _ h => h) ?_
    refine WC.condF rfl rfl ?_
    refine WC.skipF hK79 (fun _ _ h => h) ?_
    refine WC.seq fun K81 hK81 => ?_
    -- region 3
    refine WC.region ?_
    -- R3.0 3 := errors.go:45 alloc
    refine WL.alloc (m := 1) st ty_zero101 rfl rfl rfl ?_
    intro b3 w st
    refine WL.fin hK81 (fun _ _ h => h) ?_
    refine WC.seq fun K82 hK82 => ?_
    refine WC.seq fun K83 hK83 => ?_
    -- region 4
    refine WC.region ?_
    -- R4.0 6 := errors.go:46 move
    refine WL.v (by first | exact r_move (v := .nilIface) rfl | exact r_move (v := .iface _ _) rfl | exact r_move rfl) rfl rfl rfl ?_
    -- R4.1 7 := errors.go:46 makeInterface
    refine WL.v (by exact r_iface ty_conc103 rfl) rfl rfl rfl ?_
    -- R4.2 8 := errors.go:46 call
    refine WL.call (r_call ty_call53 rfl) rfl rfl rfl (as_st hg st) ?_
    rintro _ w ⟨rfl, st⟩
    refine WL.fin hK83 (fun _ _ h => h) ?_
    refine WC.condT rfl rfl ?_
    refine WC.seq fun K84 hK84 => ?_
    -- region 5
    refine WC.region ?_
    -- R5.0 9 := errors.go:47 load
    refine WL.v (by exact r_load1 ty_one101 rfl (by first | assumption | exact st.c0 (by first | decide | omega) | exact st.c1 (by first | decide | omega) | exact st.c2 (by first | decide | omega) | exact st.c3 (by first | decide | omega) | exact st.c4 (by first | decide | omega) | exact st.c5 (by first | decide | omega) | exact st.c6 (by first | decide | omega) | exact st.c7 (by first | decide | omega) | exact st.c8 (by first | decide | omega))) rfl rfl rfl ?_
    -- R5.1 10 := errors.go:47 nilCheck
    refine WL.v (by exact r_nilCheck rfl) rfl rfl rfl ?_
    -- R5.2 11 := errors.go:47 fieldAddr
    refine WL.v (by exact r_field ty_fld105_0 rfl) rfl rfl rfl ?_
    -- R5.3 12 := errors.go:47 load
    refine WL.v (by exact r_load1 ty_one35 rfl (by first | assumption | exact st.c0 (by first | decide | omega) | exact st.c1 (by first | decide | omega) | exact st.c2 (by first | decide | omega) | exact st.c3 (by first | decide | omega) | exact st.c4 (by first | decide | omega) | exact st.c5 (by first | decide | omega) | exact st.c6 (by first | decide | omega) | exact st.c7 (by first | decide | omega) | exact st.c8 (by first | decide | omega))) rfl rfl rfl ?_
    -- R5.4 2 := errors.go:47 assign
    refine WL.v (by first | exact r_assign (v := .int _ _) rfl | exact r_assign rfl) rfl rfl rfl ?_
    refine WL.fin hK84 (fun _ _ h => h) ?_
    refine WC.ret1 Tryd.results34 (fun _ _ h => h) rfl ?_
    exact ⟨_, rfl, rfl, st.drop.drop⟩

def spanC (sec : Nat) (s : Int) (n : Nat) : Int := if n = 0 ∨ n % 512 ≠ 0 then 1 else if s < 0 ∨ sec < n / 512 ∨ (sec : Int) - (n / 512 : Nat) < s then 2 else 0

set_option maxHeartbeats 2000000 in
theorem span_ok (s : Int) (n : Nat) (nm : ByteArray) (hs : -9223372036854775808 ≤ s ∧ s ≤ 9223372036854775807) (hsec : D.sectors ≤ 65536) (hn : n ≤ 1000000000000) (st : S0 w0 (DI D m L) w) :
    Calls Tryd.prog 54 #[.pointer (some ⟨D.bD, 0, none⟩), .string nm, .int .i64 s, .int .i64 (n : Nat)] w (Ret fun v w' => (spanC D.sectors s n = 0 ∧ v = .tuple #[.int .i64 ((n / 512 : Nat) : Int), .nilIface] ∧ S0 w0 (DI D m L) w') ∨ (spanC D.sectors s n ≠ 0 ∧ ∃ be c2 c3, v = .tuple #[.int .i64 0, .iface 101 (.pointer (some ⟨be, 0, none⟩))] ∧ S0 w0 (EI be (spanC D.sectors s n) c2 c3 :: DI D m L) w')) := by
  by_cases h0 : n = 0
  · skip
    refine enter [.pointer (some ⟨D.bD, 0, none⟩), .string nm, .int .i64 s, .int .i64 (n : Nat)] Tryd.func54 rfl Tryd.ntmps54 rfl ?_
    show WC _ _ _ 49 [] [(0, .pointer (some ⟨D.bD, 0, none⟩)), (1, .string nm), (2, .int .i64 s), (3, .int .i64 (n : Nat))] _
    refine WC.seq fun K85 hK85 => ?_
    -- region 0
    refine WC.region ?_
    -- R0.0 8 := disk.go:68 assign
    refine WL.v (by first | exact r_assign (v := .int _ _) rfl | exact r_assign rfl) rfl rfl rfl ?_
    -- R0.1 9 := disk.go:68 assign
    refine WL.v (by first | exact r_assign (v := .nilIface) rfl | exact r_assign (v := .iface _ _) rfl | exact r_assign rfl) rfl rfl rfl ?_
    refine WL.fin hK85 (fun _ _ h => h) ?_
    refine WC.seq fun K86 hK86 => ?_
    refine WC.seq fun K87 hK87 => ?_
    -- region 1
    refine WC.region ?_
    -- R1.0 11 := disk.go:69 move
    refine WL.v (by first | exact r_move (v := .int _ _) rfl | exact r_move rfl) rfl rfl rfl ?_
    -- R1.1 12 := disk.go:69 binOp
    refine WL.v (by first | exact r_eql rfl rfl (decide_eq_true (by omega)) | exact r_eql rfl rfl (decide_eq_false (by omega)) | exact r_eql rfl rfl rfl) rfl rfl rfl ?_
    -- R1.2 13 := disk.go:69 move
    refine WL.v (by first | exact r_move (v := .bool _) rfl | exact r_move rfl) rfl rfl rfl ?_
    -- R1.3 14 := disk.go:69 move
    refine WL.no rfl rfl ?_
    -- R1.4 15 := disk.go:69 binOp
    refine WL.no rfl rfl ?_
    -- R1.5 16 := disk.go:69 binOp
    refine WL.no rfl rfl ?_
    -- R1.6 17 := disk.go:69 pick
    refine WL.v (by first | exact r_pickT (v := .bool _) rfl rfl | exact r_pickF (v := .bool _) rfl rfl) rfl rfl rfl ?_
    refine WL.fin hK87 (fun _ _ h => h) ?_
    refine WC.condT rfl rfl ?_
    refine WC.seq fun K88 hK88 => ?_
    -- region 2
    refine WC.region ?_
    -- R2.0 18 := disk.go:70 move
    refine WL.v (by first | exact r_move (v := .string _) rfl | exact r_move rfl) rfl rfl rfl ?_
    -- R2.1 19 := disk.go:70 move
    refine WL.v (by first | exact r_move (v := .int _ _) rfl | exact r_move rfl) rfl rfl rfl ?_
    -- R2.2 20 := disk.go:70 call
    refine WL.call (r_call ty_call50 rfl) rfl rfl rfl (refuse_ok _ _ _ st) ?_
    rintro _ w ⟨be, rfl, st⟩
    -- R2.3 8 := disk.go:70 assign
    refine WL.v (by first | exact r_assign (v := .int _ _) rfl | exact r_assign rfl) rfl rfl rfl ?_
    -- R2.4 9 := disk.go:70 assign
    refine WL.v (by first | exact r_assign (v := .nilIface) rfl | exact r_assign (v := .iface _ _) rfl | exact r_assign rfl) rfl rfl rfl ?_
    refine WL.fin hK88 (fun _ _ h => h) ?_
    refine WC.ret2 Tryd.results54 (fun _ _ h => h) rfl ?_
    have e : spanC D.sectors s n = 1 := by unfold spanC; rw [if_pos (.inl h0)]
    exact ⟨_, rfl, .inr ⟨by rw [e]; decide, be, _, _, rfl, by rw [e]; exact st⟩⟩
  by_cases h1 : n % 512 = 0
  · have e1 : ¬ (n = 0 ∨ n % 512 ≠ 0) := by omega
    by_cases h2 : s < 0
    · skip
      refine enter [.pointer (some ⟨D.bD, 0, none⟩), .string nm, .int .i64 s, .int .i64 (n : Nat)] Tryd.func54 rfl Tryd.ntmps54 rfl ?_
      show WC _ _ _ 49 [] [(0, .pointer (some ⟨D.bD, 0, none⟩)), (1, .string nm), (2, .int .i64 s), (3, .int .i64 (n : Nat))] _
      refine WC.seq fun K89 hK89 => ?_
      -- region 0
      refine WC.region ?_
      -- R0.0 8 := disk.go:68 assign
      refine WL.v (by first | exact r_assign (v := .int _ _) rfl | exact r_assign rfl) rfl rfl rfl ?_
      -- R0.1 9 := disk.go:68 assign
      refine WL.v (by first | exact r_assign (v := .nilIface) rfl | exact r_assign (v := .iface _ _) rfl | exact r_assign rfl) rfl rfl rfl ?_
      refine WL.fin hK89 (fun _ _ h => h) ?_
      refine WC.seq fun K90 hK90 => ?_
      refine WC.seq fun K91 hK91 => ?_
      -- region 1
      refine WC.region ?_
      -- R1.0 11 := disk.go:69 move
      refine WL.v (by first | exact r_move (v := .int _ _) rfl | exact r_move rfl) rfl rfl rfl ?_
      -- R1.1 12 := disk.go:69 binOp
      refine WL.v (by first | exact r_eql rfl rfl (decide_eq_true (by omega)) | exact r_eql rfl rfl (decide_eq_false (by omega)) | exact r_eql rfl rfl rfl) rfl rfl rfl ?_
      -- R1.2 13 := disk.go:69 move
      refine WL.v (by first | exact r_move (v := .bool _) rfl | exact r_move rfl) rfl rfl rfl ?_
      -- R1.3 14 := disk.go:69 move
      refine WL.v (by first | exact r_move (v := .int _ _) rfl | exact r_move rfl) rfl rfl rfl ?_
      -- R1.4 15 := disk.go:69 binOp
      refine WL.v (by exact r_rem (r := ((n % 512 : Nat) : Int)) rfl rfl (by omega) rfl) rfl rfl rfl ?_
      -- R1.5 16 := disk.go:69 binOp
      refine WL.v (by first | exact r_neq rfl rfl (decide_eq_true (by omega)) | exact r_neq rfl rfl (decide_eq_false (by omega)) | exact r_neq rfl rfl rfl) rfl rfl rfl ?_
      -- R1.6 17 := disk.go:69 pick
      refine WL.v (by first | exact r_pickT (v := .bool _) rfl rfl | exact r_pickF (v := .bool _) rfl rfl) rfl rfl rfl ?_
      refine WL.fin hK91 (fun _ _ h => h) ?_
      refine WC.condF rfl rfl ?_
      refine WC.skipF hK90 (fun _ _ h => h) ?_
      refine WC.seq fun K92 hK92 => ?_
      -- region 3
      refine WC.region ?_
      -- R3.0 21 := disk.go:72 move
      refine WL.v (by first | exact r_move (v := .int _ _) rfl | exact r_move rfl) rfl rfl rfl ?_
      -- R3.1 22 := disk.go:72 binOp
      refine WL.v (by exact r_quo (r := ((n / 512 : Nat) : Int)) rfl rfl (by omega) (by rw [show ((n : Nat) : Int).tdiv 512 = ((n / 512 : Nat) : Int) from rfl]; exact wi64 (by omega) (by omega))) rfl rfl rfl ?_
      -- R3.2 10 := disk.go:72 assign
      refine WL.v (by first | exact r_assign (v := .int _ _) rfl | exact r_assign rfl) rfl rfl rfl ?_
      refine WL.fin hK92 (fun _ _ h => h) ?_
      refine WC.seq fun K93 hK93 => ?_
      refine WC.seq fun K94 hK94 => ?_
      -- region 4
      refine WC.region ?_
      -- R4.0 23 := disk.go:73 move
      refine WL.v (by first | exact r_move (v := .int _ _) rfl | exact r_move rfl) rfl rfl rfl ?_
      -- R4.1 24 := disk.go:73 binOp
      refine WL.v (by first | exact r_lss rfl rfl (decide_eq_true (by omega)) | exact r_lss rfl rfl (decide_eq_false (by omega)) | exact r_lss rfl rfl rfl) rfl rfl rfl ?_
      -- R4.2 25 := disk.go:73 move
      refine WL.v (by first | exact r_move (v := .bool _) rfl | exact r_move rfl) rfl rfl rfl ?_
      -- R4.3 26 := disk.go:73 move
      refine WL.no rfl rfl ?_
      -- R4.4 27 := disk.go:73 move
      refine WL.no rfl rfl ?_
      -- R4.5 28 := disk.go:73 nilCheck
      refine WL.no rfl rfl ?_
      -- R4.6 29 := disk.go:73 fieldAddr
      refine WL.no rfl rfl ?_
      -- R4.7 30 := disk.go:73 fieldAddr
      refine WL.no rfl rfl ?_
      -- R4.8 31 := disk.go:73 load
      refine WL.no rfl rfl ?_
      -- R4.9 32 := disk.go:73 binOp
      refine WL.no rfl rfl ?_
      -- R4.10 33 := disk.go:73 pick
      refine WL.v (by first | exact r_pickT (v := .bool _) rfl rfl | exact r_pickF (v := .bool _) rfl rfl) rfl rfl rfl ?_
      -- R4.11 34 := disk.go:73 move
      refine WL.v (by first | exact r_move (v := .bool _) rfl | exact r_move rfl) rfl rfl rfl ?_
      -- R4.12 35 := disk.go:73 move
      refine WL.no rfl rfl ?_
      -- R4.13 36 := disk.go:73 move
      refine WL.no rfl rfl ?_
      -- R4.14 37 := disk.go:73 nilCheck
      refine WL.no rfl rfl ?_
      -- R4.15 38 := disk.go:73 fieldAddr
      refine WL.no rfl rfl ?_
      -- R4.16 39 := disk.go:73 fieldAddr
      refine WL.no rfl rfl ?_
      -- R4.17 40 := disk.go:73 load
      refine WL.no rfl rfl ?_
      -- R4.18 41 := disk.go:73 move
      refine WL.no rfl rfl ?_
      -- R4.19 42 := disk.go:73 binOp
      refine WL.no rfl rfl ?_
      -- R4.20 43 := disk.go:73 binOp
      refine WL.no rfl rfl ?_
      -- R4.21 44 := disk.go:73 pick
      refine WL.v (by first | exact r_pickT (v := .bool _) rfl rfl | exact r_pickF (v := .bool _) rfl rfl) rfl rfl rfl ?_
      refine WL.fin hK94 (fun _ _ h => h) ?_
      refine WC.condT rfl rfl ?_
      refine WC.seq fun K95 hK95 => ?_
      -- region 5
      refine WC.region ?_
      -- R5.0 45 := disk.go:74 move
      refine WL.v (by first | exact r_move (v := .string _) rfl | exact r_move rfl) rfl rfl rfl ?_
      -- R5.1 46 := disk.go:74 move
      refine WL.v (by first | exact r_move (v := .int _ _) rfl | exact r_move rfl) rfl rfl rfl ?_
      -- R5.2 47 := disk.go:74 call
      refine WL.call (r_call ty_call50 rfl) rfl rfl rfl (refuse_ok _ _ _ st) ?_
      rintro _ w ⟨be, rfl, st⟩
      -- R5.3 8 := disk.go:74 assign
      refine WL.v (by first | exact r_assign (v := .int _ _) rfl | exact r_assign rfl) rfl rfl rfl ?_
      -- R5.4 9 := disk.go:74 assign
      refine WL.v (by first | exact r_assign (v := .nilIface) rfl | exact r_assign (v := .iface _ _) rfl | exact r_assign rfl) rfl rfl rfl ?_
      refine WL.fin hK95 (fun _ _ h => h) ?_
      refine WC.ret2 Tryd.results54 (fun _ _ h => h) rfl ?_
      have e : spanC D.sectors s n = 2 := by unfold spanC; rw [if_neg e1, if_pos (.inl h2)]
      exact ⟨_, rfl, .inr ⟨by rw [e]; decide, be, _, _, rfl, by rw [e]; exact st⟩⟩
    by_cases h3 : D.sectors < n / 512
    · skip
      refine enter [.pointer (some ⟨D.bD, 0, none⟩), .string nm, .int .i64 s, .int .i64 (n : Nat)] Tryd.func54 rfl Tryd.ntmps54 rfl ?_
      show WC _ _ _ 49 [] [(0, .pointer (some ⟨D.bD, 0, none⟩)), (1, .string nm), (2, .int .i64 s), (3, .int .i64 (n : Nat))] _
      refine WC.seq fun K96 hK96 => ?_
      -- region 0
      refine WC.region ?_
      -- R0.0 8 := disk.go:68 assign
      refine WL.v (by first | exact r_assign (v := .int _ _) rfl | exact r_assign rfl) rfl rfl rfl ?_
      -- R0.1 9 := disk.go:68 assign
      refine WL.v (by first | exact r_assign (v := .nilIface) rfl | exact r_assign (v := .iface _ _) rfl | exact r_assign rfl) rfl rfl rfl ?_
      refine WL.fin hK96 (fun _ _ h => h) ?_
      refine WC.seq fun K97 hK97 => ?_
      refine WC.seq fun K98 hK98 => ?_
      -- region 1
      refine WC.region ?_
      -- R1.0 11 := disk.go:69 move
      refine WL.v (by first | exact r_move (v := .int _ _) rfl | exact r_move rfl) rfl rfl rfl ?_
      -- R1.1 12 := disk.go:69 binOp
      refine WL.v (by first | exact r_eql rfl rfl (decide_eq_true (by omega)) | exact r_eql rfl rfl (decide_eq_false (by omega)) | exact r_eql rfl rfl rfl) rfl rfl rfl ?_
      -- R1.2 13 := disk.go:69 move
      refine WL.v (by first | exact r_move (v := .bool _) rfl | exact r_move rfl) rfl rfl rfl ?_
      -- R1.3 14 := disk.go:69 move
      refine WL.v (by first | exact r_move (v := .int _ _) rfl | exact r_move rfl) rfl rfl rfl ?_
      -- R1.4 15 := disk.go:69 binOp
      refine WL.v (by exact r_rem (r := ((n % 512 : Nat) : Int)) rfl rfl (by omega) rfl) rfl rfl rfl ?_
      -- R1.5 16 := disk.go:69 binOp
      refine WL.v (by first | exact r_neq rfl rfl (decide_eq_true (by omega)) | exact r_neq rfl rfl (decide_eq_false (by omega)) | exact r_neq rfl rfl rfl) rfl rfl rfl ?_
      -- R1.6 17 := disk.go:69 pick
      refine WL.v (by first | exact r_pickT (v := .bool _) rfl rfl | exact r_pickF (v := .bool _) rfl rfl) rfl rfl rfl ?_
      refine WL.fin hK98 (fun _ _ h => h) ?_
      refine WC.condF rfl rfl ?_
      refine WC.skipF hK97 (fun _ _ h => h) ?_
      refine WC.seq fun K99 hK99 => ?_
      -- region 3
      refine WC.region ?_
      -- R3.0 21 := disk.go:72 move
      refine WL.v (by first | exact r_move (v := .int _ _) rfl | exact r_move rfl) rfl rfl rfl ?_
      -- R3.1 22 := disk.go:72 binOp
      refine WL.v (by exact r_quo (r := ((n / 512 : Nat) : Int)) rfl rfl (by omega) (by rw [show ((n : Nat) : Int).tdiv 512 = ((n / 512 : Nat) : Int) from rfl]; exact wi64 (by omega) (by omega))) rfl rfl rfl ?_
      -- R3.2 10 := disk.go:72 assign
      refine WL.v (by first | exact r_assign (v := .int _ _) rfl | exact r_assign rfl) rfl rfl rfl ?_
      refine WL.fin hK99 (fun _ _ h => h) ?_
      refine WC.seq fun K100 hK100 => ?_
      refine WC.seq fun K101 hK101 => ?_
      -- region 4
      refine WC.region ?_
      -- R4.0 23 := disk.go:73 move
      refine WL.v (by first | exact r_move (v := .int _ _) rfl | exact r_move rfl) rfl rfl rfl ?_
      -- R4.1 24 := disk.go:73 binOp
      refine WL.v (by first | exact r_lss rfl rfl (decide_eq_true (by omega)) | exact r_lss rfl rfl (decide_eq_false (by omega)) | exact r_lss rfl rfl rfl) rfl rfl rfl ?_
      -- R4.2 25 := disk.go:73 move
      refine WL.v (by first | exact r_move (v := .bool _) rfl | exact r_move rfl) rfl rfl rfl ?_
      -- R4.3 26 := disk.go:73 move
      refine WL.v (by first | exact r_move (v := .int _ _) rfl | exact r_move rfl) rfl rfl rfl ?_
      -- R4.4 27 := disk.go:73 move
      refine WL.v (by first | exact r_move (v := .pointer _) rfl | exact r_move rfl) rfl rfl rfl ?_
      -- R4.5 28 := disk.go:73 nilCheck
      refine WL.v (by exact r_nilCheck rfl) rfl rfl rfl ?_
      -- R4.6 29 := disk.go:73 fieldAddr
      refine WL.v (by exact r_field ty_fld97_1 rfl) rfl rfl rfl ?_
      -- R4.7 30 := disk.go:73 fieldAddr
      refine WL.v (by exact r_field ty_fld91_0 rfl) rfl rfl rfl ?_
      -- R4.8 31 := disk.go:73 load
      refine WL.v (by exact r_load1 ty_one2 rfl (by first | assumption | exact st.c0 (by first | decide | omega) | exact st.c1 (by first | decide | omega) | exact st.c2 (by first | decide | omega) | exact st.c3 (by first | decide | omega) | exact st.c4 (by first | decide | omega) | exact st.c5 (by first | decide | omega) | exact st.c6 (by first | decide | omega) | exact st.c7 (by first | decide | omega) | exact st.c8 (by first | decide | omega))) rfl rfl rfl ?_
      -- R4.9 32 := disk.go:73 binOp
      refine WL.v (by first | exact r_gtr rfl rfl (decide_eq_true (by omega)) | exact r_gtr rfl rfl (decide_eq_false (by omega)) | exact r_gtr rfl rfl rfl) rfl rfl rfl ?_
      -- R4.10 33 := disk.go:73 pick
      refine WL.v (by first | exact r_pickT (v := .bool _) rfl rfl | exact r_pickF (v := .bool _) rfl rfl) rfl rfl rfl ?_
      -- R4.11 34 := disk.go:73 move
      refine WL.v (by first | exact r_move (v := .bool _) rfl | exact r_move rfl) rfl rfl rfl ?_
      -- R4.12 35 := disk.go:73 move
      refine WL.no rfl rfl ?_
      -- R4.13 36 := disk.go:73 move
      refine WL.no rfl rfl ?_
      -- R4.14 37 := disk.go:73 nilCheck
      refine WL.no rfl rfl ?_
      -- R4.15 38 := disk.go:73 fieldAddr
      refine WL.no rfl rfl ?_
      -- R4.16 39 := disk.go:73 fieldAddr
      refine WL.no rfl rfl ?_
      -- R4.17 40 := disk.go:73 load
      refine WL.no rfl rfl ?_
      -- R4.18 41 := disk.go:73 move
      refine WL.no rfl rfl ?_
      -- R4.19 42 := disk.go:73 binOp
      refine WL.no rfl rfl ?_
      -- R4.20 43 := disk.go:73 binOp
      refine WL.no rfl rfl ?_
      -- R4.21 44 := disk.go:73 pick
      refine WL.v (by first | exact r_pickT (v := .bool _) rfl rfl | exact r_pickF (v := .bool _) rfl rfl) rfl rfl rfl ?_
      refine WL.fin hK101 (fun _ _ h => h) ?_
      refine WC.condT rfl rfl ?_
      refine WC.seq fun K102 hK102 => ?_
      -- region 5
      refine WC.region ?_
      -- R5.0 45 := disk.go:74 move
      refine WL.v (by first | exact r_move (v := .string _) rfl | exact r_move rfl) rfl rfl rfl ?_
      -- R5.1 46 := disk.go:74 move
      refine WL.v (by first | exact r_move (v := .int _ _) rfl | exact r_move rfl) rfl rfl rfl ?_
      -- R5.2 47 := disk.go:74 call
      refine WL.call (r_call ty_call50 rfl) rfl rfl rfl (refuse_ok _ _ _ st) ?_
      rintro _ w ⟨be, rfl, st⟩
      -- R5.3 8 := disk.go:74 assign
      refine WL.v (by first | exact r_assign (v := .int _ _) rfl | exact r_assign rfl) rfl rfl rfl ?_
      -- R5.4 9 := disk.go:74 assign
      refine WL.v (by first | exact r_assign (v := .nilIface) rfl | exact r_assign (v := .iface _ _) rfl | exact r_assign rfl) rfl rfl rfl ?_
      refine WL.fin hK102 (fun _ _ h => h) ?_
      refine WC.ret2 Tryd.results54 (fun _ _ h => h) rfl ?_
      have e : spanC D.sectors s n = 2 := by unfold spanC; rw [if_neg e1, if_pos (.inr (.inl h3))]
      exact ⟨_, rfl, .inr ⟨by rw [e]; decide, be, _, _, rfl, by rw [e]; exact st⟩⟩
    by_cases h4 : (D.sectors : Int) - (n / 512 : Nat) < s
    · skip
      refine enter [.pointer (some ⟨D.bD, 0, none⟩), .string nm, .int .i64 s, .int .i64 (n : Nat)] Tryd.func54 rfl Tryd.ntmps54 rfl ?_
      show WC _ _ _ 49 [] [(0, .pointer (some ⟨D.bD, 0, none⟩)), (1, .string nm), (2, .int .i64 s), (3, .int .i64 (n : Nat))] _
      refine WC.seq fun K103 hK103 => ?_
      -- region 0
      refine WC.region ?_
      -- R0.0 8 := disk.go:68 assign
      refine WL.v (by first | exact r_assign (v := .int _ _) rfl | exact r_assign rfl) rfl rfl rfl ?_
      -- R0.1 9 := disk.go:68 assign
      refine WL.v (by first | exact r_assign (v := .nilIface) rfl | exact r_assign (v := .iface _ _) rfl | exact r_assign rfl) rfl rfl rfl ?_
      refine WL.fin hK103 (fun _ _ h => h) ?_
      refine WC.seq fun K104 hK104 => ?_
      refine WC.seq fun K105 hK105 => ?_
      -- region 1
      refine WC.region ?_
      -- R1.0 11 := disk.go:69 move
      refine WL.v (by first | exact r_move (v := .int _ _) rfl | exact r_move rfl) rfl rfl rfl ?_
      -- R1.1 12 := disk.go:69 binOp
      refine WL.v (by first | exact r_eql rfl rfl (decide_eq_true (by omega)) | exact r_eql rfl rfl (decide_eq_false (by omega)) | exact r_eql rfl rfl rfl) rfl rfl rfl ?_
      -- R1.2 13 := disk.go:69 move
      refine WL.v (by first | exact r_move (v := .bool _) rfl | exact r_move rfl) rfl rfl rfl ?_
      -- R1.3 14 := disk.go:69 move
      refine WL.v (by first | exact r_move (v := .int _ _) rfl | exact r_move rfl) rfl rfl rfl ?_
      -- R1.4 15 := disk.go:69 binOp
      refine WL.v (by exact r_rem (r := ((n % 512 : Nat) : Int)) rfl rfl (by omega) rfl) rfl rfl rfl ?_
      -- R1.5 16 := disk.go:69 binOp
      refine WL.v (by first | exact r_neq rfl rfl (decide_eq_true (by omega)) | exact r_neq rfl rfl (decide_eq_false (by omega)) | exact r_neq rfl rfl rfl) rfl rfl rfl ?_
      -- R1.6 17 := disk.go:69 pick
      refine WL.v (by first | exact r_pickT (v := .bool _) rfl rfl | exact r_pickF (v := .bool _) rfl rfl) rfl rfl rfl ?_
      refine WL.fin hK105 (fun _ _ h => h) ?_
      refine WC.condF rfl rfl ?_
      refine WC.skipF hK104 (fun _ _ h => h) ?_
      refine WC.seq fun K106 hK106 => ?_
      -- region 3
      refine WC.region ?_
      -- R3.0 21 := disk.go:72 move
      refine WL.v (by first | exact r_move (v := .int _ _) rfl | exact r_move rfl) rfl rfl rfl ?_
      -- R3.1 22 := disk.go:72 binOp
      refine WL.v (by exact r_quo (r := ((n / 512 : Nat) : Int)) rfl rfl (by omega) (by rw [show ((n : Nat) : Int).tdiv 512 = ((n / 512 : Nat) : Int) from rfl]; exact wi64 (by omega) (by omega))) rfl rfl rfl ?_
      -- R3.2 10 := disk.go:72 assign
      refine WL.v (by first | exact r_assign (v := .int _ _) rfl | exact r_assign rfl) rfl rfl rfl ?_
      refine WL.fin hK106 (fun _ _ h => h) ?_
      refine WC.seq fun K107 hK107 => ?_
      refine WC.seq fun K108 hK108 => ?_
      -- region 4
      refine WC.region ?_
      -- R4.0 23 := disk.go:73 move
      refine WL.v (by first | exact r_move (v := .int _ _) rfl | exact r_move rfl) rfl rfl rfl ?_
      -- R4.1 24 := disk.go:73 binOp
      refine WL.v (by first | exact r_lss rfl rfl (decide_eq_true (by omega)) | exact r_lss rfl rfl (decide_eq_false (by omega)) | exact r_lss rfl rfl rfl) rfl rfl rfl ?_
      -- R4.2 25 := disk.go:73 move
      refine WL.v (by first | exact r_move (v := .bool _) rfl | exact r_move rfl) rfl rfl rfl ?_
      -- R4.3 26 := disk.go:73 move
      refine WL.v (by first | exact r_move (v := .int _ _) rfl | exact r_move rfl) rfl rfl rfl ?_
      -- R4.4 27 := disk.go:73 move
      refine WL.v (by first | exact r_move (v := .pointer _) rfl | exact r_move rfl) rfl rfl rfl ?_
      -- R4.5 28 := disk.go:73 nilCheck
      refine WL.v (by exact r_nilCheck rfl) rfl rfl rfl ?_
      -- R4.6 29 := disk.go:73 fieldAddr
      refine WL.v (by exact r_field ty_fld97_1 rfl) rfl rfl rfl ?_
      -- R4.7 30 := disk.go:73 fieldAddr
      refine WL.v (by exact r_field ty_fld91_0 rfl) rfl rfl rfl ?_
      -- R4.8 31 := disk.go:73 load
      refine WL.v (by exact r_load1 ty_one2 rfl (by first | assumption | exact st.c0 (by first | decide | omega) | exact st.c1 (by first | decide | omega) | exact st.c2 (by first | decide | omega) | exact st.c3 (by first | decide | omega) | exact st.c4 (by first | decide | omega) | exact st.c5 (by first | decide | omega) | exact st.c6 (by first | decide | omega) | exact st.c7 (by first | decide | omega) | exact st.c8 (by first | decide | omega))) rfl rfl rfl ?_
      -- R4.9 32 := disk.go:73 binOp
      refine WL.v (by first | exact r_gtr rfl rfl (decide_eq_true (by omega)) | exact r_gtr rfl rfl (decide_eq_false (by omega)) | exact r_gtr rfl rfl rfl) rfl rfl rfl ?_
      -- R4.10 33 := disk.go:73 pick
      refine WL.v (by first | exact r_pickT (v := .bool _) rfl rfl | exact r_pickF (v := .bool _) rfl rfl) rfl rfl rfl ?_
      -- R4.11 34 := disk.go:73 move
      refine WL.v (by first | exact r_move (v := .bool _) rfl | exact r_move rfl) rfl rfl rfl ?_
      -- R4.12 35 := disk.go:73 move
      refine WL.v (by first | exact r_move (v := .int _ _) rfl | exact r_move rfl) rfl rfl rfl ?_
      -- R4.13 36 := disk.go:73 move
      refine WL.v (by first | exact r_move (v := .pointer _) rfl | exact r_move rfl) rfl rfl rfl ?_
      -- R4.14 37 := disk.go:73 nilCheck
      refine WL.v (by exact r_nilCheck rfl) rfl rfl rfl ?_
      -- R4.15 38 := disk.go:73 fieldAddr
      refine WL.v (by exact r_field ty_fld97_1 rfl) rfl rfl rfl ?_
      -- R4.16 39 := disk.go:73 fieldAddr
      refine WL.v (by exact r_field ty_fld91_0 rfl) rfl rfl rfl ?_
      -- R4.17 40 := disk.go:73 load
      refine WL.v (by exact r_load1 ty_one2 rfl (by first | assumption | exact st.c0 (by first | decide | omega) | exact st.c1 (by first | decide | omega) | exact st.c2 (by first | decide | omega) | exact st.c3 (by first | decide | omega) | exact st.c4 (by first | decide | omega) | exact st.c5 (by first | decide | omega) | exact st.c6 (by first | decide | omega) | exact st.c7 (by first | decide | omega) | exact st.c8 (by first | decide | omega))) rfl rfl rfl ?_
      -- R4.18 41 := disk.go:73 move
      refine WL.v (by first | exact r_move (v := .int _ _) rfl | exact r_move rfl) rfl rfl rfl ?_
      -- R4.19 42 := disk.go:73 binOp
      refine WL.v (by first | exact r_sub rfl rfl (wi64 (by omega) (by omega)) | exact r_sub rfl rfl rfl) rfl rfl rfl ?_
      -- R4.20 43 := disk.go:73 binOp
      refine WL.v (by first | exact r_gtr rfl rfl (decide_eq_true (by omega)) | exact r_gtr rfl rfl (decide_eq_false (by omega)) | exact r_gtr rfl rfl rfl) rfl rfl rfl ?_
      -- R4.21 44 := disk.go:73 pick
      refine WL.v (by first | exact r_pickT (v := .bool _) rfl rfl | exact r_pickF (v := .bool _) rfl rfl) rfl rfl rfl ?_
      refine WL.fin hK108 (fun _ _ h => h) ?_
      refine WC.condT rfl rfl ?_
      refine WC.seq fun K109 hK109 => ?_
      -- region 5
      refine WC.region ?_
      -- R5.0 45 := disk.go:74 move
      refine WL.v (by first | exact r_move (v := .string _) rfl | exact r_move rfl) rfl rfl rfl ?_
      -- R5.1 46 := disk.go:74 move
      refine WL.v (by first | exact r_move (v := .int _ _) rfl | exact r_move rfl) rfl rfl rfl ?_
      -- R5.2 47 := disk.go:74 call
      refine WL.call (r_call ty_call50 rfl) rfl rfl rfl (refuse_ok _ _ _ st) ?_
      rintro _ w ⟨be, rfl, st⟩
      -- R5.3 8 := disk.go:74 assign
      refine WL.v (by first | exact r_assign (v := .int _ _) rfl | exact r_assign rfl) rfl rfl rfl ?_
      -- R5.4 9 := disk.go:74 assign
      refine WL.v (by first | exact r_assign (v := .nilIface) rfl | exact r_assign (v := .iface _ _) rfl | exact r_assign rfl) rfl rfl rfl ?_
      refine WL.fin hK109 (fun _ _ h => h) ?_
      refine WC.ret2 Tryd.results54 (fun _ _ h => h) rfl ?_
      have e : spanC D.sectors s n = 2 := by unfold spanC; rw [if_neg e1, if_pos (.inr (.inr h4))]
      exact ⟨_, rfl, .inr ⟨by rw [e]; decide, be, _, _, rfl, by rw [e]; exact st⟩⟩
    refine enter [.pointer (some ⟨D.bD, 0, none⟩), .string nm, .int .i64 s, .int .i64 (n : Nat)] Tryd.func54 rfl Tryd.ntmps54 rfl ?_
    show WC _ _ _ 49 [] [(0, .pointer (some ⟨D.bD, 0, none⟩)), (1, .string nm), (2, .int .i64 s), (3, .int .i64 (n : Nat))] _
    refine WC.seq fun K110 hK110 => ?_
    -- region 0
    refine WC.region ?_
    -- R0.0 8 := disk.go:68 assign
    refine WL.v (by first | exact r_assign (v := .int _ _) rfl | exact r_assign rfl) rfl rfl rfl ?_
    -- R0.1 9 := disk.go:68 assign
    refine WL.v (by first | exact r_assign (v := .nilIface) rfl | exact r_assign (v := .iface _ _) rfl | exact r_assign rfl) rfl rfl rfl ?_
    refine WL.fin hK110 (fun _ _ h => h) ?_
    refine WC.seq fun K111 hK111 => ?_
    refine WC.seq fun K112 hK112 => ?_
    -- region 1
    refine WC.region ?_
    -- R1.0 11 := disk.go:69 move
    refine WL.v (by first | exact r_move (v := .int _ _) rfl | exact r_move rfl) rfl rfl rfl ?_
    -- R1.1 12 := disk.go:69 binOp
    refine WL.v (by first | exact r_eql rfl rfl (decide_eq_true (by omega)) | exact r_eql rfl rfl (decide_eq_false (by omega)) | exact r_eql rfl rfl rfl) rfl rfl rfl ?_
    -- R1.2 13 := disk.go:69 move
    refine WL.v (by first | exact r_move (v := .bool _) rfl | exact r_move rfl) rfl rfl rfl ?_
    -- R1.3 14 := disk.go:69 move
    refine WL.v (by first | exact r_move (v := .int _ _) rfl | exact r_move rfl) rfl rfl rfl ?_
    -- R1.4 15 := disk.go:69 binOp
    refine WL.v (by exact r_rem (r := ((n % 512 : Nat) : Int)) rfl rfl (by omega) rfl) rfl rfl rfl ?_
    -- R1.5 16 := disk.go:69 binOp
    refine WL.v (by first | exact r_neq rfl rfl (decide_eq_true (by omega)) | exact r_neq rfl rfl (decide_eq_false (by omega)) | exact r_neq rfl rfl rfl) rfl rfl rfl ?_
    -- R1.6 17 := disk.go:69 pick
    refine WL.v (by first | exact r_pickT (v := .bool _) rfl rfl | exact r_pickF (v := .bool _) rfl rfl) rfl rfl rfl ?_
    refine WL.fin hK112 (fun _ _ h => h) ?_
    refine WC.condF rfl rfl ?_
    refine WC.skipF hK111 (fun _ _ h => h) ?_
    refine WC.seq fun K113 hK113 => ?_
    -- region 3
    refine WC.region ?_
    -- R3.0 21 := disk.go:72 move
    refine WL.v (by first | exact r_move (v := .int _ _) rfl | exact r_move rfl) rfl rfl rfl ?_
    -- R3.1 22 := disk.go:72 binOp
    refine WL.v (by exact r_quo (r := ((n / 512 : Nat) : Int)) rfl rfl (by omega) (by rw [show ((n : Nat) : Int).tdiv 512 = ((n / 512 : Nat) : Int) from rfl]; exact wi64 (by omega) (by omega))) rfl rfl rfl ?_
    -- R3.2 10 := disk.go:72 assign
    refine WL.v (by first | exact r_assign (v := .int _ _) rfl | exact r_assign rfl) rfl rfl rfl ?_
    refine WL.fin hK113 (fun _ _ h => h) ?_
    refine WC.seq fun K114 hK114 => ?_
    refine WC.seq fun K115 hK115 => ?_
    -- region 4
    refine WC.region ?_
    -- R4.0 23 := disk.go:73 move
    refine WL.v (by first | exact r_move (v := .int _ _) rfl | exact r_move rfl) rfl rfl rfl ?_
    -- R4.1 24 := disk.go:73 binOp
    refine WL.v (by first | exact r_lss rfl rfl (decide_eq_true (by omega)) | exact r_lss rfl rfl (decide_eq_false (by omega)) | exact r_lss rfl rfl rfl) rfl rfl rfl ?_
    -- R4.2 25 := disk.go:73 move
    refine WL.v (by first | exact r_move (v := .bool _) rfl | exact r_move rfl) rfl rfl rfl ?_
    -- R4.3 26 := disk.go:73 move
    refine WL.v (by first | exact r_move (v := .int _ _) rfl | exact r_move rfl) rfl rfl rfl ?_
    -- R4.4 27 := disk.go:73 move
    refine WL.v (by first | exact r_move (v := .pointer _) rfl | exact r_move rfl) rfl rfl rfl ?_
    -- R4.5 28 := disk.go:73 nilCheck
    refine WL.v (by exact r_nilCheck rfl) rfl rfl rfl ?_
    -- R4.6 29 := disk.go:73 fieldAddr
    refine WL.v (by exact r_field ty_fld97_1 rfl) rfl rfl rfl ?_
    -- R4.7 30 := disk.go:73 fieldAddr
    refine WL.v (by exact r_field ty_fld91_0 rfl) rfl rfl rfl ?_
    -- R4.8 31 := disk.go:73 load
    refine WL.v (by exact r_load1 ty_one2 rfl (by first | assumption | exact st.c0 (by first | decide | omega) | exact st.c1 (by first | decide | omega) | exact st.c2 (by first | decide | omega) | exact st.c3 (by first | decide | omega) | exact st.c4 (by first | decide | omega) | exact st.c5 (by first | decide | omega) | exact st.c6 (by first | decide | omega) | exact st.c7 (by first | decide | omega) | exact st.c8 (by first | decide | omega))) rfl rfl rfl ?_
    -- R4.9 32 := disk.go:73 binOp
    refine WL.v (by first | exact r_gtr rfl rfl (decide_eq_true (by omega)) | exact r_gtr rfl rfl (decide_eq_false (by omega)) | exact r_gtr rfl rfl rfl) rfl rfl rfl ?_
    -- R4.10 33 := disk.go:73 pick
    refine WL.v (by first | exact r_pickT (v := .bool _) rfl rfl | exact r_pickF (v := .bool _) rfl rfl) rfl rfl rfl ?_
    -- R4.11 34 := disk.go:73 move
    refine WL.v (by first | exact r_move (v := .bool _) rfl | exact r_move rfl) rfl rfl rfl ?_
    -- R4.12 35 := disk.go:73 move
    refine WL.v (by first | exact r_move (v := .int _ _) rfl | exact r_move rfl) rfl rfl rfl ?_
    -- R4.13 36 := disk.go:73 move
    refine WL.v (by first | exact r_move (v := .pointer _) rfl | exact r_move rfl) rfl rfl rfl ?_
    -- R4.14 37 := disk.go:73 nilCheck
    refine WL.v (by exact r_nilCheck rfl) rfl rfl rfl ?_
    -- R4.15 38 := disk.go:73 fieldAddr
    refine WL.v (by exact r_field ty_fld97_1 rfl) rfl rfl rfl ?_
    -- R4.16 39 := disk.go:73 fieldAddr
    refine WL.v (by exact r_field ty_fld91_0 rfl) rfl rfl rfl ?_
    -- R4.17 40 := disk.go:73 load
    refine WL.v (by exact r_load1 ty_one2 rfl (by first | assumption | exact st.c0 (by first | decide | omega) | exact st.c1 (by first | decide | omega) | exact st.c2 (by first | decide | omega) | exact st.c3 (by first | decide | omega) | exact st.c4 (by first | decide | omega) | exact st.c5 (by first | decide | omega) | exact st.c6 (by first | decide | omega) | exact st.c7 (by first | decide | omega) | exact st.c8 (by first | decide | omega))) rfl rfl rfl ?_
    -- R4.18 41 := disk.go:73 move
    refine WL.v (by first | exact r_move (v := .int _ _) rfl | exact r_move rfl) rfl rfl rfl ?_
    -- R4.19 42 := disk.go:73 binOp
    refine WL.v (by first | exact r_sub rfl rfl (wi64 (by omega) (by omega)) | exact r_sub rfl rfl rfl) rfl rfl rfl ?_
    -- R4.20 43 := disk.go:73 binOp
    refine WL.v (by first | exact r_gtr rfl rfl (decide_eq_true (by omega)) | exact r_gtr rfl rfl (decide_eq_false (by omega)) | exact r_gtr rfl rfl rfl) rfl rfl rfl ?_
    -- R4.21 44 := disk.go:73 pick
    refine WL.v (by first | exact r_pickT (v := .bool _) rfl rfl | exact r_pickF (v := .bool _) rfl rfl) rfl rfl rfl ?_
    refine WL.fin hK115 (fun _ _ h => h) ?_
    refine WC.condF rfl rfl ?_
    refine WC.skipF hK114 (fun _ _ h => h) ?_
    refine WC.seq fun K116 hK116 => ?_
    -- region 6
    refine WC.region ?_
    -- R6.0 48 := disk.go:76 move
    refine WL.v (by first | exact r_move (v := .int _ _) rfl | exact r_move rfl) rfl rfl rfl ?_
    -- R6.1 8 := disk.go:76 assign
    refine WL.v (by first | exact r_assign (v := .int _ _) rfl | exact r_assign rfl) rfl rfl rfl ?_
    -- R6.2 9 := disk.go:76 assign
    refine WL.v (by first | exact r_assign (v := .nilIface) rfl | exact r_assign (v := .iface _ _) rfl | exact r_assign rfl) rfl rfl rfl ?_
    refine WL.fin hK116 (fun _ _ h => h) ?_
    refine WC.ret2 Tryd.results54 (fun _ _ h => h) rfl ?_
    have e : spanC D.sectors s n = 0 := by unfold spanC; rw [if_neg e1, if_neg (by omega)]
    exact ⟨_, rfl, .inl ⟨e, rfl, st⟩⟩
  · skip
    refine enter [.pointer (some ⟨D.bD, 0, none⟩), .string nm, .int .i64 s, .int .i64 (n : Nat)] Tryd.func54 rfl Tryd.ntmps54 rfl ?_
    show WC _ _ _ 49 [] [(0, .pointer (some ⟨D.bD, 0, none⟩)), (1, .string nm), (2, .int .i64 s), (3, .int .i64 (n : Nat))] _
    refine WC.seq fun K117 hK117 => ?_
    -- region 0
    refine WC.region ?_
    -- R0.0 8 := disk.go:68 assign
    refine WL.v (by first | exact r_assign (v := .int _ _) rfl | exact r_assign rfl) rfl rfl rfl ?_
    -- R0.1 9 := disk.go:68 assign
    refine WL.v (by first | exact r_assign (v := .nilIface) rfl | exact r_assign (v := .iface _ _) rfl | exact r_assign rfl) rfl rfl rfl ?_
    refine WL.fin hK117 (fun _ _ h => h) ?_
    refine WC.seq fun K118 hK118 => ?_
    refine WC.seq fun K119 hK119 => ?_
    -- region 1
    refine WC.region ?_
    -- R1.0 11 := disk.go:69 move
    refine WL.v (by first | exact r_move (v := .int _ _) rfl | exact r_move rfl) rfl rfl rfl ?_
    -- R1.1 12 := disk.go:69 binOp
    refine WL.v (by first | exact r_eql rfl rfl (decide_eq_true (by omega)) | exact r_eql rfl rfl (decide_eq_false (by omega)) | exact r_eql rfl rfl rfl) rfl rfl rfl ?_
    -- R1.2 13 := disk.go:69 move
    refine WL.v (by first | exact r_move (v := .bool _) rfl | exact r_move rfl) rfl rfl rfl ?_
    -- R1.3 14 := disk.go:69 move
    refine WL.v (by first | exact r_move (v := .int _ _) rfl | exact r_move rfl) rfl rfl rfl ?_
    -- R1.4 15 := disk.go:69 binOp
    refine WL.v (by exact r_rem (r := ((n % 512 : Nat) : Int)) rfl rfl (by omega) rfl) rfl rfl rfl ?_
    -- R1.5 16 := disk.go:69 binOp
    refine WL.v (by first | exact r_neq rfl rfl (decide_eq_true (by omega)) | exact r_neq rfl rfl (decide_eq_false (by omega)) | exact r_neq rfl rfl rfl) rfl rfl rfl ?_
    -- R1.6 17 := disk.go:69 pick
    refine WL.v (by first | exact r_pickT (v := .bool _) rfl rfl | exact r_pickF (v := .bool _) rfl rfl) rfl rfl rfl ?_
    refine WL.fin hK119 (fun _ _ h => h) ?_
    refine WC.condT rfl rfl ?_
    refine WC.seq fun K120 hK120 => ?_
    -- region 2
    refine WC.region ?_
    -- R2.0 18 := disk.go:70 move
    refine WL.v (by first | exact r_move (v := .string _) rfl | exact r_move rfl) rfl rfl rfl ?_
    -- R2.1 19 := disk.go:70 move
    refine WL.v (by first | exact r_move (v := .int _ _) rfl | exact r_move rfl) rfl rfl rfl ?_
    -- R2.2 20 := disk.go:70 call
    refine WL.call (r_call ty_call50 rfl) rfl rfl rfl (refuse_ok _ _ _ st) ?_
    rintro _ w ⟨be, rfl, st⟩
    -- R2.3 8 := disk.go:70 assign
    refine WL.v (by first | exact r_assign (v := .int _ _) rfl | exact r_assign rfl) rfl rfl rfl ?_
    -- R2.4 9 := disk.go:70 assign
    refine WL.v (by first | exact r_assign (v := .nilIface) rfl | exact r_assign (v := .iface _ _) rfl | exact r_assign rfl) rfl rfl rfl ?_
    refine WL.fin hK120 (fun _ _ h => h) ?_
    refine WC.ret2 Tryd.results54 (fun _ _ h => h) rfl ?_
    have e : spanC D.sectors s n = 1 := by unfold spanC; rw [if_pos (.inr h1)]
    exact ⟨_, rfl, .inr ⟨by rw [e]; decide, be, _, _, rfl, by rw [e]; exact st⟩⟩

/-- The bit of a plan that speaks of write i. -/
def keepB (bs : List Int) (i : Nat) : Bool := decide (bs.length ≠ 0 ∧ bs.getD (i % (bs.length * 8) / 8) 0 / 2 ^ (i % (bs.length * 8) % 8) % 2 = 1)

theorem and_one {x : Int} (h0 : 0 ≤ x) (h1 : x < 256) : (IntKind.u8).wrap (BitVec.ofInt 8 x &&& BitVec.ofInt 8 1).toNat = x % 2 := by
  obtain ⟨y, rfl⟩ := Int.eq_ofNat_of_zero_le h0
  have e : (BitVec.ofInt 8 (y : Int) &&& BitVec.ofInt 8 1).toNat = y % 2 := by
    rw [BitVec.toNat_and, BitVec.toNat_ofInt, BitVec.toNat_ofInt]
    have : ((y : Int) % ((2 ^ 8 : Nat) : Int)).toNat = y := by omega
    rw [this, show ((1 : Int) % ((2 ^ 8 : Nat) : Int)).toNat = 1 by decide]
    exact Nat.and_one_is_mod y
  rw [e]
  exact (wu8 (by omega) (by omega)).trans (by omega)

theorem shr8 {x : Int} {k : Nat} (h : k < 8) : x.fdiv (2 ^ (min ((k : Nat) : Int).toNat IntKind.u8.bits)) = x / 2 ^ k := by
  rw [show min ((k : Nat) : Int).toNat IntKind.u8.bits = k by show min _ 8 = _; omega]
  exact Int.fdiv_eq_ediv_of_nonneg _ (Int.pow_nonneg (by decide))

set_option maxHeartbeats 1000000 in
theorem keeps_ok (s : SV) (i : Nat) (hs : s.ok) (hl : s.bs.length ≤ 65536) (hi : i ≤ 1000000000000) (hr : ∀ w', S0 w0 l w' → s.rd w') (st : S0 w0 l w) :
    Calls Tryd.prog 71 #[s.v, .int .i64 (i : Nat)] w (Ret fun v w' => v = .bool (keepB s.bs i) ∧ S0 w0 l w') := by
  by_cases h0 : s.bs.length = 0
  · skip
    refine enter [.slice s.a s.bs.length s.c, .int .i64 (i : Nat)] Tryd.func71 rfl Tryd.ntmps71 rfl ?_
    show WC _ _ _ 25 [] [(0, .slice s.a s.bs.length s.c), (1, .int .i64 (i : Nat))] _
    refine WC.seq fun K121 hK121 => ?_
    -- region 0
    refine WC.region ?_
    -- R0.0 4 := disk.go:292 assign
    refine WL.v (by first | exact r_assign (v := .bool _) rfl | exact r_assign rfl) rfl rfl rfl ?_
    refine WL.fin hK121 (fun _ _ h => h) ?_
    refine WC.seq fun K122 hK122 => ?_
    refine WC.seq fun K123 hK123 => ?_
    -- region 1
    refine WC.region ?_
    -- R1.0 6 := disk.go:293 move
    refine WL.v (by first | exact r_move (v := .slice _ _ _) rfl | exact r_move rfl) rfl rfl rfl ?_
    -- R1.1 7 := disk.go:293 call
    refine WL.v (by exact r_len ty_usl29 rfl) rfl rfl rfl ?_
    -- R1.2 8 := disk.go:293 binOp
    refine WL.v (by exact r_eql rfl rfl (decide_eq_true (by omega))) rfl rfl rfl ?_
    refine WL.fin hK123 (fun _ _ h => h) ?_
    refine WC.condT rfl rfl ?_
    refine WC.seq fun K124 hK124 => ?_
    -- region 2
    refine WC.region ?_
    -- R2.0 4 := disk.go:294 assign
    refine WL.v (by first | exact r_assign (v := .bool _) rfl | exact r_assign rfl) rfl rfl rfl ?_
    refine WL.fin hK124 (fun _ _ h => h) ?_
    refine WC.ret1 Tryd.results71 (fun _ _ h => h) rfl ?_
    exact ⟨_, rfl, congrArg Value.bool (show false = keepB s.bs i by simp [keepB, h0]), st⟩
  · have ha := hs.adr (by omega)
    obtain ⟨t, ht⟩ : ∃ t, t = i % (s.bs.length * 8) := ⟨_, rfl⟩
    have htl : t < s.bs.length * 8 := by rw [ht]; exact Nat.mod_lt _ (by omega)
    have hb := hs.at (i := t / 8) (by omega)
    obtain ⟨x, hx⟩ : ∃ x, x = s.bs.getD (t / 8) 0 := ⟨_, rfl⟩
    rw [← hx] at hb
    have hp : (2 : Int) ^ (t % 8) = ((2 ^ (t % 8) : Nat) : Int) := by simp
    have hp1 : 0 < 2 ^ (t % 8) := Nat.pos_of_ne_zero (by simp)
    have hq : 0 ≤ x / 2 ^ (t % 8) ∧ x / 2 ^ (t % 8) < 256 := by
      refine ⟨Int.ediv_nonneg hb.1 (by rw [hp]; omega), ?_⟩
      rw [hp]
      exact Int.lt_of_le_of_lt (Int.ediv_le_self _ hb.1) hb.2
    show Calls Tryd.prog 71 #[.slice s.a s.bs.length s.c, .int .i64 (i : Nat)] w _
    rw [ha]
    refine enter [.slice (some ⟨s.b, s.o, none⟩) s.bs.length s.c, .int .i64 (i : Nat)] Tryd.func71 rfl Tryd.ntmps71 rfl ?_
    show WC _ _ _ 25 [] [(0, .slice (some ⟨s.b, s.o, none⟩) s.bs.length s.c), (1, .int .i64 (i : Nat))] _
    refine WC.seq fun K125 hK125 => ?_
    -- region 0
    refine WC.region ?_
    -- R0.0 4 := disk.go:292 assign
    refine WL.v (by first | exact r_assign (v := .bool _) rfl | exact r_assign rfl) rfl rfl rfl ?_
    refine WL.fin hK125 (fun _ _ h => h) ?_
    refine WC.seq fun K126 hK126 => ?_
    refine WC.seq fun K127 hK127 => ?_
    -- region 1
    refine WC.region ?_
    -- R1.0 6 := disk.go:293 move
    refine WL.v (by first | exact r_move (v := .slice _ _ _) rfl | exact r_move rfl) rfl rfl rfl ?_
    -- R1.1 7 := disk.go:293 call
    refine WL.v (by exact r_len ty_usl29 rfl) rfl rfl rfl ?_
    -- R1.2 8 := disk.go:293 binOp
    refine WL.v (by exact r_eql rfl rfl (decide_eq_false (by omega))) rfl rfl rfl ?_
    refine WL.fin hK127 (fun _ _ h => h) ?_
    refine WC.condF rfl rfl ?_
    refine WC.skipF hK126 (fun _ _ h => h) ?_
    refine WC.seq fun K128 hK128 => ?_
    -- region 3
    refine WC.region ?_
    -- R3.0 9 := disk.go:296 move
    refine WL.v (by first | exact r_move (v := .int _ _) rfl | exact r_move rfl) rfl rfl rfl ?_
    -- R3.1 10 := disk.go:296 move
    refine WL.v (by first | exact r_move (v := .slice _ _ _) rfl | exact r_move rfl) rfl rfl rfl ?_
    -- R3.2 11 := disk.go:296 call
    refine WL.v (by exact r_len ty_usl29 rfl) rfl rfl rfl ?_
    -- R3.3 12 := disk.go:296 binOp
    refine WL.v (by exact r_mul (r := ((s.bs.length * 8 : Nat) : Int)) rfl rfl ((wi64 (by omega) (by omega)).trans (by omega))) rfl rfl rfl ?_
    -- R3.4 13 := disk.go:296 binOp
    refine WL.v (by exact r_rem (r := (t : Int)) rfl rfl (by omega) (by rw [ht]; exact rfl)) rfl rfl rfl ?_
    -- R3.5 5 := disk.go:296 assign
    refine WL.v (by first | exact r_assign (v := .int _ _) rfl | exact r_assign rfl) rfl rfl rfl ?_
    refine WL.fin hK128 (fun _ _ h => h) ?_
    refine WC.seq fun K129 hK129 => ?_
    -- region 4
    refine WC.region ?_
    -- R4.0 14 := disk.go:297 move
    refine WL.v (by first | exact r_move (v := .slice _ _ _) rfl | exact r_move rfl) rfl rfl rfl ?_
    -- R4.1 15 := disk.go:297 move
    refine WL.v (by first | exact r_move (v := .int _ _) rfl | exact r_move rfl) rfl rfl rfl ?_
    -- R4.2 16 := disk.go:297 binOp
    refine WL.v (by exact r_quo (r := ((t / 8 : Nat) : Int)) rfl rfl (by omega) (by rw [show ((t : Nat) : Int).tdiv 8 = ((t / 8 : Nat) : Int) from rfl]; exact wi64 (by omega) (by omega))) rfl rfl rfl ?_
    -- R4.3 17 := disk.go:297 indexAddr
    refine WL.v (by exact r_indexS (j := t / 8) ty_sl29 rfl rfl rfl (by omega)) rfl rfl rfl ?_
    -- R4.4 18 := disk.go:297 load
    refine WL.v (by exact r_load1 (v := .int .u8 x) ty_one5 rfl (by rw [show s.o + t / 8 * 1 = s.o + t / 8 by omega, hx]; exact hr w st _ (by omega))) rfl rfl rfl ?_
    -- R4.5 19 := disk.go:297 move
    refine WL.v (by first | exact r_move (v := .int _ _) rfl | exact r_move rfl) rfl rfl rfl ?_
    -- R4.6 20 := disk.go:297 binOp
    refine WL.v (by exact r_rem (r := ((t % 8 : Nat) : Int)) rfl rfl (by omega) rfl) rfl rfl rfl ?_
    -- R4.7 21 := disk.go:297 convert
    refine WL.v (by first | exact r_conv ty_cv2_153 rfl (wu64 (by omega) (by omega)) | exact r_conv ty_cv2_153 rfl rfl) rfl rfl rfl ?_
    -- R4.8 22 := disk.go:297 binOp
    refine WL.v (by exact r_shr (r := x / 2 ^ (t % 8)) rfl rfl (by omega) (shr8 (by omega))) rfl rfl rfl ?_
    -- R4.9 23 := disk.go:297 binOp
    refine WL.v (by exact r_and (r := x / 2 ^ (t % 8) % 2) rfl rfl (and_one hq.1 hq.2)) rfl rfl rfl ?_
    -- R4.10 24 := disk.go:297 binOp
    refine WL.v (by exact r_eql (t := keepB s.bs i) rfl rfl (by unfold keepB; rw [← ht, ← hx, decide_eq_decide]; omega)) rfl rfl rfl ?_
    -- R4.11 4 := disk.go:297 assign
    refine WL.v (by first | exact r_assign (v := .bool _) rfl | exact r_assign rfl) rfl rfl rfl ?_
    refine WL.fin hK129 (fun _ _ h => h) ?_
    refine WC.ret1 Tryd.results71 (fun _ _ h => h) rfl ?_
    exact ⟨_, rfl, rfl, st⟩

theorem sectors_ok (st : S0 w0 (DI D m L) w) :
    Calls Tryd.prog 19 #[.pointer (some ⟨D.bD, 0, none⟩)] w (Ret fun v w' => v = .int .i64 (D.sectors : Nat) ∧ S0 w0 (DI D m L) w') := by
  refine enter [.pointer (some ⟨D.bD, 0, none⟩)] Tryd.func19 rfl Tryd.ntmps19 rfl ?_
  show WC _ _ _ 8 [] [(0, .pointer (some ⟨D.bD, 0, none⟩))] _
  refine WC.seq fun K130 hK130 => ?_
  -- region 0
  refine WC.region ?_
  -- R0.0 2 := disk.go:64 assign
  refine WL.v (by first | exact r_assign (v := .int _ _) rfl | exact r_assign rfl) rfl rfl rfl ?_
  refine WL.fin hK130 (fun _ _ h => h) ?_
  refine WC.seq fun K131 hK131 => ?_
  -- region 1
  refine WC.region ?_
  -- R1.0 3 := disk.go:64 move
  refine WL.v (by first | exact r_move (v := .pointer _) rfl | exact r_move rfl) rfl rfl rfl ?_
  -- R1.1 4 := disk.go:64 nilCheck
  refine WL.v (by exact r_nilCheck rfl) rfl rfl rfl ?_
  -- R1.2 5 := disk.go:64 fieldAddr
  refine WL.v (by exact r_field ty_fld97_1 rfl) rfl rfl rfl ?_
  -- R1.3 6 := disk.go:64 fieldAddr
  refine WL.v (by exact r_field ty_fld91_0 rfl) rfl rfl rfl ?_
  -- R1.4 7 := disk.go:64 load
  refine WL.v (by exact r_load1 ty_one2 rfl (by first | assumption | exact st.c0 (by first | decide | omega) | exact st.c1 (by first | decide | omega) | exact st.c2 (by first | decide | omega) | exact st.c3 (by first | decide | omega) | exact st.c4 (by first | decide | omega) | exact st.c5 (by first | decide | omega) | exact st.c6 (by first | decide | omega) | exact st.c7 (by first | decide | omega) | exact st.c8 (by first | decide | omega))) rfl rfl rfl ?_
  -- R1.5 2 := disk.go:64 assign
  refine WL.v (by first | exact r_assign (v := .int _ _) rfl | exact r_assign rfl) rfl rfl rfl ?_
  refine WL.fin hK131 (fun _ _ h => h) ?_
  refine WC.ret1 Tryd.results19 (fun _ _ h => h) rfl ?_
  exact ⟨_, rfl, rfl, st⟩

set_option maxHeartbeats 1000000 in
theorem isDown_ok (st : S0 w0 (DI D 0 L) w) :
    Calls Tryd.prog 17 #[.pointer (some ⟨D.bD, 0, none⟩)] w (Ret fun v w' => v = .bool D.down ∧ S0 w0 (DI D 0 L) w') := by
  refine enterD [.pointer (some ⟨D.bD, 0, none⟩)] Tryd.func17 rfl Tryd.ntmps17 rfl ?_
  show WC _ _ _ 14 [] [(0, .pointer (some ⟨D.bD, 0, none⟩))] _
  refine WC.seqD fun K132 hK132 => ?_
  -- region 0
  refine WC.region ?_
  -- R0.0 2 := disk.go:228 assign
  refine WL.v (by first | exact r_assign (v := .bool _) rfl | exact r_assign rfl) rfl rfl rfl ?_
  refine WL.fin (hK132 _) (fun _ _ h => h) ?_
  refine WC.seqD fun K133 hK133 => ?_
  -- region 1
  refine WC.region ?_
  -- R1.0 3 := disk.go:229 move
  refine WL.v (by first | exact r_move (v := .pointer _) rfl | exact r_move rfl) rfl rfl rfl ?_
  -- R1.1 4 := disk.go:229 nilCheck
  refine WL.v (by exact r_nilCheck rfl) rfl rfl rfl ?_
  -- R1.2 5 := disk.go:229 fieldAddr
  refine WL.v (by exact r_field ty_fld97_0 rfl) rfl rfl rfl ?_
  -- R1.3 6 := disk.go:229 call
  refine WL.lock Tryd.muLib ty_call47 (st) rfl (by decide) rfl rfl rfl rfl ?_
  intro w st
  refine WL.fin (hK133 _) (fun _ _ h => h) ?_
  refine WC.seqD fun K134 hK134 => ?_
  -- region 2
  refine WC.region ?_
  -- R2.0 7 := disk.go:230 move
  refine WL.v (by first | exact r_move (v := .pointer _) rfl | exact r_move rfl) rfl rfl rfl ?_
  -- R2.1 8 := disk.go:230 nilCheck
  refine WL.v (by exact r_nilCheck rfl) rfl rfl rfl ?_
  -- R2.2 9 := disk.go:230 fieldAddr
  refine WL.v (by exact r_field ty_fld97_0 rfl) rfl rfl rfl ?_
  -- R2.3 None := disk.go:230 defer
  refine WL.defer rfl rfl rfl ?_
  refine WL.fin (hK134 _) (fun _ _ h => h) ?_
  refine WC.seqD fun K135 hK135 => ?_
  -- region 3
  refine WC.region ?_
  -- R3.0 10 := disk.go:231 move
  refine WL.v (by first | exact r_move (v := .pointer _) rfl | exact r_move rfl) rfl rfl rfl ?_
  -- R3.1 11 := disk.go:231 nilCheck
  refine WL.v (by exact r_nilCheck rfl) rfl rfl rfl ?_
  -- R3.2 12 := disk.go:231 fieldAddr
  refine WL.v (by exact r_field ty_fld97_3 rfl) rfl rfl rfl ?_
  -- R3.3 13 := disk.go:231 load
  refine WL.v (by exact r_load1 ty_one4 rfl (by first | assumption | exact st.c0 (by first | decide | omega) | exact st.c1 (by first | decide | omega) | exact st.c2 (by first | decide | omega) | exact st.c3 (by first | decide | omega) | exact st.c4 (by first | decide | omega) | exact st.c5 (by first | decide | omega) | exact st.c6 (by first | decide | omega) | exact st.c7 (by first | decide | omega) | exact st.c8 (by first | decide | omega))) rfl rfl rfl ?_
  -- R3.4 2 := disk.go:231 assign
  refine WL.v (by first | exact r_assign (v := .bool _) rfl | exact r_assign rfl) rfl rfl rfl ?_
  refine WL.fin (hK135 _) (fun _ _ h => h) ?_
  refine WC.retD1 Tryd.muLib ty_call48 Tryd.results17 (fun _ _ h => h) rfl (st) (by decide) rfl ?_
  intro w st
  exact ⟨_, rfl, rfl, st_nrm (L' := dC 0 D) rfl st⟩

set_option maxHeartbeats 1000000 in
theorem fuse_ok (st : S0 w0 (DI D 0 L) w) :
    Calls Tryd.prog 16 #[.pointer (some ⟨D.bD, 0, none⟩)] w (Ret fun v w' => v = .tuple #[.int .i64 D.fuse, .bool D.armed] ∧ S0 w0 (DI D 0 L) w') := by
  refine enterD [.pointer (some ⟨D.bD, 0, none⟩)] Tryd.func16 rfl Tryd.ntmps16 rfl ?_
  show WC _ _ _ 19 [] [(0, .pointer (some ⟨D.bD, 0, none⟩))] _
  refine WC.seqD fun K136 hK136 => ?_
  -- region 0
  refine WC.region ?_
  -- R0.0 2 := disk.go:243 assign
  refine WL.v (by first | exact r_assign (v := .int _ _) rfl | exact r_assign rfl) rfl rfl rfl ?_
  -- R0.1 3 := disk.go:243 assign
  refine WL.v (by first | exact r_assign (v := .bool _) rfl | exact r_assign rfl) rfl rfl rfl ?_
  refine WL.fin (hK136 _) (fun _ _ h => h) ?_
  refine WC.seqD fun K137 hK137 => ?_
  -- region 1
  refine WC.region ?_
  -- R1.0 4 := disk.go:244 move
  refine WL.v (by first | exact r_move (v := .pointer _) rfl | exact r_move rfl) rfl rfl rfl ?_
  -- R1.1 5 := disk.go:244 nilCheck
  refine WL.v (by exact r_nilCheck rfl) rfl rfl rfl ?_
  -- R1.2 6 := disk.go:244 fieldAddr
  refine WL.v (by exact r_field ty_fld97_0 rfl) rfl rfl rfl ?_
  -- R1.3 7 := disk.go:244 call
  refine WL.lock Tryd.muLib ty_call47 (st) rfl (by decide) rfl rfl rfl rfl ?_
  intro w st
  refine WL.fin (hK137 _) (fun _ _ h => h) ?_
  refine WC.seqD fun K138 hK138 => ?_
  -- region 2
  refine WC.region ?_
  -- R2.0 8 := disk.go:245 move
  refine WL.v (by first | exact r_move (v := .pointer _) rfl | exact r_move rfl) rfl rfl rfl ?_
  -- R2.1 9 := disk.go:245 nilCheck
  refine WL.v (by exact r_nilCheck rfl) rfl rfl rfl ?_
  -- R2.2 10 := disk.go:245 fieldAddr
  refine WL.v (by exact r_field ty_fld97_0 rfl) rfl rfl rfl ?_
  -- R2.3 None := disk.go:245 defer
  refine WL.defer rfl rfl rfl ?_
  refine WL.fin (hK138 _) (fun _ _ h => h) ?_
  refine WC.seqD fun K139 hK139 => ?_
  -- region 3 (draws)
  refine WC.quietS st ty_mixed (by kernel_rfl) fun Kq hKq => ?_
  -- R3.0 11 := disk.go:246 move
  refine QL.v (fun w st => by first | exact r_move (v := .pointer _) rfl | exact r_move rfl) rfl rfl rfl ?_
  -- R3.1 12 := disk.go:246 nilCheck
  refine QL.v (fun w st => by exact r_nilCheck rfl) rfl rfl rfl ?_
  -- R3.2 13 := disk.go:246 fieldAddr
  refine QL.v (fun w st => by exact r_field ty_fld97_5 rfl) rfl rfl rfl ?_
  -- R3.3 14 := disk.go:246 load
  refine QL.v (fun w st => by exact r_load1 ty_one2 rfl (by first | assumption | exact st.c0 (by first | decide | omega) | exact st.c1 (by first | decide | omega) | exact st.c2 (by first | decide | omega) | exact st.c3 (by first | decide | omega) | exact st.c4 (by first | decide | omega) | exact st.c5 (by first | decide | omega) | exact st.c6 (by first | decide | omega) | exact st.c7 (by first | decide | omega) | exact st.c8 (by first | decide | omega))) rfl rfl rfl ?_
  -- R3.4 15 := disk.go:246 move
  refine QL.v (fun w st => by first | exact r_move (v := .pointer _) rfl | exact r_move rfl) rfl rfl rfl ?_
  -- R3.5 16 := disk.go:246 nilCheck
  refine QL.v (fun w st => by exact r_nilCheck rfl) rfl rfl rfl ?_
  -- R3.6 17 := disk.go:246 fieldAddr
  refine QL.v (fun w st => by exact r_field ty_fld97_4 rfl) rfl rfl rfl ?_
  -- R3.7 18 := disk.go:246 load
  refine QL.v (fun w st => by exact r_load1 ty_one4 rfl (by first | assumption | exact st.c0 (by first | decide | omega) | exact st.c1 (by first | decide | omega) | exact st.c2 (by first | decide | omega) | exact st.c3 (by first | decide | omega) | exact st.c4 (by first | decide | omega) | exact st.c5 (by first | decide | omega) | exact st.c6 (by first | decide | omega) | exact st.c7 (by first | decide | omega) | exact st.c8 (by first | decide | omega))) rfl rfl rfl ?_
  -- R3.8 2 := disk.go:246 assign
  refine QL.v (fun w st => by first | exact r_assign (v := .int _ _) rfl | exact r_assign rfl) rfl rfl rfl ?_
  -- R3.9 3 := disk.go:246 assign
  refine QL.v (fun w st => by first | exact r_assign (v := .bool _) rfl | exact r_assign rfl) rfl rfl rfl ?_
  refine QL.wl hKq fun w st => ?_
  refine WL.fin (hK139 _) (fun _ _ h => h) ?_
  refine WC.retD2 Tryd.muLib ty_call48 Tryd.results16 (fun _ _ h => h) rfl (st) (by decide) rfl ?_
  intro w st
  exact ⟨_, rfl, rfl, st_nrm (L' := dC 0 D) rfl st⟩

set_option maxHeartbeats 1000000 in
theorem pending_ok (h1 : D.hd ≤ D.tl) (h2 : D.tl ≤ 1000000000000) (st : S0 w0 (DI D 0 L) w) :
    Calls Tryd.prog 18 #[.pointer (some ⟨D.bD, 0, none⟩)] w (Ret fun v w' => v = .int .i64 ((D.tl - D.hd : Nat) : Int) ∧ S0 w0 (DI D 0 L) w') := by
  refine enterD [.pointer (some ⟨D.bD, 0, none⟩)] Tryd.func18 rfl Tryd.ntmps18 rfl ?_
  show WC _ _ _ 14 [] [(0, .pointer (some ⟨D.bD, 0, none⟩))] _
  refine WC.seqD fun K140 hK140 => ?_
  -- region 0
  refine WC.region ?_
  -- R0.0 2 := disk.go:235 assign
  refine WL.v (by first | exact r_assign (v := .int _ _) rfl | exact r_assign rfl) rfl rfl rfl ?_
  refine WL.fin (hK140 _) (fun _ _ h => h) ?_
  refine WC.seqD fun K141 hK141 => ?_
  -- region 1
  refine WC.region ?_
  -- R1.0 3 := disk.go:236 move
  refine WL.v (by first | exact r_move (v := .pointer _) rfl | exact r_move rfl) rfl rfl rfl ?_
  -- R1.1 4 := disk.go:236 nilCheck
  refine WL.v (by exact r_nilCheck rfl) rfl rfl rfl ?_
  -- R1.2 5 := disk.go:236 fieldAddr
  refine WL.v (by exact r_field ty_fld97_0 rfl) rfl rfl rfl ?_
  -- R1.3 6 := disk.go:236 call
  refine WL.lock Tryd.muLib ty_call47 (st) rfl (by decide) rfl rfl rfl rfl ?_
  intro w st
  refine WL.fin (hK141 _) (fun _ _ h => h) ?_
  refine WC.seqD fun K142 hK142 => ?_
  -- region 2
  refine WC.region ?_
  -- R2.0 7 := disk.go:237 move
  refine WL.v (by first | exact r_move (v := .pointer _) rfl | exact r_move rfl) rfl rfl rfl ?_
  -- R2.1 8 := disk.go:237 nilCheck
  refine WL.v (by exact r_nilCheck rfl) rfl rfl rfl ?_
  -- R2.2 9 := disk.go:237 fieldAddr
  refine WL.v (by exact r_field ty_fld97_0 rfl) rfl rfl rfl ?_
  -- R2.3 None := disk.go:237 defer
  refine WL.defer rfl rfl rfl ?_
  refine WL.fin (hK142 _) (fun _ _ h => h) ?_
  refine WC.seqD fun K143 hK143 => ?_
  -- region 3
  refine WC.region ?_
  -- R3.0 10 := disk.go:238 move
  refine WL.v (by first | exact r_move (v := .pointer _) rfl | exact r_move rfl) rfl rfl rfl ?_
  -- R3.1 11 := disk.go:238 nilCheck
  refine WL.v (by exact r_nilCheck rfl) rfl rfl rfl ?_
  -- R3.2 12 := disk.go:238 fieldAddr
  refine WL.v (by exact r_field ty_fld97_2 rfl) rfl rfl rfl ?_
  -- R3.3 13 := disk.go:238 call
  have st := st_nrm (L' := dC 1 D) rfl st
  refine WL.call (r_call ty_call49 rfl) rfl rfl rfl (len_ok h1 h2 st) ?_
  rintro _ w ⟨rfl, st⟩
  -- R3.4 2 := disk.go:238 assign
  refine WL.v (by first | exact r_assign (v := .int _ _) rfl | exact r_assign rfl) rfl rfl rfl ?_
  refine WL.fin (hK143 _) (fun _ _ h => h) ?_
  refine WC.retD1 Tryd.muLib ty_call48 Tryd.results18 (fun _ _ h => h) rfl (st) (by decide) rfl ?_
  intro w st
  exact ⟨_, rfl, rfl, st_nrm (L' := dC 0 D) rfl st⟩

set_option maxHeartbeats 1000000 in
theorem stats_ok (st : S0 w0 (DI D 0 L) w) :
    Calls Tryd.prog 32 #[.pointer (some ⟨D.bD, 0, none⟩)] w (Ret fun v w' => v = .agg #[.int .i64 (D.sx 0), .int .i64 (D.sx 1), .int .i64 (D.sx 2), .int .i64 (D.sx 3), .int .i64 (D.sx 4), .int .i64 (D.sx 5), .int .i64 (D.sx 6), .int .i64 (D.sx 7)] ∧ S0 w0 (DI D 0 L) w') := by
  refine enterD [.pointer (some ⟨D.bD, 0, none⟩)] Tryd.func32 rfl Tryd.ntmps32 rfl ?_
  show WC _ _ _ 14 [] [(0, .pointer (some ⟨D.bD, 0, none⟩))] _
  refine WC.seqD fun K144 hK144 => ?_
  -- region 0
  refine WC.region ?_
  -- R0.0 2 := disk.go:250 alloc
  refine WL.alloc (m := 8) st ty_zero67 rfl rfl rfl ?_
  intro b2 w st
  refine WL.fin (hK144 _) (fun _ _ h => h) ?_
  refine WC.seqD fun K145 hK145 => ?_
  -- region 1
  refine WC.region ?_
  -- R1.0 3 := disk.go:251 move
  refine WL.v (by first | exact r_move (v := .pointer _) rfl | exact r_move rfl) rfl rfl rfl ?_
  -- R1.1 4 := disk.go:251 nilCheck
  refine WL.v (by exact r_nilCheck rfl) rfl rfl rfl ?_
  -- R1.2 5 := disk.go:251 fieldAddr
  refine WL.v (by exact r_field ty_fld97_0 rfl) rfl rfl rfl ?_
  -- R1.3 6 := disk.go:251 call
  refine WL.lock Tryd.muLib ty_call47 (st.front1) rfl (by decide) rfl rfl rfl rfl ?_
  intro w st
  refine WL.fin (hK145 _) (fun _ _ h => h) ?_
  refine WC.seqD fun K146 hK146 => ?_
  -- region 2
  refine WC.region ?_
  -- R2.0 7 := disk.go:252 move
  refine WL.v (by first | exact r_move (v := .pointer _) rfl | exact r_move rfl) rfl rfl rfl ?_
  -- R2.1 8 := disk.go:252 nilCheck
  refine WL.v (by exact r_nilCheck rfl) rfl rfl rfl ?_
  -- R2.2 9 := disk.go:252 fieldAddr
  refine WL.v (by exact r_field ty_fld97_0 rfl) rfl rfl rfl ?_
  -- R2.3 None := disk.go:252 defer
  refine WL.defer rfl rfl rfl ?_
  refine WL.fin (hK146 _) (fun _ _ h => h) ?_
  refine WC.seqD fun K147 hK147 => ?_
  -- region 3
  refine WC.region ?_
  -- R3.0 10 := disk.go:253 move
  refine WL.v (by first | exact r_move (v := .pointer _) rfl | exact r_move rfl) rfl rfl rfl ?_
  -- R3.1 11 := disk.go:253 nilCheck
  refine WL.v (by exact r_nilCheck rfl) rfl rfl rfl ?_
  -- R3.2 12 := disk.go:253 fieldAddr
  refine WL.v (by exact r_field ty_fld97_7 rfl) rfl rfl rfl ?_
  -- R3.3 13 := disk.go:253 load
  refine WL.v (by exact r_loadL (vs := [_, _, _, _, _, _, _, _]) ty_agg67 rfl ⟨(by first | assumption | exact st.c0 (by first | decide | omega) | exact st.c1 (by first | decide | omega) | exact st.c2 (by first | decide | omega) | exact st.c3 (by first | decide | omega) | exact st.c4 (by first | decide | omega) | exact st.c5 (by first | decide | omega) | exact st.c6 (by first | decide | omega) | exact st.c7 (by first | decide | omega) | exact st.c8 (by first | decide | omega)), (by first | assumption | exact st.c0 (by first | decide | omega) | exact st.c1 (by first | decide | omega) | exact st.c2 (by first | decide | omega) | exact st.c3 (by first | decide | omega) | exact st.c4 (by first | decide | omega) | exact st.c5 (by first | decide | omega) | exact st.c6 (by first | decide | omega) | exact st.c7 (by first | decide | omega) | exact st.c8 (by first | decide | omega)), (by first | assumption | exact st.c0 (by first | decide | omega) | exact st.c1 (by first | decide | omega) | exact st.c2 (by first | decide | omega) | exact st.c3 (by first | decide | omega) | exact st.c4 (by first | decide | omega) | exact st.c5 (by first | decide | omega) | exact st.c6 (by first | decide | omega) | exact st.c7 (by first | decide | omega) | exact st.c8 (by first | decide | omega)), (by first | assumption | exact st.c0 (by first | decide | omega) | exact st.c1 (by first | decide | omega) | exact st.c2 (by first | decide | omega) | exact st.c3 (by first | decide | omega) | exact st.c4 (by first | decide | omega) | exact st.c5 (by first | decide | omega) | exact st.c6 (by first | decide | omega) | exact st.c7 (by first | decide | omega) | exact st.c8 (by first | decide | omega)), (by first | assumption | exact st.c0 (by first | decide | omega) | exact st.c1 (by first | decide | omega) | exact st.c2 (by first | decide | omega) | exact st.c3 (by first | decide | omega) | exact st.c4 (by first | decide | omega) | exact st.c5 (by first | decide | omega) | exact st.c6 (by first | decide | omega) | exact st.c7 (by first | decide | omega) | exact st.c8 (by first | decide | omega)), (by first | assumption | exact st.c0 (by first | decide | omega) | exact st.c1 (by first | decide | omega) | exact st.c2 (by first | decide | omega) | exact st.c3 (by first | decide | omega) | exact st.c4 (by first | decide | omega) | exact st.c5 (by first | decide | omega) | exact st.c6 (by first | decide | omega) | exact st.c7 (by first | decide | omega) | exact st.c8 (by first | decide | omega)), (by first | assumption | exact st.c0 (by first | decide | omega) | exact st.c1 (by first | decide | omega) | exact st.c2 (by first | decide | omega) | exact st.c3 (by first | decide | omega) | exact st.c4 (by first | decide | omega) | exact st.c5 (by first | decide | omega) | exact st.c6 (by first | decide | omega) | exact st.c7 (by first | decide | omega) | exact st.c8 (by first | decide | omega)), (by first | assumption | exact st.c0 (by first | decide | omega) | exact st.c1 (by first | decide | omega) | exact st.c2 (by first | decide | omega) | exact st.c3 (by first | decide | omega) | exact st.c4 (by first | decide | omega) | exact st.c5 (by first | decide | omega) | exact st.c6 (by first | decide | omega) | exact st.c7 (by first | decide | omega) | exact st.c8 (by first | decide | omega)), trivial⟩) rfl rfl rfl ?_
  -- R3.4 None := disk.go:253 store
  first | refine WL.storeW (vs := [_, _, _, _, _, _, _, _]) st ty_agg67 rfl rfl rfl rfl rfl rfl ?_ | refine WL.storeL (vs := [_, _, _, _, _, _, _, _]) st ty_agg67 rfl rfl rfl rfl (by first | decide | omega) rfl rfl ?_ | refine WL.storeW (vs := [_, _, _, _, _, _, _, _]) st.front1 ty_agg67 rfl rfl rfl rfl rfl rfl ?_ | refine WL.storeL (vs := [_, _, _, _, _, _, _, _]) st.front1 ty_agg67 rfl rfl rfl rfl (by first | decide | omega) rfl rfl ?_ | refine WL.storeW (vs := [_, _, _, _, _, _, _, _]) st.front2 ty_agg67 rfl rfl rfl rfl rfl rfl ?_ | refine WL.storeL (vs := [_, _, _, _, _, _, _, _]) st.front2 ty_agg67 rfl rfl rfl rfl (by first | decide | omega) rfl rfl ?_ | refine WL.storeW (vs := [_, _, _, _, _, _, _, _]) st.front3 ty_agg67 rfl rfl rfl rfl rfl rfl ?_ | refine WL.storeL (vs := [_, _, _, _, _, _, _, _]) st.front3 ty_agg67 rfl rfl rfl rfl (by first | decide | omega) rfl rfl ?_ | refine WL.storeW (vs := [_, _, _, _, _, _, _, _]) st.front4 ty_agg67 rfl rfl rfl rfl rfl rfl ?_ | refine WL.storeL (vs := [_, _, _, _, _, _, _, _]) st.front4 ty_agg67 rfl rfl rfl rfl (by first | decide | omega) rfl rfl ?_ | refine WL.storeW (vs := [_, _, _, _, _, _, _, _]) st.front5 ty_agg67 rfl rfl rfl rfl rfl rfl ?_ | refine WL.storeL (vs := [_, _, _, _, _, _, _, _]) st.front5 ty_agg67 rfl rfl rfl rfl (by first | decide | omega) rfl rfl ?_ | refine WL.storeW (vs := [_, _, _, _, _, _, _, _]) st.front6 ty_agg67 rfl rfl rfl rfl rfl rfl ?_ | refine WL.storeL (vs := [_, _, _, _, _, _, _, _]) st.front6 ty_agg67 rfl rfl rfl rfl (by first | decide | omega) rfl rfl ?_ | refine WL.storeW (vs := [_, _, _, _, _, _, _, _]) st.front7 ty_agg67 rfl rfl rfl rfl rfl rfl ?_ | refine WL.storeL (vs := [_, _, _, _, _, _, _, _]) st.front7 ty_agg67 rfl rfl rfl rfl (by first | decide | omega) rfl rfl ?_ | refine WL.storeW (vs := [_, _, _, _, _, _, _, _]) st.front8 ty_agg67 rfl rfl rfl rfl rfl rfl ?_ | refine WL.storeL (vs := [_, _, _, _, _, _, _, _]) st.front8 ty_agg67 rfl rfl rfl rfl (by first | decide | omega) rfl rfl ?_
  intro w st
  refine WL.fin (hK147 _) (fun _ _ h => h) ?_
  refine WC.retDC (vs := [_, _, _, _, _, _, _, _]) Tryd.muLib ty_call48 Tryd.results32 (fun _ _ h => h) rfl ty_agg67 rfl (st.front1) (by decide) rfl (fun w st => ⟨(by first | assumption | exact st.c0 (by first | decide | omega) | exact st.c1 (by first | decide | omega) | exact st.c2 (by first | decide | omega) | exact st.c3 (by first | decide | omega) | exact st.c4 (by first | decide | omega) | exact st.c5 (by first | decide | omega) | exact st.c6 (by first | decide | omega) | exact st.c7 (by first | decide | omega) | exact st.c8 (by first | decide | omega)), (by first | assumption | exact st.c0 (by first | decide | omega) | exact st.c1 (by first | decide | omega) | exact st.c2 (by first | decide | omega) | exact st.c3 (by first | decide | omega) | exact st.c4 (by first | decide | omega) | exact st.c5 (by first | decide | omega) | exact st.c6 (by first | decide | omega) | exact st.c7 (by first | decide | omega) | exact st.c8 (by first | decide | omega)), (by first | assumption | exact st.c0 (by first | decide | omega) | exact st.c1 (by first | decide | omega) | exact st.c2 (by first | decide | omega) | exact st.c3 (by first | decide | omega) | exact st.c4 (by first | decide | omega) | exact st.c5 (by first | decide | omega) | exact st.c6 (by first | decide | omega) | exact st.c7 (by first | decide | omega) | exact st.c8 (by first | decide | omega)), (by first | assumption | exact st.c0 (by first | decide | omega) | exact st.c1 (by first | decide | omega) | exact st.c2 (by first | decide | omega) | exact st.c3 (by first | decide | omega) | exact st.c4 (by first | decide | omega) | exact st.c5 (by first | decide | omega) | exact st.c6 (by first | decide | omega) | exact st.c7 (by first | decide | omega) | exact st.c8 (by first | decide | omega)), (by first | assumption | exact st.c0 (by first | decide | omega) | exact st.c1 (by first | decide | omega) | exact st.c2 (by first | decide | omega) | exact st.c3 (by first | decide | omega) | exact st.c4 (by first | decide | omega) | exact st.c5 (by first | decide | omega) | exact st.c6 (by first | decide | omega) | exact st.c7 (by first | decide | omega) | exact st.c8 (by first | decide | omega)), (by first | assumption | exact st.c0 (by first | decide | omega) | exact st.c1 (by first | decide | omega) | exact st.c2 (by first | decide | omega) | exact st.c3 (by first | decide | omega) | exact st.c4 (by first | decide | omega) | exact st.c5 (by first | decide | omega) | exact st.c6 (by first | decide | omega) | exact st.c7 (by first | decide | omega) | exact st.c8 (by first | decide | omega)), (by first | assumption | exact st.c0 (by first | decide | omega) | exact st.c1 (by first | decide | omega) | exact st.c2 (by first | decide | omega) | exact st.c3 (by first | decide | omega) | exact st.c4 (by first | decide | omega) | exact st.c5 (by first | decide | omega) | exact st.c6 (by first | decide | omega) | exact st.c7 (by first | decide | omega) | exact st.c8 (by first | decide | omega)), (by first | assumption | exact st.c0 (by first | decide | omega) | exact st.c1 (by first | decide | omega) | exact st.c2 (by first | decide | omega) | exact st.c3 (by first | decide | omega) | exact st.c4 (by first | decide | omega) | exact st.c5 (by first | decide | omega) | exact st.c6 (by first | decide | omega) | exact st.c7 (by first | decide | omega) | exact st.c8 (by first | decide | omega)), trivial⟩) ?_
  intro w st
  exact ⟨_, rfl, rfl, st_nrm (L' := dC 0 D) rfl st.drop1⟩

def disD (D : DK) : DK := { D with armed := false, fuse := 0, kv := .slice none 0 0, XK := [], tear := 0, tb := 0 }
theorem di_noXK {f : Nat → Value} (st : S0 w0 ((D.bD, Row 97 23 f) :: (DI D m L).tail) w) : S0 w0 ((D.bD, Row 97 23 f) :: (DI (disD D) m L).tail) w := by
  refine st.sublist ?_
  show List.Sublist (_ :: _ :: _ :: _ :: ([] ++ _)) (_ :: _ :: _ :: _ :: (D.XK ++ _))
  exact ((((List.sublist_append_right _ _).cons_cons _).cons_cons _).cons_cons _).cons_cons _
set_option maxHeartbeats 1000000 in
theorem disarm_ok (st : S0 w0 (DI D m L) w) :
    Calls Tryd.prog 64 #[.pointer (some ⟨D.bD, 0, none⟩)] w (Ret fun v w' => S0 w0 (DI (disD D) m L) w') := by
  refine enter [.pointer (some ⟨D.bD, 0, none⟩)] Tryd.func64 rfl Tryd.ntmps64 rfl ?_
  show WC _ _ _ 12 [] [(0, .pointer (some ⟨D.bD, 0, none⟩))] _
  refine WC.seq fun K148 hK148 => ?_
  -- region 0
  refine WC.region ?_
  -- R0.0 2 := disk.go:257 move
  refine WL.v (by first | exact r_move (v := .pointer _) rfl | exact r_move rfl) rfl rfl rfl ?_
  -- R0.1 3 := disk.go:257 nilCheck
  refine WL.v (by exact r_nilCheck rfl) rfl rfl rfl ?_
  -- R0.2 4 := disk.go:257 fieldAddr
  refine WL.v (by exact r_field ty_fld97_4 rfl) rfl rfl rfl ?_
  -- R0.3 None := disk.go:257 store
  first | refine WL.store (v := .bool _) st ty_one4 rfl rfl rfl (by first | decide | omega) rfl rfl ?_ | refine WL.store (v := _) st ty_one4 rfl rfl rfl (by first | decide | omega) rfl rfl ?_ | refine WL.store (v := .bool _) st.front1 ty_one4 rfl rfl rfl (by first | decide | omega) rfl rfl ?_ | refine WL.store (v := _) st.front1 ty_one4 rfl rfl rfl (by first | decide | omega) rfl rfl ?_ | refine WL.store (v := .bool _) st.front2 ty_one4 rfl rfl rfl (by first | decide | omega) rfl rfl ?_ | refine WL.store (v := _) st.front2 ty_one4 rfl rfl rfl (by first | decide | omega) rfl rfl ?_ | refine WL.store (v := .bool _) st.front3 ty_one4 rfl rfl rfl (by first | decide | omega) rfl rfl ?_ | refine WL.store (v := _) st.front3 ty_one4 rfl rfl rfl (by first | decide | omega) rfl rfl ?_ | refine WL.store (v := .bool _) st.front4 ty_one4 rfl rfl rfl (by first | decide | omega) rfl rfl ?_ | refine WL.store (v := _) st.front4 ty_one4 rfl rfl rfl (by first | decide | omega) rfl rfl ?_ | refine WL.store (v := .bool _) st.front5 ty_one4 rfl rfl rfl (by first | decide | omega) rfl rfl ?_ | refine WL.store (v := _) st.front5 ty_one4 rfl rfl rfl (by first | decide | omega) rfl rfl ?_ | refine WL.store (v := .bool _) st.front6 ty_one4 rfl rfl rfl (by first | decide | omega) rfl rfl ?_ | refine WL.store (v := _) st.front6 ty_one4 rfl rfl rfl (by first | decide | omega) rfl rfl ?_ | refine WL.store (v := .bool _) st.front7 ty_one4 rfl rfl rfl (by first | decide | omega) rfl rfl ?_ | refine WL.store (v := _) st.front7 ty_one4 rfl rfl rfl (by first | decide | omega) rfl rfl ?_ | refine WL.store (v := .bool _) st.front8 ty_one4 rfl rfl rfl (by first | decide | omega) rfl rfl ?_ | refine WL.store (v := _) st.front8 ty_one4 rfl rfl rfl (by first | decide | omega) rfl rfl ?_
  intro w st
  refine WL.fin hK148 (fun _ _ h => h) ?_
  refine WC.seq fun K149 hK149 => ?_
  -- region 1
  refine WC.region ?_
  -- R1.0 5 := disk.go:258 move
  refine WL.v (by first | exact r_move (v := .pointer _) rfl | exact r_move rfl) rfl rfl rfl ?_
  -- R1.1 6 := disk.go:258 nilCheck
  refine WL.v (by exact r_nilCheck rfl) rfl rfl rfl ?_
  -- R1.2 7 := disk.go:258 fieldAddr
  refine WL.v (by exact r_field ty_fld97_5 rfl) rfl rfl rfl ?_
  -- R1.3 None := disk.go:258 store
  first | refine WL.store (v := .int _ _) st ty_one2 rfl rfl rfl (by first | decide | omega) rfl rfl ?_ | refine WL.store (v := _) st ty_one2 rfl rfl rfl (by first | decide | omega) rfl rfl ?_ | refine WL.store (v := .int _ _) st.front1 ty_one2 rfl rfl rfl (by first | decide | omega) rfl rfl ?_ | refine WL.store (v := _) st.front1 ty_one2 rfl rfl rfl (by first | decide | omega) rfl rfl ?_ | refine WL.store (v := .int _ _) st.front2 ty_one2 rfl rfl rfl (by first | decide | omega) rfl rfl ?_ | refine WL.store (v := _) st.front2 ty_one2 rfl rfl rfl (by first | decide | omega) rfl rfl ?_ | refine WL.store (v := .int _ _) st.front3 ty_one2 rfl rfl rfl (by first | decide | omega) rfl rfl ?_ | refine WL.store (v := _) st.front3 ty_one2 rfl rfl rfl (by first | decide | omega) rfl rfl ?_ | refine WL.store (v := .int _ _) st.front4 ty_one2 rfl rfl rfl (by first | decide | omega) rfl rfl ?_ | refine WL.store (v := _) st.front4 ty_one2 rfl rfl rfl (by first | decide | omega) rfl rfl ?_ | refine WL.store (v := .int _ _) st.front5 ty_one2 rfl rfl rfl (by first | decide | omega) rfl rfl ?_ | refine WL.store (v := _) st.front5 ty_one2 rfl rfl rfl (by first | decide | omega) rfl rfl ?_ | refine WL.store (v := .int _ _) st.front6 ty_one2 rfl rfl rfl (by first | decide | omega) rfl rfl ?_ | refine WL.store (v := _) st.front6 ty_one2 rfl rfl rfl (by first | decide | omega) rfl rfl ?_ | refine WL.store (v := .int _ _) st.front7 ty_one2 rfl rfl rfl (by first | decide | omega) rfl rfl ?_ | refine WL.store (v := _) st.front7 ty_one2 rfl rfl rfl (by first | decide | omega) rfl rfl ?_ | refine WL.store (v := .int _ _) st.front8 ty_one2 rfl rfl rfl (by first | decide | omega) rfl rfl ?_ | refine WL.store (v := _) st.front8 ty_one2 rfl rfl rfl (by first | decide | omega) rfl rfl ?_
  intro w st
  refine WL.fin hK149 (fun _ _ h => h) ?_
  -- region 2
  refine WC.region ?_
  -- R2.0 8 := disk.go:259 move
  refine WL.v (by first | exact r_move (v := .pointer _) rfl | exact r_move rfl) rfl rfl rfl ?_
  -- R2.1 9 := disk.go:259 build
  refine WL.v (by exact r_build (ps := []) (vs := [_, _, _]) ty_pl31 ty_zero31 rfl (fill_nil)) rfl rfl rfl ?_
  -- R2.2 10 := disk.go:259 nilCheck
  refine WL.v (by exact r_nilCheck rfl) rfl rfl rfl ?_
  -- R2.3 11 := disk.go:259 fieldAddr
  refine WL.v (by exact r_field ty_fld97_6 rfl) rfl rfl rfl ?_
  -- R2.4 None := disk.go:259 store
  first | refine WL.storeW (vs := [_, _, _]) st ty_agg31 rfl rfl rfl rfl rfl rfl ?_ | refine WL.storeL (vs := [_, _, _]) st ty_agg31 rfl rfl rfl rfl (by first | decide | omega) rfl rfl ?_ | refine WL.storeW (vs := [_, _, _]) st.front1 ty_agg31 rfl rfl rfl rfl rfl rfl ?_ | refine WL.storeL (vs := [_, _, _]) st.front1 ty_agg31 rfl rfl rfl rfl (by first | decide | omega) rfl rfl ?_ | refine WL.storeW (vs := [_, _, _]) st.front2 ty_agg31 rfl rfl rfl rfl rfl rfl ?_ | refine WL.storeL (vs := [_, _, _]) st.front2 ty_agg31 rfl rfl rfl rfl (by first | decide | omega) rfl rfl ?_ | refine WL.storeW (vs := [_, _, _]) st.front3 ty_agg31 rfl rfl rfl rfl rfl rfl ?_ | refine WL.storeL (vs := [_, _, _]) st.front3 ty_agg31 rfl rfl rfl rfl (by first | decide | omega) rfl rfl ?_ | refine WL.storeW (vs := [_, _, _]) st.front4 ty_agg31 rfl rfl rfl rfl rfl rfl ?_ | refine WL.storeL (vs := [_, _, _]) st.front4 ty_agg31 rfl rfl rfl rfl (by first | decide | omega) rfl rfl ?_ | refine WL.storeW (vs := [_, _, _]) st.front5 ty_agg31 rfl rfl rfl rfl rfl rfl ?_ | refine WL.storeL (vs := [_, _, _]) st.front5 ty_agg31 rfl rfl rfl rfl (by first | decide | omega) rfl rfl ?_ | refine WL.storeW (vs := [_, _, _]) st.front6 ty_agg31 rfl rfl rfl rfl rfl rfl ?_ | refine WL.storeL (vs := [_, _, _]) st.front6 ty_agg31 rfl rfl rfl rfl (by first | decide | omega) rfl rfl ?_ | refine WL.storeW (vs := [_, _, _]) st.front7 ty_agg31 rfl rfl rfl rfl rfl rfl ?_ | refine WL.storeL (vs := [_, _, _]) st.front7 ty_agg31 rfl rfl rfl rfl (by first | decide | omega) rfl rfl ?_ | refine WL.storeW (vs := [_, _, _]) st.front8 ty_agg31 rfl rfl rfl rfl rfl rfl ?_ | refine WL.storeL (vs := [_, _, _]) st.front8 ty_agg31 rfl rfl rfl rfl (by first | decide | omega) rfl rfl ?_
  intro w st
  refine WL.end0 Tryd.results64 (fun _ _ h => h) ?_
  exact ⟨_, rfl, st_nrm (L' := dC m (disD D)) rfl (di_noXK (D := D) (m := m) (L := L) st)⟩
end Go.Proofs.Qxb6500837aDoor

