import Derived.Test.Qxb6500837aDoorD13
set_option linter.unusedVariables false
set_option linter.unusedSimpArgs false
set_option maxRecDepth 20000
namespace Go.Proofs.Qxb6500837aDoor
open Go.RowKit Go.E1 Go.Disk
variable {w0 : World} {L L' l : List HI} {w : World} {D : DK} {m : Int} {P : PD} {q : Obj → Prop}

abbrev hG (w0 : World) : Prop := w0.cell? ⟨0, 0, none⟩ = some (.iface 141 (.agg #[.pointer (some ⟨1, 70, none⟩)]))
abbrev sI (bs b : Nat) : HI := (bs, Row 42 1 (nth [.pointer (some ⟨b, 0, none⟩)]))

theorem di_sub (h : L.Sublist L') : (DI D m L).Sublist (DI D m L') :=
  ((((((h.append_left _).append_left _).append_left _).cons_cons _).cons_cons _).cons_cons _).cons_cons _
theorem di_all : L.Sublist (DI D m L) :=
  (((((List.sublist_append_right _ _).trans (List.sublist_append_right _ _)).trans (List.sublist_append_right _ _)).cons _).cons _ |>.cons _).cons _
theorem st_in3 {x y z : HI} (st : S0 w0 (x :: y :: z :: DI D m L) w) : S0 w0 (DI D m (x :: y :: z :: L)) w :=
  st.perm (((((di_front (L := L) (x := z)).symm.cons y).trans di_front.symm).cons x).trans di_front.symm)
theorem st_out3 {x y z : HI} (st : S0 w0 (DI D m (x :: y :: z :: L)) w) : S0 w0 (x :: y :: z :: DI D m L) w :=
  st.perm (((((di_front (L := L) (x := z)).symm.cons y).trans di_front.symm).cons x).trans di_front.symm).symm

theorem newStage_ok (st : S0 w0 l w) :
    Calls Tryd.prog 11 #[] w (Ret fun v w' => ∃ D bs, v = .pointer (some ⟨bs, 0, none⟩) ∧ Rep D (newP 4096 8192) ∧ S0 w0 (sI bs D.bD :: DI D 0 l) w') := by
  refine enter [] Tryd.func11 rfl Tryd.ntmps11 rfl ?_
  show WC _ _ _ 14 [] [] _
  refine WC.seq fun K408 hK408 => ?_
  -- region 0
  refine WC.region ?_
  -- R0.0 0 := play.go:19 assign
  refine WL.v (by first | exact r_assign (v := .pointer _) rfl | exact r_assign rfl) rfl rfl rfl ?_
  refine WL.fin hK408 (fun _ _ h => h) ?_
  refine WC.seq fun K409 hK409 => ?_
  -- region 1
  refine WC.region ?_
  -- R1.0 4 := play.go:20 build
  refine WL.v (by exact r_build (ps := []) (vs := [_, _]) ty_pl74 ty_zero74 rfl (fill_nil)) rfl rfl rfl ?_
  -- R1.1 5 := play.go:20 call
  refine WL.call (r_call ty_call33 rfl) rfl rfl rfl (new_ok 0 0 st) ?_
  rintro _ w hv
  obtain ⟨P, D, hP, hr, rfl, st⟩ := hv.resolve_right (fun h => by have := h.1; simp [fmtP, orD] at this)
  obtain rfl : newP 4096 8192 = P := Option.some.inj ((show fmtP 0 0 = some (newP 4096 8192) by simp [fmtP, orD]).symm.trans hP)
  -- R1.2 3 := play.go:20 move
  refine WL.v (by first | exact r_move (v := .tuple _) rfl | exact r_move rfl) rfl rfl rfl ?_
  -- R1.3 6 := play.go:20 extract
  refine WL.v (by first | exact r_extract (v := .pointer _) rfl rfl | exact r_extract rfl rfl) rfl rfl rfl ?_
  -- R1.4 7 := play.go:20 extract
  refine WL.v (by first | exact r_extract (v := .nilIface) rfl rfl | exact r_extract (v := .iface _ _) rfl rfl | exact r_extract rfl rfl) rfl rfl rfl ?_
  -- R1.5 1 := play.go:20 assign
  refine WL.v (by first | exact r_assign (v := .pointer _) rfl | exact r_assign rfl) rfl rfl rfl ?_
  -- R1.6 2 := play.go:20 assign
  refine WL.v (by first | exact r_assign (v := .nilIface) rfl | exact r_assign (v := .iface _ _) rfl | exact r_assign rfl) rfl rfl rfl ?_
  refine WL.fin hK409 (fun _ _ h => h) ?_
  refine WC.seq fun K410 hK410 => ?_
  refine WC.seq fun K411 hK411 => ?_
  -- region 2
  refine WC.region ?_
  -- R2.0 8 := play.go:21 move
  refine WL.v (by first | exact r_move (v := .nilIface) rfl | exact r_move (v := .iface _ _) rfl | exact r_move rfl) rfl rfl rfl ?_
  -- R2.1 9 := play.go:21 binOp
  refine WL.v (by first | exact r_nil_neq ty_ifc70 rfl | exact r_some_neq ty_ifc70 rfl) rfl rfl rfl ?_
  refine WL.fin hK411 (fun _ _ h => h) ?_
  refine WC.condF rfl rfl ?_
  refine WC.skipF hK410 (fun _ _ h => h) ?_
  refine WC.seq fun K412 hK412 => ?_
  -- region 4
  refine WC.region ?_
  -- R4.0 11 := play.go:24 move
  refine WL.v (by first | exact r_move (v := .pointer _) rfl | exact r_move rfl) rfl rfl rfl ?_
  -- R4.1 12 := play.go:24 build
  refine WL.v (by exact r_build (ps := [(0, .pointer _)]) (vs := [_]) ty_pl42 ty_zero42 rfl (fill_step (pv := [_]) (cs' := [_]) rfl rfl rfl rfl (fill_nil))) rfl rfl rfl ?_
  -- R4.2 13 := play.go:24 box
  first | refine WL.box (m := 1) (vs := [.pointer _]) st rfl rfl rfl rfl rfl rfl ?_ | refine WL.box (m := 1) (vs := [_]) st rfl rfl rfl rfl rfl rfl ?_ | refine WL.box st rfl rfl rfl rfl rfl rfl ?_
  intro b13 w st
  -- R4.3 0 := play.go:24 assign
  refine WL.v (by first | exact r_assign (v := .pointer _) rfl | exact r_assign rfl) rfl rfl rfl ?_
  refine WL.fin hK412 (fun _ _ h => h) ?_
  refine WC.ret1 Tryd.results11 (fun _ _ h => h) rfl ?_
  exact ⟨_, rfl, D, b13, rfl, hr, st⟩

def bufC (sec : Nat) (cnt : Int) : Nat := if cnt < 0 then 0 else if (sec : Int) + 1 < cnt then sec + 1 else cnt.toNat
theorem bufC_le (sec : Nat) (cnt : Int) : bufC sec cnt ≤ sec + 1 := by
  unfold bufC
  split
  · omega
  · split <;> omega

theorem buffer_ok {bs : Nat} (cnt : Int) (hsec : D.sectors ≤ 65536) (hm : sI bs D.bD ∈ L) (st : S0 w0 (DI D 0 L) w) :
    Calls Tryd.prog 36 #[.pointer (some ⟨bs, 0, none⟩), .int .i64 cnt] w (Ret fun v w' => ∃ bb, v = .slice (some ⟨bb, 0, none⟩) (bufC D.sectors cnt * 512) (bufC D.sectors cnt * 512) ∧ S0 w0 ((bb, Row 5 (bufC D.sectors cnt * 512) (fun _ => .int .u8 0)) :: DI D 0 L) w') := by
  have hb := bufC_le D.sectors cnt
  have hb2 : (bufC D.sectors cnt : Int) = if (D.sectors : Int) + 1 < (if 0 > cnt then 0 else cnt) then (D.sectors : Int) + 1 else (if 0 > cnt then 0 else cnt) := by
    unfold bufC
    by_cases h1 : cnt < 0
    · have e : (if 0 > cnt then (0 : Int) else cnt) = 0 := if_pos h1
      rw [if_pos h1, e, if_neg (by omega)]; rfl
    · have e : (if 0 > cnt then (0 : Int) else cnt) = cnt := if_neg h1
      rw [if_neg h1, e]
      by_cases h2 : (D.sectors : Int) + 1 < cnt
      · rw [if_pos h2, if_pos h2]; omega
      · rw [if_neg h2, if_neg h2]; omega
  obtain ⟨n, hn⟩ : ∃ n, n = bufC D.sectors cnt := ⟨_, rfl⟩
  rw [← hn] at hb hb2 ⊢
  refine enter [.pointer (some ⟨bs, 0, none⟩), .int .i64 cnt] Tryd.func36 rfl Tryd.ntmps36 rfl ?_
  show WC _ _ _ 18 [] [(0, .pointer (some ⟨bs, 0, none⟩)), (1, .int .i64 cnt)] _
  refine WC.seq fun K413 hK413 => ?_
  -- region 0
  refine WC.region ?_
  -- R0.0 4 := play.go:30 assign
  refine WL.v (by first | exact r_assign (v := .slice _ _ _) rfl | exact r_assign rfl) rfl rfl rfl ?_
  refine WL.fin hK413 (fun _ _ h => h) ?_
  refine WC.seq fun K414 hK414 => ?_
  -- region 1
  refine WC.region ?_
  -- R1.0 5 := play.go:31 move
  refine WL.v (by first | exact r_move (v := .int _ _) rfl | exact r_move rfl) rfl rfl rfl ?_
  -- R1.1 6 := play.go:31 call
  refine WL.v (by exact r_max (r := if 0 > cnt then 0 else cnt) rfl rfl rfl) rfl rfl rfl ?_
  -- R1.2 1 := play.go:31 assign
  refine WL.v (by first | exact r_assign (v := .int _ _) rfl | exact r_assign rfl) rfl rfl rfl ?_
  refine WL.fin hK414 (fun _ _ h => h) ?_
  refine WC.seq fun K415 hK415 => ?_
  -- region 2
  refine WC.region ?_
  -- R2.0 7 := play.go:32 move
  refine WL.v (by first | exact r_move (v := .int _ _) rfl | exact r_move rfl) rfl rfl rfl ?_
  -- R2.1 8 := play.go:32 move
  refine WL.v (by first | exact r_move (v := .pointer _) rfl | exact r_move rfl) rfl rfl rfl ?_
  -- R2.2 9 := play.go:32 nilCheck
  refine WL.v (by exact r_nilCheck rfl) rfl rfl rfl ?_
  -- R2.3 10 := play.go:32 fieldAddr
  refine WL.v (by exact r_field ty_fld42_0 rfl) rfl rfl rfl ?_
  -- R2.4 11 := play.go:32 load
  refine WL.v (by exact r_load1 ty_one40 rfl (st.cell (mem_in hm) (by decide))) rfl rfl rfl ?_
  -- R2.5 12 := play.go:32 call
  refine WL.call (r_call ty_call19 rfl) rfl rfl rfl (sectors_ok st) ?_
  rintro _ w ⟨rfl, st⟩
  -- R2.6 13 := play.go:32 binOp
  refine WL.v (by exact r_add (r := (D.sectors : Int) + 1) rfl rfl (wi64 (by omega) (by omega))) rfl rfl rfl ?_
  -- R2.7 14 := play.go:32 call
  refine WL.v (by exact r_min (r := (n : Int)) rfl rfl hb2.symm) rfl rfl rfl ?_
  -- R2.8 1 := play.go:32 assign
  refine WL.v (by first | exact r_assign (v := .int _ _) rfl | exact r_assign rfl) rfl rfl rfl ?_
  refine WL.fin hK415 (fun _ _ h => h) ?_
  refine WC.seq fun K416 hK416 => ?_
  -- region 3
  refine WC.region ?_
  -- R3.0 15 := play.go:33 move
  refine WL.v (by first | exact r_move (v := .int _ _) rfl | exact r_move rfl) rfl rfl rfl ?_
  -- R3.1 16 := play.go:33 binOp
  refine WL.v (by exact r_mul (r := ((n * 512 : Nat) : Int)) rfl rfl ((wi64 (by omega) (by omega)).trans (by omega))) rfl rfl rfl ?_
  -- R3.2 17 := play.go:33 makeSlice
  refine WL.make st ty_mk29 ty_zero5 rfl rfl (by first | rfl | omega) (by first | rfl | omega) (by omega) (by omega) (by omega) rfl rfl rfl rfl ?_
  intro b17 w st
  -- R3.3 4 := play.go:33 assign
  refine WL.v (by first | exact r_assign (v := .slice _ _ _) rfl | exact r_assign rfl) rfl rfl rfl ?_
  refine WL.fin hK416 (fun _ _ h => h) ?_
  refine WC.ret1 Tryd.results36 (fun _ _ h => h) rfl ?_
  exact ⟨_, rfl, b17, rfl, row1 st fun k => by simp [zrow, nth, Nat.mod_one]⟩

/-- A step, plainly. -/
structure OP where
  kind : Int
  sct : Int
  cnt : Int
  cache : Int
  dat : SV
  after : Int
  kp : SV
  tear : Int
  tb : Int
def OP.v (o : OP) : Value := .agg #[.int .i64 o.kind, .int .i64 o.sct, .int .i64 o.cnt, .int .i64 o.cache, .slice o.dat.a o.dat.bs.length o.dat.c, .int .i64 o.after, .slice o.kp.a o.kp.bs.length o.kp.c, .int .i64 o.tear, .int .i64 o.tb]
structure OP.ok (w0 : World) (o : OP) : Prop where
  sct : -9223372036854775808 ≤ o.sct ∧ o.sct ≤ 9223372036854775807
  after : o.after ≤ 9223372036854775807
  dat : o.dat.ok
  datl : o.dat.bs.length ≤ 65536
  datr : o.dat.rd w0
  kp : o.kp.ok
  kpl : o.kp.bs.length ≤ 65536
  kpr : o.kp.rd w0
theorem sv_old {s : SV} (h : s.rd w0) (st : S0 w0 l w) : s.rd w := fun i hi => st.old (fun h => h) (h i hi)

def fmtS (P : PD) (o : OP) : PD × Int := match fmtP o.cnt o.cache with
  | none => (P, 1)
  | some P' => (P', 0)
def stepP (P : PD) (o : OP) : PD × Int :=
  if o.kind = 0 then fmtS P o
  else if o.kind = 1 then writeP P o.sct o.dat.bs
  else if o.kind = 2 then (P, readC P o.sct (bufC P.sec o.cnt * 512))
  else if o.kind = 8 then (P, spanC P.sec o.sct (bufC P.sec o.cnt * 512))
  else if o.kind = 3 then syncP P
  else if o.kind = 4 then crashCP P o.kp.bs o.tear o.tb
  else if o.kind = 5 then armP P o.after o.kp.bs o.tear o.tb
  else if o.kind = 6 then disarmP P
  else if o.kind = 7 then reopenP P
  else (P, 1)
def rdP (P : PD) (o : OP) : Option (Nat × (Nat → Int)) :=
  if o.kind = 2 ∧ (stepP P o).2 = 0 then some (bufC P.sec o.cnt * 512, fun j => settle P.pc P.pend (o.sct.toNat + j / 512) (j % 512))
  else if o.kind = 8 ∧ (stepP P o).2 = 0 then some (bufC P.sec o.cnt * 512, fun j => P.pc (o.sct.toNat + j / 512) (j % 512))
  else none
/-- The data of a result, and what of memory is its own. -/
def RV (d : Option (Nat × (Nat → Int))) (v : Value) (l1 : List HI) : Prop := match d with
  | none => v = .slice none 0 0 ∧ l1 = []
  | some (n, f) => ∃ bb g, v = .slice (some ⟨bb, 0, none⟩) n n ∧ l1 = [(bb, Row 5 n g)] ∧ ∀ j, j < n → g j = .int .u8 (f j)
theorem RV.none : RV .none (.slice .none 0 0) [] := ⟨rfl, rfl⟩

theorem st_out3' {a x y z : HI} (st : S0 w0 (a :: DI D m (x :: y :: z :: L)) w) : S0 w0 (a :: x :: y :: z :: DI D m L) w :=
  st.perm ((((((di_front (L := L) (x := z)).symm.cons y).trans di_front.symm).cons x).trans di_front.symm).symm.cons a)
theorem st_in4 {a x y z : HI} (st : S0 w0 (a :: x :: y :: z :: DI D m L) w) : S0 w0 (DI D m (a :: x :: y :: z :: L)) w :=
  st.perm ((((((((di_front (L := L) (x := z)).symm.cons y).trans di_front.symm).cons x).trans di_front.symm).cons a).trans di_front.symm))
theorem st_out4 {a x y z : HI} (st : S0 w0 (DI D m (a :: x :: y :: z :: L)) w) : S0 w0 (a :: x :: y :: z :: DI D m L) w :=
  st.perm ((((((((di_front (L := L) (x := z)).symm.cons y).trans di_front.symm).cons x).trans di_front.symm).cons a).trans di_front.symm)).symm
theorem st_in2 {x y : HI} (st : S0 w0 (x :: y :: DI D m L) w) : S0 w0 (DI D m (x :: y :: L)) w :=
  st.perm (((di_front (L := L) (x := y)).symm.cons x).trans di_front.symm)


set_option maxHeartbeats 32000000 in
theorem step_ok {bs : Nat} {o : OP} (hg : hG w0) (h : Rep D P) (ho : o.ok w0) (hwr : P.wr + 128 ≤ 1000000000000) (st : S0 w0 (DI D 0 (sI bs D.bD :: L)) w) :
    Calls Tryd.prog 14 #[.pointer (some ⟨bs, 0, none⟩), o.v] w (Ret fun v w' => ∃ D' dv l1, Rep D' (stepP P o).1 ∧ v = .agg #[.int .i64 (stepP P o).2, dv] ∧ RV (rdP P o) dv l1 ∧ S0 w0 (DI D' 0 (sI bs D'.bD :: (l1 ++ L))) w') := by
  have hsec := h.sec; have hs2 := h.s2
  have st := st_out st
  unfold OP.v
  by_cases hk : o.kind = 1
  · skip
    refine enter [.pointer (some ⟨bs, 0, none⟩), .agg #[.int .i64 o.kind, .int .i64 o.sct, .int .i64 o.cnt, .int .i64 o.cache, .slice o.dat.a o.dat.bs.length o.dat.c, .int .i64 o.after, .slice o.kp.a o.kp.bs.length o.kp.c, .int .i64 o.tear, .int .i64 o.tb]] Tryd.func14 rfl Tryd.ntmps14 rfl ?_
    show WC _ _ _ 140 [] [(0, .pointer (some ⟨bs, 0, none⟩)), (1, .agg #[.int .i64 o.kind, .int .i64 o.sct, .int .i64 o.cnt, .int .i64 o.cache, .slice o.dat.a o.dat.bs.length o.dat.c, .int .i64 o.after, .slice o.kp.a o.kp.bs.length o.kp.c, .int .i64 o.tear, .int .i64 o.tb])] _
    refine WC.seq fun K417 hK417 => ?_
    -- region 0
    refine WC.region ?_
    -- R0.0 3 := play.go:37 box
    first | refine WL.box (m := 9) (vs := [.int _ _, .int _ _, .int _ _, .int _ _, .slice _ _ _, .int _ _, .slice _ _ _, .int _ _, .int _ _]) st rfl rfl rfl rfl rfl rfl ?_ | refine WL.box (m := 9) (vs := [_, _, _, _, _, _, _, _, _]) st rfl rfl rfl rfl rfl rfl ?_ | refine WL.box st rfl rfl rfl rfl rfl rfl ?_
    intro b3 w st
    -- R0.1 4 := play.go:37 alloc
    refine WL.alloc (m := 2) st ty_zero37 rfl rfl rfl ?_
    intro b4 w st
    refine WL.fin hK417 (fun _ _ h => h) ?_
    refine WC.seq fun K418 hK418 => ?_
    refine WC.seq fun K419 hK419 => ?_
    -- region 1
    refine WC.region ?_
    -- R1.0 11 := play.go:38 fieldAddr
    refine WL.v (by exact r_field ty_fld33_0 rfl) rfl rfl rfl ?_
    -- R1.1 12 := play.go:38 load
    refine WL.v (by exact r_load1 ty_one28 rfl (by first | assumption | exact st.c0 (by first | decide | omega) | exact st.c1 (by first | decide | omega) | exact st.c2 (by first | decide | omega) | exact st.c3 (by first | decide | omega) | exact st.c4 (by first | decide | omega) | exact st.c5 (by first | decide | omega) | exact st.c6 (by first | decide | omega) | exact st.c7 (by first | decide | omega) | exact st.c8 (by first | decide | omega))) rfl rfl rfl ?_
    refine WL.fin hK419 (fun _ _ h => h) ?_
    refine WC.block ?_
    refine WC.seq fun K420 hK420 => ?_
    -- region 2
    refine WC.region ?_
    -- R2.0 14 := play.go:39 binOp
    refine WL.v (by first | exact r_eql rfl rfl (decide_eq_true (by omega)) | exact r_eql rfl rfl (decide_eq_false (by omega)) | exact r_eql rfl rfl rfl) rfl rfl rfl ?_
    -- R2.1 13 := play.go:39 assign
    refine WL.v (by first | exact r_assign (v := .bool _) rfl | exact r_assign rfl) rfl rfl rfl ?_
    refine WL.fin hK420 (fun _ _ h => h) ?_
    refine WC.condF rfl rfl ?_
    refine WC.seq fun K421 hK421 => ?_
    -- region 7
    refine WC.region ?_
    -- R7.0 34 := play.go:45 binOp
    refine WL.v (by first | exact r_eql rfl rfl (decide_eq_true (by omega)) | exact r_eql rfl rfl (decide_eq_false (by omega)) | exact r_eql rfl rfl rfl) rfl rfl rfl ?_
    -- R7.1 33 := play.go:45 assign
    refine WL.v (by first | exact r_assign (v := .bool _) rfl | exact r_assign rfl) rfl rfl rfl ?_
    refine WL.fin hK421 (fun _ _ h => h) ?_
    refine WC.condT rfl rfl ?_
    refine WC.seq fun K422 hK422 => ?_
    -- region 8 (draws)
    refine WC.tailS 8 st ty_mixed (by kernel_rfl) fun w st Kq hKq => ?_
    -- R8.0 35 := play.go:46 move
    refine SL.v (by first | exact r_move (v := .pointer _) rfl | exact r_move rfl) rfl rfl rfl ?_
    -- R8.1 36 := play.go:46 nilCheck
    refine SL.v (by exact r_nilCheck rfl) rfl rfl rfl ?_
    -- R8.2 37 := play.go:46 fieldAddr
    refine SL.v (by exact r_field ty_fld42_0 rfl) rfl rfl rfl ?_
    -- R8.3 38 := play.go:46 load
    refine SL.v (by exact r_load1 ty_one40 rfl (by first | assumption | exact st.c0 (by first | decide | omega) | exact st.c1 (by first | decide | omega) | exact st.c2 (by first | decide | omega) | exact st.c3 (by first | decide | omega) | exact st.c4 (by first | decide | omega) | exact st.c5 (by first | decide | omega) | exact st.c6 (by first | decide | omega) | exact st.c7 (by first | decide | omega) | exact st.c8 (by first | decide | omega))) rfl rfl rfl ?_
    -- R8.4 39 := play.go:46 fieldAddr
    refine SL.v (by exact r_field ty_fld33_1 rfl) rfl rfl rfl ?_
    -- R8.5 40 := play.go:46 load
    refine SL.v (by exact r_load1 ty_one2 rfl (by first | assumption | exact st.c0 (by first | decide | omega) | exact st.c1 (by first | decide | omega) | exact st.c2 (by first | decide | omega) | exact st.c3 (by first | decide | omega) | exact st.c4 (by first | decide | omega) | exact st.c5 (by first | decide | omega) | exact st.c6 (by first | decide | omega) | exact st.c7 (by first | decide | omega) | exact st.c8 (by first | decide | omega))) rfl rfl rfl ?_
    -- R8.6 41 := play.go:46 fieldAddr
    refine SL.v (by exact r_field ty_fld33_4 rfl) rfl rfl rfl ?_
    -- R8.7 42 := play.go:46 load
    refine SL.v (by exact r_load1 ty_one29 rfl (by first | assumption | exact st.c0 (by first | decide | omega) | exact st.c1 (by first | decide | omega) | exact st.c2 (by first | decide | omega) | exact st.c3 (by first | decide | omega) | exact st.c4 (by first | decide | omega) | exact st.c5 (by first | decide | omega) | exact st.c6 (by first | decide | omega) | exact st.c7 (by first | decide | omega) | exact st.c8 (by first | decide | omega))) rfl rfl rfl ?_
    refine SL.fin hKq ?_
    -- R8.8 43 := play.go:46 call
    have st := st_in3 st
    refine WL.call (r_call ty_call35 rfl) rfl rfl rfl (write_ok h o.sct ho.sct o.dat ho.dat ho.datl (fun l' w' st => sv_old ho.datr st) hwr st) ?_
    rintro _ w ⟨D', l1, eD, h', hev, st⟩
    -- R8.9 44 := play.go:46 call
    refine WL.call (r_call ty_call34 rfl) rfl rfl rfl (codeOf_ok hg hev st) ?_
    rintro _ w ⟨rfl, st⟩
    have st := st_out3 st
    -- R8.10 45 := play.go:46 build
    refine WL.v (by exact r_build (ps := [(0, .int _ _)]) (vs := [_, _]) ty_pl37 ty_zero37 rfl (fill_step (pv := [_]) (cs' := [_, _]) rfl rfl rfl rfl (fill_nil))) rfl rfl rfl ?_
    -- R8.11 None := play.go:46 store
    first | refine WL.storeW (vs := [_, _]) st ty_agg37 rfl rfl rfl rfl rfl rfl ?_ | refine WL.storeL (vs := [_, _]) st ty_agg37 rfl rfl rfl rfl (by first | decide | omega) rfl rfl ?_ | refine WL.storeW (vs := [_, _]) st.front1 ty_agg37 rfl rfl rfl rfl rfl rfl ?_ | refine WL.storeL (vs := [_, _]) st.front1 ty_agg37 rfl rfl rfl rfl (by first | decide | omega) rfl rfl ?_ | refine WL.storeW (vs := [_, _]) st.front2 ty_agg37 rfl rfl rfl rfl rfl rfl ?_ | refine WL.storeL (vs := [_, _]) st.front2 ty_agg37 rfl rfl rfl rfl (by first | decide | omega) rfl rfl ?_ | refine WL.storeW (vs := [_, _]) st.front3 ty_agg37 rfl rfl rfl rfl rfl rfl ?_ | refine WL.storeL (vs := [_, _]) st.front3 ty_agg37 rfl rfl rfl rfl (by first | decide | omega) rfl rfl ?_ | refine WL.storeW (vs := [_, _]) st.front4 ty_agg37 rfl rfl rfl rfl rfl rfl ?_ | refine WL.storeL (vs := [_, _]) st.front4 ty_agg37 rfl rfl rfl rfl (by first | decide | omega) rfl rfl ?_ | refine WL.storeW (vs := [_, _]) st.front5 ty_agg37 rfl rfl rfl rfl rfl rfl ?_ | refine WL.storeL (vs := [_, _]) st.front5 ty_agg37 rfl rfl rfl rfl (by first | decide | omega) rfl rfl ?_ | refine WL.storeW (vs := [_, _]) st.front6 ty_agg37 rfl rfl rfl rfl rfl rfl ?_ | refine WL.storeL (vs := [_, _]) st.front6 ty_agg37 rfl rfl rfl rfl (by first | decide | omega) rfl rfl ?_ | refine WL.storeW (vs := [_, _]) st.front7 ty_agg37 rfl rfl rfl rfl rfl rfl ?_ | refine WL.storeL (vs := [_, _]) st.front7 ty_agg37 rfl rfl rfl rfl (by first | decide | omega) rfl rfl ?_ | refine WL.storeW (vs := [_, _]) st.front8 ty_agg37 rfl rfl rfl rfl rfl rfl ?_ | refine WL.storeL (vs := [_, _]) st.front8 ty_agg37 rfl rfl rfl rfl (by first | decide | omega) rfl rfl ?_
    intro w st
    refine WL.fin hK422 (fun _ _ h => h) ?_
    refine WC.retC (vs := [_, _]) Tryd.results14 (fun _ _ h => h) rfl ty_agg37 rfl ⟨(by first | assumption | exact st.c0 (by first | decide | omega) | exact st.c1 (by first | decide | omega) | exact st.c2 (by first | decide | omega) | exact st.c3 (by first | decide | omega) | exact st.c4 (by first | decide | omega) | exact st.c5 (by first | decide | omega) | exact st.c6 (by first | decide | omega) | exact st.c7 (by first | decide | omega) | exact st.c8 (by first | decide | omega)), (by first | assumption | exact st.c0 (by first | decide | omega) | exact st.c1 (by first | decide | omega) | exact st.c2 (by first | decide | omega) | exact st.c3 (by first | decide | omega) | exact st.c4 (by first | decide | omega) | exact st.c5 (by first | decide | omega) | exact st.c6 (by first | decide | omega) | exact st.c7 (by first | decide | omega) | exact st.c8 (by first | decide | omega)), trivial⟩ ?_
    have e : stepP P o = writeP P o.sct o.dat.bs := by unfold stepP; simp [hk]
    have e2 : rdP P o = none := by unfold rdP; simp [hk]
    rw [e, e2]
    exact ⟨_, rfl, D', _, [], h', rfl, RV.none, by rw [eD]; exact st_in st.drop.drop⟩
  by_cases hk : o.kind = 3
  · skip
    refine enter [.pointer (some ⟨bs, 0, none⟩), .agg #[.int .i64 o.kind, .int .i64 o.sct, .int .i64 o.cnt, .int .i64 o.cache, .slice o.dat.a o.dat.bs.length o.dat.c, .int .i64 o.after, .slice o.kp.a o.kp.bs.length o.kp.c, .int .i64 o.tear, .int .i64 o.tb]] Tryd.func14 rfl Tryd.ntmps14 rfl ?_
    show WC _ _ _ 140 [] [(0, .pointer (some ⟨bs, 0, none⟩)), (1, .agg #[.int .i64 o.kind, .int .i64 o.sct, .int .i64 o.cnt, .int .i64 o.cache, .slice o.dat.a o.dat.bs.length o.dat.c, .int .i64 o.after, .slice o.kp.a o.kp.bs.length o.kp.c, .int .i64 o.tear, .int .i64 o.tb])] _
    refine WC.seq fun K423 hK423 => ?_
    -- region 0
    refine WC.region ?_
    -- R0.0 3 := play.go:37 box
    first | refine WL.box (m := 9) (vs := [.int _ _, .int _ _, .int _ _, .int _ _, .slice _ _ _, .int _ _, .slice _ _ _, .int _ _, .int _ _]) st rfl rfl rfl rfl rfl rfl ?_ | refine WL.box (m := 9) (vs := [_, _, _, _, _, _, _, _, _]) st rfl rfl rfl rfl rfl rfl ?_ | refine WL.box st rfl rfl rfl rfl rfl rfl ?_
    intro b3 w st
    -- R0.1 4 := play.go:37 alloc
    refine WL.alloc (m := 2) st ty_zero37 rfl rfl rfl ?_
    intro b4 w st
    refine WL.fin hK423 (fun _ _ h => h) ?_
    refine WC.seq fun K424 hK424 => ?_
    refine WC.seq fun K425 hK425 => ?_
    -- region 1
    refine WC.region ?_
    -- R1.0 11 := play.go:38 fieldAddr
    refine WL.v (by exact r_field ty_fld33_0 rfl) rfl rfl rfl ?_
    -- R1.1 12 := play.go:38 load
    refine WL.v (by exact r_load1 ty_one28 rfl (by first | assumption | exact st.c0 (by first | decide | omega) | exact st.c1 (by first | decide | omega) | exact st.c2 (by first | decide | omega) | exact st.c3 (by first | decide | omega) | exact st.c4 (by first | decide | omega) | exact st.c5 (by first | decide | omega) | exact st.c6 (by first | decide | omega) | exact st.c7 (by first | decide | omega) | exact st.c8 (by first | decide | omega))) rfl rfl rfl ?_
    refine WL.fin hK425 (fun _ _ h => h) ?_
    refine WC.block ?_
    refine WC.seq fun K426 hK426 => ?_
    -- region 2
    refine WC.region ?_
    -- R2.0 14 := play.go:39 binOp
    refine WL.v (by first | exact r_eql rfl rfl (decide_eq_true (by omega)) | exact r_eql rfl rfl (decide_eq_false (by omega)) | exact r_eql rfl rfl rfl) rfl rfl rfl ?_
    -- R2.1 13 := play.go:39 assign
    refine WL.v (by first | exact r_assign (v := .bool _) rfl | exact r_assign rfl) rfl rfl rfl ?_
    refine WL.fin hK426 (fun _ _ h => h) ?_
    refine WC.condF rfl rfl ?_
    refine WC.seq fun K427 hK427 => ?_
    -- region 7
    refine WC.region ?_
    -- R7.0 34 := play.go:45 binOp
    refine WL.v (by first | exact r_eql rfl rfl (decide_eq_true (by omega)) | exact r_eql rfl rfl (decide_eq_false (by omega)) | exact r_eql rfl rfl rfl) rfl rfl rfl ?_
    -- R7.1 33 := play.go:45 assign
    refine WL.v (by first | exact r_assign (v := .bool _) rfl | exact r_assign rfl) rfl rfl rfl ?_
    refine WL.fin hK427 (fun _ _ h => h) ?_
    refine WC.condF rfl rfl ?_
    refine WC.seq fun K428 hK428 => ?_
    -- region 9
    refine WC.region ?_
    -- R9.0 47 := play.go:47 binOp
    refine WL.v (by first | exact r_eql rfl rfl (decide_eq_true (by omega)) | exact r_eql rfl rfl (decide_eq_false (by omega)) | exact r_eql rfl rfl rfl) rfl rfl rfl ?_
    -- R9.1 46 := play.go:47 assign
    refine WL.v (by first | exact r_assign (v := .bool _) rfl | exact r_assign rfl) rfl rfl rfl ?_
    refine WL.fin hK428 (fun _ _ h => h) ?_
    refine WC.condF rfl rfl ?_
    refine WC.seq fun K429 hK429 => ?_
    -- region 15
    refine WC.region ?_
    -- R15.0 68 := play.go:53 binOp
    refine WL.v (by first | exact r_eql rfl rfl (decide_eq_true (by omega)) | exact r_eql rfl rfl (decide_eq_false (by omega)) | exact r_eql rfl rfl rfl) rfl rfl rfl ?_
    -- R15.1 67 := play.go:53 assign
    refine WL.v (by first | exact r_assign (v := .bool _) rfl | exact r_assign rfl) rfl rfl rfl ?_
    refine WL.fin hK429 (fun _ _ h => h) ?_
    refine WC.condF rfl rfl ?_
    refine WC.seq fun K430 hK430 => ?_
    -- region 21
    refine WC.region ?_
    -- R21.0 89 := play.go:59 binOp
    refine WL.v (by first | exact r_eql rfl rfl (decide_eq_true (by omega)) | exact r_eql rfl rfl (decide_eq_false (by omega)) | exact r_eql rfl rfl rfl) rfl rfl rfl ?_
    -- R21.1 88 := play.go:59 assign
    refine WL.v (by first | exact r_assign (v := .bool _) rfl | exact r_assign rfl) rfl rfl rfl ?_
    refine WL.fin hK430 (fun _ _ h => h) ?_
    refine WC.condT rfl rfl ?_
    refine WC.seq fun K431 hK431 => ?_
    -- region 22
    refine WC.region ?_
    -- R22.0 90 := play.go:60 move
    refine WL.v (by first | exact r_move (v := .pointer _) rfl | exact r_move rfl) rfl rfl rfl ?_
    -- R22.1 91 := play.go:60 nilCheck
    refine WL.v (by exact r_nilCheck rfl) rfl rfl rfl ?_
    -- R22.2 92 := play.go:60 fieldAddr
    refine WL.v (by exact r_field ty_fld42_0 rfl) rfl rfl rfl ?_
    -- R22.3 93 := play.go:60 load
    refine WL.v (by exact r_load1 ty_one40 rfl (by first | assumption | exact st.c0 (by first | decide | omega) | exact st.c1 (by first | decide | omega) | exact st.c2 (by first | decide | omega) | exact st.c3 (by first | decide | omega) | exact st.c4 (by first | decide | omega) | exact st.c5 (by first | decide | omega) | exact st.c6 (by first | decide | omega) | exact st.c7 (by first | decide | omega) | exact st.c8 (by first | decide | omega))) rfl rfl rfl ?_
    -- R22.4 94 := play.go:60 call
    have st := st_in3 st
    refine WL.call (r_call ty_call39 rfl) rfl rfl rfl (sync_ok h st) ?_
    rintro _ w ⟨D', l1, eD, h', hev, st⟩
    -- R22.5 95 := play.go:60 call
    refine WL.call (r_call ty_call34 rfl) rfl rfl rfl (codeOf_ok hg hev st) ?_
    rintro _ w ⟨rfl, st⟩
    have st := st_out3 st
    -- R22.6 96 := play.go:60 build
    refine WL.v (by exact r_build (ps := [(0, .int _ _)]) (vs := [_, _]) ty_pl37 ty_zero37 rfl (fill_step (pv := [_]) (cs' := [_, _]) rfl rfl rfl rfl (fill_nil))) rfl rfl rfl ?_
    -- R22.7 None := play.go:60 store
    first | refine WL.storeW (vs := [_, _]) st ty_agg37 rfl rfl rfl rfl rfl rfl ?_ | refine WL.storeL (vs := [_, _]) st ty_agg37 rfl rfl rfl rfl (by first | decide | omega) rfl rfl ?_ | refine WL.storeW (vs := [_, _]) st.front1 ty_agg37 rfl rfl rfl rfl rfl rfl ?_ | refine WL.storeL (vs := [_, _]) st.front1 ty_agg37 rfl rfl rfl rfl (by first | decide | omega) rfl rfl ?_ | refine WL.storeW (vs := [_, _]) st.front2 ty_agg37 rfl rfl rfl rfl rfl rfl ?_ | refine WL.storeL (vs := [_, _]) st.front2 ty_agg37 rfl rfl rfl rfl (by first | decide | omega) rfl rfl ?_ | refine WL.storeW (vs := [_, _]) st.front3 ty_agg37 rfl rfl rfl rfl rfl rfl ?_ | refine WL.storeL (vs := [_, _]) st.front3 ty_agg37 rfl rfl rfl rfl (by first | decide | omega) rfl rfl ?_ | refine WL.storeW (vs := [_, _]) st.front4 ty_agg37 rfl rfl rfl rfl rfl rfl ?_ | refine WL.storeL (vs := [_, _]) st.front4 ty_agg37 rfl rfl rfl rfl (by first | decide | omega) rfl rfl ?_ | refine WL.storeW (vs := [_, _]) st.front5 ty_agg37 rfl rfl rfl rfl rfl rfl ?_ | refine WL.storeL (vs := [_, _]) st.front5 ty_agg37 rfl rfl rfl rfl (by first | decide | omega) rfl rfl ?_ | refine WL.storeW (vs := [_, _]) st.front6 ty_agg37 rfl rfl rfl rfl rfl rfl ?_ | refine WL.storeL (vs := [_, _]) st.front6 ty_agg37 rfl rfl rfl rfl (by first | decide | omega) rfl rfl ?_ | refine WL.storeW (vs := [_, _]) st.front7 ty_agg37 rfl rfl rfl rfl rfl rfl ?_ | refine WL.storeL (vs := [_, _]) st.front7 ty_agg37 rfl rfl rfl rfl (by first | decide | omega) rfl rfl ?_ | refine WL.storeW (vs := [_, _]) st.front8 ty_agg37 rfl rfl rfl rfl rfl rfl ?_ | refine WL.storeL (vs := [_, _]) st.front8 ty_agg37 rfl rfl rfl rfl (by first | decide | omega) rfl rfl ?_
    intro w st
    refine WL.fin hK431 (fun _ _ h => h) ?_
    refine WC.retC (vs := [_, _]) Tryd.results14 (fun _ _ h => h) rfl ty_agg37 rfl ⟨(by first | assumption | exact st.c0 (by first | decide | omega) | exact st.c1 (by first | decide | omega) | exact st.c2 (by first | decide | omega) | exact st.c3 (by first | decide | omega) | exact st.c4 (by first | decide | omega) | exact st.c5 (by first | decide | omega) | exact st.c6 (by first | decide | omega) | exact st.c7 (by first | decide | omega) | exact st.c8 (by first | decide | omega)), (by first | assumption | exact st.c0 (by first | decide | omega) | exact st.c1 (by first | decide | omega) | exact st.c2 (by first | decide | omega) | exact st.c3 (by first | decide | omega) | exact st.c4 (by first | decide | omega) | exact st.c5 (by first | decide | omega) | exact st.c6 (by first | decide | omega) | exact st.c7 (by first | decide | omega) | exact st.c8 (by first | decide | omega)), trivial⟩ ?_
    have e : stepP P o = syncP P := by unfold stepP; simp [hk]
    have e2 : rdP P o = none := by unfold rdP; simp [hk]
    rw [e, e2]
    exact ⟨_, rfl, D', _, [], h', rfl, RV.none, by rw [eD]; exact st_in st.drop.drop⟩
  by_cases hk : o.kind = 4
  · skip
    refine enter [.pointer (some ⟨bs, 0, none⟩), .agg #[.int .i64 o.kind, .int .i64 o.sct, .int .i64 o.cnt, .int .i64 o.cache, .slice o.dat.a o.dat.bs.length o.dat.c, .int .i64 o.after, .slice o.kp.a o.kp.bs.length o.kp.c, .int .i64 o.tear, .int .i64 o.tb]] Tryd.func14 rfl Tryd.ntmps14 rfl ?_
    show WC _ _ _ 140 [] [(0, .pointer (some ⟨bs, 0, none⟩)), (1, .agg #[.int .i64 o.kind, .int .i64 o.sct, .int .i64 o.cnt, .int .i64 o.cache, .slice o.dat.a o.dat.bs.length o.dat.c, .int .i64 o.after, .slice o.kp.a o.kp.bs.length o.kp.c, .int .i64 o.tear, .int .i64 o.tb])] _
    refine WC.seq fun K432 hK432 => ?_
    -- region 0
    refine WC.region ?_
    -- R0.0 3 := play.go:37 box
    first | refine WL.box (m := 9) (vs := [.int _ _, .int _ _, .int _ _, .int _ _, .slice _ _ _, .int _ _, .slice _ _ _, .int _ _, .int _ _]) st rfl rfl rfl rfl rfl rfl ?_ | refine WL.box (m := 9) (vs := [_, _, _, _, _, _, _, _, _]) st rfl rfl rfl rfl rfl rfl ?_ | refine WL.box st rfl rfl rfl rfl rfl rfl ?_
    intro b3 w st
    -- R0.1 4 := play.go:37 alloc
    refine WL.alloc (m := 2) st ty_zero37 rfl rfl rfl ?_
    intro b4 w st
    refine WL.fin hK432 (fun _ _ h => h) ?_
    refine WC.seq fun K433 hK433 => ?_
    refine WC.seq fun K434 hK434 => ?_
    -- region 1
    refine WC.region ?_
    -- R1.0 11 := play.go:38 fieldAddr
    refine WL.v (by exact r_field ty_fld33_0 rfl) rfl rfl rfl ?_
    -- R1.1 12 := play.go:38 load
    refine WL.v (by exact r_load1 ty_one28 rfl (by first | assumption | exact st.c0 (by first | decide | omega) | exact st.c1 (by first | decide | omega) | exact st.c2 (by first | decide | omega) | exact st.c3 (by first | decide | omega) | exact st.c4 (by first | decide | omega) | exact st.c5 (by first | decide | omega) | exact st.c6 (by first | decide | omega) | exact st.c7 (by first | decide | omega) | exact st.c8 (by first | decide | omega))) rfl rfl rfl ?_
    refine WL.fin hK434 (fun _ _ h => h) ?_
    refine WC.block ?_
    refine WC.seq fun K435 hK435 => ?_
    -- region 2
    refine WC.region ?_
    -- R2.0 14 := play.go:39 binOp
    refine WL.v (by first | exact r_eql rfl rfl (decide_eq_true (by omega)) | exact r_eql rfl rfl (decide_eq_false (by omega)) | exact r_eql rfl rfl rfl) rfl rfl rfl ?_
    -- R2.1 13 := play.go:39 assign
    refine WL.v (by first | exact r_assign (v := .bool _) rfl | exact r_assign rfl) rfl rfl rfl ?_
    refine WL.fin hK435 (fun _ _ h => h) ?_
    refine WC.condF rfl rfl ?_
    refine WC.seq fun K436 hK436 => ?_
    -- region 7
    refine WC.region ?_
    -- R7.0 34 := play.go:45 binOp
    refine WL.v (by first | exact r_eql rfl rfl (decide_eq_true (by omega)) | exact r_eql rfl rfl (decide_eq_false (by omega)) | exact r_eql rfl rfl rfl) rfl rfl rfl ?_
    -- R7.1 33 := play.go:45 assign
    refine WL.v (by first | exact r_assign (v := .bool _) rfl | exact r_assign rfl) rfl rfl rfl ?_
    refine WL.fin hK436 (fun _ _ h => h) ?_
    refine WC.condF rfl rfl ?_
    refine WC.seq fun K437 hK437 => ?_
    -- region 9
    refine WC.region ?_
    -- R9.0 47 := play.go:47 binOp
    refine WL.v (by first | exact r_eql rfl rfl (decide_eq_true (by omega)) | exact r_eql rfl rfl (decide_eq_false (by omega)) | exact r_eql rfl rfl rfl) rfl rfl rfl ?_
    -- R9.1 46 := play.go:47 assign
    refine WL.v (by first | exact r_assign (v := .bool _) rfl | exact r_assign rfl) rfl rfl rfl ?_
    refine WL.fin hK437 (fun _ _ h => h) ?_
    refine WC.condF rfl rfl ?_
    refine WC.seq fun K438 hK438 => ?_
    -- region 15
    refine WC.region ?_
    -- R15.0 68 := play.go:53 binOp
    refine WL.v (by first | exact r_eql rfl rfl (decide_eq_true (by omega)) | exact r_eql rfl rfl (decide_eq_false (by omega)) | exact r_eql rfl rfl rfl) rfl rfl rfl ?_
    -- R15.1 67 := play.go:53 assign
    refine WL.v (by first | exact r_assign (v := .bool _) rfl | exact r_assign rfl) rfl rfl rfl ?_
    refine WL.fin hK438 (fun _ _ h => h) ?_
    refine WC.condF rfl rfl ?_
    refine WC.seq fun K439 hK439 => ?_
    -- region 21
    refine WC.region ?_
    -- R21.0 89 := play.go:59 binOp
    refine WL.v (by first | exact r_eql rfl rfl (decide_eq_true (by omega)) | exact r_eql rfl rfl (decide_eq_false (by omega)) | exact r_eql rfl rfl rfl) rfl rfl rfl ?_
    -- R21.1 88 := play.go:59 assign
    refine WL.v (by first | exact r_assign (v := .bool _) rfl | exact r_assign rfl) rfl rfl rfl ?_
    refine WL.fin hK439 (fun _ _ h => h) ?_
    refine WC.condF rfl rfl ?_
    refine WC.seq fun K440 hK440 => ?_
    -- region 23
    refine WC.region ?_
    -- R23.0 98 := play.go:61 binOp
    refine WL.v (by first | exact r_eql rfl rfl (decide_eq_true (by omega)) | exact r_eql rfl rfl (decide_eq_false (by omega)) | exact r_eql rfl rfl rfl) rfl rfl rfl ?_
    -- R23.1 97 := play.go:61 assign
    refine WL.v (by first | exact r_assign (v := .bool _) rfl | exact r_assign rfl) rfl rfl rfl ?_
    refine WL.fin hK440 (fun _ _ h => h) ?_
    refine WC.condT rfl rfl ?_
    refine WC.seq fun K441 hK441 => ?_
    -- region 24 (draws)
    refine WC.tailS 6 st ty_mixed (by kernel_rfl) fun w st Kq hKq => ?_
    -- R24.0 99 := play.go:62 move
    refine SL.v (by first | exact r_move (v := .pointer _) rfl | exact r_move rfl) rfl rfl rfl ?_
    -- R24.1 100 := play.go:62 nilCheck
    refine SL.v (by exact r_nilCheck rfl) rfl rfl rfl ?_
    -- R24.2 101 := play.go:62 fieldAddr
    refine SL.v (by exact r_field ty_fld42_0 rfl) rfl rfl rfl ?_
    -- R24.3 102 := play.go:62 load
    refine SL.v (by exact r_load1 ty_one40 rfl (by first | assumption | exact st.c0 (by first | decide | omega) | exact st.c1 (by first | decide | omega) | exact st.c2 (by first | decide | omega) | exact st.c3 (by first | decide | omega) | exact st.c4 (by first | decide | omega) | exact st.c5 (by first | decide | omega) | exact st.c6 (by first | decide | omega) | exact st.c7 (by first | decide | omega) | exact st.c8 (by first | decide | omega))) rfl rfl rfl ?_
    -- R24.4 103 := play.go:62 fieldAddr
    refine SL.v (by exact r_field ty_fld33_6 rfl) rfl rfl rfl ?_
    -- R24.5 104 := play.go:62 load
    refine SL.v (by exact r_loadL (vs := [_, _, _]) ty_agg31 rfl ⟨(by first | assumption | exact st.c0 (by first | decide | omega) | exact st.c1 (by first | decide | omega) | exact st.c2 (by first | decide | omega) | exact st.c3 (by first | decide | omega) | exact st.c4 (by first | decide | omega) | exact st.c5 (by first | decide | omega) | exact st.c6 (by first | decide | omega) | exact st.c7 (by first | decide | omega) | exact st.c8 (by first | decide | omega)), (by first | assumption | exact st.c0 (by first | decide | omega) | exact st.c1 (by first | decide | omega) | exact st.c2 (by first | decide | omega) | exact st.c3 (by first | decide | omega) | exact st.c4 (by first | decide | omega) | exact st.c5 (by first | decide | omega) | exact st.c6 (by first | decide | omega) | exact st.c7 (by first | decide | omega) | exact st.c8 (by first | decide | omega)), (by first | assumption | exact st.c0 (by first | decide | omega) | exact st.c1 (by first | decide | omega) | exact st.c2 (by first | decide | omega) | exact st.c3 (by first | decide | omega) | exact st.c4 (by first | decide | omega) | exact st.c5 (by first | decide | omega) | exact st.c6 (by first | decide | omega) | exact st.c7 (by first | decide | omega) | exact st.c8 (by first | decide | omega)), trivial⟩) rfl rfl rfl ?_
    refine SL.fin hKq ?_
    -- R24.6 105 := play.go:62 call
    have st := st_in3 st
    refine WL.call (r_call ty_call40 rfl) rfl rfl rfl (crashM_ok h o.kp ho.kp ho.kpl o.tear o.tb (fun l' w' st => sv_old ho.kpr st) st) ?_
    rintro _ w ⟨D', l1, eD, h', hev, st⟩
    -- R24.7 106 := play.go:62 call
    refine WL.call (r_call ty_call34 rfl) rfl rfl rfl (codeOf_ok hg hev st) ?_
    rintro _ w ⟨rfl, st⟩
    have st := st_out3 st
    -- R24.8 107 := play.go:62 build
    refine WL.v (by exact r_build (ps := [(0, .int _ _)]) (vs := [_, _]) ty_pl37 ty_zero37 rfl (fill_step (pv := [_]) (cs' := [_, _]) rfl rfl rfl rfl (fill_nil))) rfl rfl rfl ?_
    -- R24.9 None := play.go:62 store
    first | refine WL.storeW (vs := [_, _]) st ty_agg37 rfl rfl rfl rfl rfl rfl ?_ | refine WL.storeL (vs := [_, _]) st ty_agg37 rfl rfl rfl rfl (by first | decide | omega) rfl rfl ?_ | refine WL.storeW (vs := [_, _]) st.front1 ty_agg37 rfl rfl rfl rfl rfl rfl ?_ | refine WL.storeL (vs := [_, _]) st.front1 ty_agg37 rfl rfl rfl rfl (by first | decide | omega) rfl rfl ?_ | refine WL.storeW (vs := [_, _]) st.front2 ty_agg37 rfl rfl rfl rfl rfl rfl ?_ | refine WL.storeL (vs := [_, _]) st.front2 ty_agg37 rfl rfl rfl rfl (by first | decide | omega) rfl rfl ?_ | refine WL.storeW (vs := [_, _]) st.front3 ty_agg37 rfl rfl rfl rfl rfl rfl ?_ | refine WL.storeL (vs := [_, _]) st.front3 ty_agg37 rfl rfl rfl rfl (by first | decide | omega) rfl rfl ?_ | refine WL.storeW (vs := [_, _]) st.front4 ty_agg37 rfl rfl rfl rfl rfl rfl ?_ | refine WL.storeL (vs := [_, _]) st.front4 ty_agg37 rfl rfl rfl rfl (by first | decide | omega) rfl rfl ?_ | refine WL.storeW (vs := [_, _]) st.front5 ty_agg37 rfl rfl rfl rfl rfl rfl ?_ | refine WL.storeL (vs := [_, _]) st.front5 ty_agg37 rfl rfl rfl rfl (by first | decide | omega) rfl rfl ?_ | refine WL.storeW (vs := [_, _]) st.front6 ty_agg37 rfl rfl rfl rfl rfl rfl ?_ | refine WL.storeL (vs := [_, _]) st.front6 ty_agg37 rfl rfl rfl rfl (by first | decide | omega) rfl rfl ?_ | refine WL.storeW (vs := [_, _]) st.front7 ty_agg37 rfl rfl rfl rfl rfl rfl ?_ | refine WL.storeL (vs := [_, _]) st.front7 ty_agg37 rfl rfl rfl rfl (by first | decide | omega) rfl rfl ?_ | refine WL.storeW (vs := [_, _]) st.front8 ty_agg37 rfl rfl rfl rfl rfl rfl ?_ | refine WL.storeL (vs := [_, _]) st.front8 ty_agg37 rfl rfl rfl rfl (by first | decide | omega) rfl rfl ?_
    intro w st
    refine WL.fin hK441 (fun _ _ h => h) ?_
    refine WC.retC (vs := [_, _]) Tryd.results14 (fun _ _ h => h) rfl ty_agg37 rfl ⟨(by first | assumption | exact st.c0 (by first | decide | omega) | exact st.c1 (by first | decide | omega) | exact st.c2 (by first | decide | omega) | exact st.c3 (by first | decide | omega) | exact st.c4 (by first | decide | omega) | exact st.c5 (by first | decide | omega) | exact st.c6 (by first | decide | omega) | exact st.c7 (by first | decide | omega) | exact st.c8 (by first | decide | omega)), (by first | assumption | exact st.c0 (by first | decide | omega) | exact st.c1 (by first | decide | omega) | exact st.c2 (by first | decide | omega) | exact st.c3 (by first | decide | omega) | exact st.c4 (by first | decide | omega) | exact st.c5 (by first | decide | omega) | exact st.c6 (by first | decide | omega) | exact st.c7 (by first | decide | omega) | exact st.c8 (by first | decide | omega)), trivial⟩ ?_
    have e : stepP P o = crashCP P o.kp.bs o.tear o.tb := by unfold stepP; simp [hk]
    have e2 : rdP P o = none := by unfold rdP; simp [hk]
    rw [e, e2]
    exact ⟨_, rfl, D', _, [], h', rfl, RV.none, by rw [eD]; exact st_in st.drop.drop⟩
  by_cases hk : o.kind = 5
  · skip
    refine enter [.pointer (some ⟨bs, 0, none⟩), .agg #[.int .i64 o.kind, .int .i64 o.sct, .int .i64 o.cnt, .int .i64 o.cache, .slice o.dat.a o.dat.bs.length o.dat.c, .int .i64 o.after, .slice o.kp.a o.kp.bs.length o.kp.c, .int .i64 o.tear, .int .i64 o.tb]] Tryd.func14 rfl Tryd.ntmps14 rfl ?_
    show WC _ _ _ 140 [] [(0, .pointer (some ⟨bs, 0, none⟩)), (1, .agg #[.int .i64 o.kind, .int .i64 o.sct, .int .i64 o.cnt, .int .i64 o.cache, .slice o.dat.a o.dat.bs.length o.dat.c, .int .i64 o.after, .slice o.kp.a o.kp.bs.length o.kp.c, .int .i64 o.tear, .int .i64 o.tb])] _
    refine WC.seq fun K442 hK442 => ?_
    -- region 0
    refine WC.region ?_
    -- R0.0 3 := play.go:37 box
    first | refine WL.box (m := 9) (vs := [.int _ _, .int _ _, .int _ _, .int _ _, .slice _ _ _, .int _ _, .slice _ _ _, .int _ _, .int _ _]) st rfl rfl rfl rfl rfl rfl ?_ | refine WL.box (m := 9) (vs := [_, _, _, _, _, _, _, _, _]) st rfl rfl rfl rfl rfl rfl ?_ | refine WL.box st rfl rfl rfl rfl rfl rfl ?_
    intro b3 w st
    -- R0.1 4 := play.go:37 alloc
    refine WL.alloc (m := 2) st ty_zero37 rfl rfl rfl ?_
    intro b4 w st
    refine WL.fin hK442 (fun _ _ h => h) ?_
    refine WC.seq fun K443 hK443 => ?_
    refine WC.seq fun K444 hK444 => ?_
    -- region 1
    refine WC.region ?_
    -- R1.0 11 := play.go:38 fieldAddr
    refine WL.v (by exact r_field ty_fld33_0 rfl) rfl rfl rfl ?_
    -- R1.1 12 := play.go:38 load
    refine WL.v (by exact r_load1 ty_one28 rfl (by first | assumption | exact st.c0 (by first | decide | omega) | exact st.c1 (by first | decide | omega) | exact st.c2 (by first | decide | omega) | exact st.c3 (by first | decide | omega) | exact st.c4 (by first | decide | omega) | exact st.c5 (by first | decide | omega) | exact st.c6 (by first | decide | omega) | exact st.c7 (by first | decide | omega) | exact st.c8 (by first | decide | omega))) rfl rfl rfl ?_
    refine WL.fin hK444 (fun _ _ h => h) ?_
    refine WC.block ?_
    refine WC.seq fun K445 hK445 => ?_
    -- region 2
    refine WC.region ?_
    -- R2.0 14 := play.go:39 binOp
    refine WL.v (by first | exact r_eql rfl rfl (decide_eq_true (by omega)) | exact r_eql rfl rfl (decide_eq_false (by omega)) | exact r_eql rfl rfl rfl) rfl rfl rfl ?_
    -- R2.1 13 := play.go:39 assign
    refine WL.v (by first | exact r_assign (v := .bool _) rfl | exact r_assign rfl) rfl rfl rfl ?_
    refine WL.fin hK445 (fun _ _ h => h) ?_
    refine WC.condF rfl rfl ?_
    refine WC.seq fun K446 hK446 => ?_
    -- region 7
    refine WC.region ?_
    -- R7.0 34 := play.go:45 binOp
    refine WL.v (by first | exact r_eql rfl rfl (decide_eq_true (by omega)) | exact r_eql rfl rfl (decide_eq_false (by omega)) | exact r_eql rfl rfl rfl) rfl rfl rfl ?_
    -- R7.1 33 := play.go:45 assign
    refine WL.v (by first | exact r_assign (v := .bool _) rfl | exact r_assign rfl) rfl rfl rfl ?_
    refine WL.fin hK446 (fun _ _ h => h) ?_
    refine WC.condF rfl rfl ?_
    refine WC.seq fun K447 hK447 => ?_
    -- region 9
    refine WC.region ?_
    -- R9.0 47 := play.go:47 binOp
    refine WL.v (by first | exact r_eql rfl rfl (decide_eq_true (by omega)) | exact r_eql rfl rfl (decide_eq_false (by omega)) | exact r_eql rfl rfl rfl) rfl rfl rfl ?_
    -- R9.1 46 := play.go:47 assign
    refine WL.v (by first | exact r_assign (v := .bool _) rfl | exact r_assign rfl) rfl rfl rfl ?_
    refine WL.fin hK447 (fun _ _ h => h) ?_
    refine WC.condF rfl rfl ?_
    refine WC.seq fun K448 hK448 => ?_
    -- region 15
    refine WC.region ?_
    -- R15.0 68 := play.go:53 binOp
    refine WL.v (by first | exact r_eql rfl rfl (decide_eq_true (by omega)) | exact r_eql rfl rfl (decide_eq_false (by omega)) | exact r_eql rfl rfl rfl) rfl rfl rfl ?_
    -- R15.1 67 := play.go:53 assign
    refine WL.v (by first | exact r_assign (v := .bool _) rfl | exact r_assign rfl) rfl rfl rfl ?_
    refine WL.fin hK448 (fun _ _ h => h) ?_
    refine WC.condF rfl rfl ?_
    refine WC.seq fun K449 hK449 => ?_
    -- region 21
    refine WC.region ?_
    -- R21.0 89 := play.go:59 binOp
    refine WL.v (by first | exact r_eql rfl rfl (decide_eq_true (by omega)) | exact r_eql rfl rfl (decide_eq_false (by omega)) | exact r_eql rfl rfl rfl) rfl rfl rfl ?_
    -- R21.1 88 := play.go:59 assign
    refine WL.v (by first | exact r_assign (v := .bool _) rfl | exact r_assign rfl) rfl rfl rfl ?_
    refine WL.fin hK449 (fun _ _ h => h) ?_
    refine WC.condF rfl rfl ?_
    refine WC.seq fun K450 hK450 => ?_
    -- region 23
    refine WC.region ?_
    -- R23.0 98 := play.go:61 binOp
    refine WL.v (by first | exact r_eql rfl rfl (decide_eq_true (by omega)) | exact r_eql rfl rfl (decide_eq_false (by omega)) | exact r_eql rfl rfl rfl) rfl rfl rfl ?_
    -- R23.1 97 := play.go:61 assign
    refine WL.v (by first | exact r_assign (v := .bool _) rfl | exact r_assign rfl) rfl rfl rfl ?_
    refine WL.fin hK450 (fun _ _ h => h) ?_
    refine WC.condF rfl rfl ?_
    refine WC.seq fun K451 hK451 => ?_
    -- region 25
    refine WC.region ?_
    -- R25.0 109 := play.go:63 binOp
    refine WL.v (by first | exact r_eql rfl rfl (decide_eq_true (by omega)) | exact r_eql rfl rfl (decide_eq_false (by omega)) | exact r_eql rfl rfl rfl) rfl rfl rfl ?_
    -- R25.1 108 := play.go:63 assign
    refine WL.v (by first | exact r_assign (v := .bool _) rfl | exact r_assign rfl) rfl rfl rfl ?_
    refine WL.fin hK451 (fun _ _ h => h) ?_
    refine WC.condT rfl rfl ?_
    refine WC.seq fun K452 hK452 => ?_
    -- region 26 (draws)
    refine WC.tailS 8 st ty_mixed (by kernel_rfl) fun w st Kq hKq => ?_
    -- R26.0 110 := play.go:64 move
    refine SL.v (by first | exact r_move (v := .pointer _) rfl | exact r_move rfl) rfl rfl rfl ?_
    -- R26.1 111 := play.go:64 nilCheck
    refine SL.v (by exact r_nilCheck rfl) rfl rfl rfl ?_
    -- R26.2 112 := play.go:64 fieldAddr
    refine SL.v (by exact r_field ty_fld42_0 rfl) rfl rfl rfl ?_
    -- R26.3 113 := play.go:64 load
    refine SL.v (by exact r_load1 ty_one40 rfl (by first | assumption | exact st.c0 (by first | decide | omega) | exact st.c1 (by first | decide | omega) | exact st.c2 (by first | decide | omega) | exact st.c3 (by first | decide | omega) | exact st.c4 (by first | decide | omega) | exact st.c5 (by first | decide | omega) | exact st.c6 (by first | decide | omega) | exact st.c7 (by first | decide | omega) | exact st.c8 (by first | decide | omega))) rfl rfl rfl ?_
    -- R26.4 114 := play.go:64 fieldAddr
    refine SL.v (by exact r_field ty_fld33_5 rfl) rfl rfl rfl ?_
    -- R26.5 115 := play.go:64 load
    refine SL.v (by exact r_load1 ty_one2 rfl (by first | assumption | exact st.c0 (by first | decide | omega) | exact st.c1 (by first | decide | omega) | exact st.c2 (by first | decide | omega) | exact st.c3 (by first | decide | omega) | exact st.c4 (by first | decide | omega) | exact st.c5 (by first | decide | omega) | exact st.c6 (by first | decide | omega) | exact st.c7 (by first | decide | omega) | exact st.c8 (by first | decide | omega))) rfl rfl rfl ?_
    -- R26.6 116 := play.go:64 fieldAddr
    refine SL.v (by exact r_field ty_fld33_6 rfl) rfl rfl rfl ?_
    -- R26.7 117 := play.go:64 load
    refine SL.v (by exact r_loadL (vs := [_, _, _]) ty_agg31 rfl ⟨(by first | assumption | exact st.c0 (by first | decide | omega) | exact st.c1 (by first | decide | omega) | exact st.c2 (by first | decide | omega) | exact st.c3 (by first | decide | omega) | exact st.c4 (by first | decide | omega) | exact st.c5 (by first | decide | omega) | exact st.c6 (by first | decide | omega) | exact st.c7 (by first | decide | omega) | exact st.c8 (by first | decide | omega)), (by first | assumption | exact st.c0 (by first | decide | omega) | exact st.c1 (by first | decide | omega) | exact st.c2 (by first | decide | omega) | exact st.c3 (by first | decide | omega) | exact st.c4 (by first | decide | omega) | exact st.c5 (by first | decide | omega) | exact st.c6 (by first | decide | omega) | exact st.c7 (by first | decide | omega) | exact st.c8 (by first | decide | omega)), (by first | assumption | exact st.c0 (by first | decide | omega) | exact st.c1 (by first | decide | omega) | exact st.c2 (by first | decide | omega) | exact st.c3 (by first | decide | omega) | exact st.c4 (by first | decide | omega) | exact st.c5 (by first | decide | omega) | exact st.c6 (by first | decide | omega) | exact st.c7 (by first | decide | omega) | exact st.c8 (by first | decide | omega)), trivial⟩) rfl rfl rfl ?_
    refine SL.fin hKq ?_
    -- R26.8 118 := play.go:64 call
    have st := st_in3 st
    refine WL.call (r_call ty_call41 rfl) rfl rfl rfl (arm_ok h o.after ho.after o.kp ho.kp ho.kpl o.tear o.tb (fun l' w' st => sv_old ho.kpr st) st) ?_
    rintro _ w ⟨D', l1, eD, h', hev, st⟩
    -- R26.9 119 := play.go:64 call
    refine WL.call (r_call ty_call34 rfl) rfl rfl rfl (codeOf_ok hg hev st) ?_
    rintro _ w ⟨rfl, st⟩
    have st := st_out3 st
    -- R26.10 120 := play.go:64 build
    refine WL.v (by exact r_build (ps := [(0, .int _ _)]) (vs := [_, _]) ty_pl37 ty_zero37 rfl (fill_step (pv := [_]) (cs' := [_, _]) rfl rfl rfl rfl (fill_nil))) rfl rfl rfl ?_
    -- R26.11 None := play.go:64 store
    first | refine WL.storeW (vs := [_, _]) st ty_agg37 rfl rfl rfl rfl rfl rfl ?_ | refine WL.storeL (vs := [_, _]) st ty_agg37 rfl rfl rfl rfl (by first | decide | omega) rfl rfl ?_ | refine WL.storeW (vs := [_, _]) st.front1 ty_agg37 rfl rfl rfl rfl rfl rfl ?_ | refine WL.storeL (vs := [_, _]) st.front1 ty_agg37 rfl rfl rfl rfl (by first | decide | omega) rfl rfl ?_ | refine WL.storeW (vs := [_, _]) st.front2 ty_agg37 rfl rfl rfl rfl rfl rfl ?_ | refine WL.storeL (vs := [_, _]) st.front2 ty_agg37 rfl rfl rfl rfl (by first | decide | omega) rfl rfl ?_ | refine WL.storeW (vs := [_, _]) st.front3 ty_agg37 rfl rfl rfl rfl rfl rfl ?_ | refine WL.storeL (vs := [_, _]) st.front3 ty_agg37 rfl rfl rfl rfl (by first | decide | omega) rfl rfl ?_ | refine WL.storeW (vs := [_, _]) st.front4 ty_agg37 rfl rfl rfl rfl rfl rfl ?_ | refine WL.storeL (vs := [_, _]) st.front4 ty_agg37 rfl rfl rfl rfl (by first | decide | omega) rfl rfl ?_ | refine WL.storeW (vs := [_, _]) st.front5 ty_agg37 rfl rfl rfl rfl rfl rfl ?_ | refine WL.storeL (vs := [_, _]) st.front5 ty_agg37 rfl rfl rfl rfl (by first | decide | omega) rfl rfl ?_ | refine WL.storeW (vs := [_, _]) st.front6 ty_agg37 rfl rfl rfl rfl rfl rfl ?_ | refine WL.storeL (vs := [_, _]) st.front6 ty_agg37 rfl rfl rfl rfl (by first | decide | omega) rfl rfl ?_ | refine WL.storeW (vs := [_, _]) st.front7 ty_agg37 rfl rfl rfl rfl rfl rfl ?_ | refine WL.storeL (vs := [_, _]) st.front7 ty_agg37 rfl rfl rfl rfl (by first | decide | omega) rfl rfl ?_ | refine WL.storeW (vs := [_, _]) st.front8 ty_agg37 rfl rfl rfl rfl rfl rfl ?_ | refine WL.storeL (vs := [_, _]) st.front8 ty_agg37 rfl rfl rfl rfl (by first | decide | omega) rfl rfl ?_
    intro w st
    refine WL.fin hK452 (fun _ _ h => h) ?_
    refine WC.retC (vs := [_, _]) Tryd.results14 (fun _ _ h => h) rfl ty_agg37 rfl ⟨(by first | assumption | exact st.c0 (by first | decide | omega) | exact st.c1 (by first | decide | omega) | exact st.c2 (by first | decide | omega) | exact st.c3 (by first | decide | omega) | exact st.c4 (by first | decide | omega) | exact st.c5 (by first | decide | omega) | exact st.c6 (by first | decide | omega) | exact st.c7 (by first | decide | omega) | exact st.c8 (by first | decide | omega)), (by first | assumption | exact st.c0 (by first | decide | omega) | exact st.c1 (by first | decide | omega) | exact st.c2 (by first | decide | omega) | exact st.c3 (by first | decide | omega) | exact st.c4 (by first | decide | omega) | exact st.c5 (by first | decide | omega) | exact st.c6 (by first | decide | omega) | exact st.c7 (by first | decide | omega) | exact st.c8 (by first | decide | omega)), trivial⟩ ?_
    have e : stepP P o = armP P o.after o.kp.bs o.tear o.tb := by unfold stepP; simp [hk]
    have e2 : rdP P o = none := by unfold rdP; simp [hk]
    rw [e, e2]
    exact ⟨_, rfl, D', _, [], h', rfl, RV.none, by rw [eD]; exact st_in st.drop.drop⟩
  by_cases hk : o.kind = 6
  · skip
    refine enter [.pointer (some ⟨bs, 0, none⟩), .agg #[.int .i64 o.kind, .int .i64 o.sct, .int .i64 o.cnt, .int .i64 o.cache, .slice o.dat.a o.dat.bs.length o.dat.c, .int .i64 o.after, .slice o.kp.a o.kp.bs.length o.kp.c, .int .i64 o.tear, .int .i64 o.tb]] Tryd.func14 rfl Tryd.ntmps14 rfl ?_
    show WC _ _ _ 140 [] [(0, .pointer (some ⟨bs, 0, none⟩)), (1, .agg #[.int .i64 o.kind, .int .i64 o.sct, .int .i64 o.cnt, .int .i64 o.cache, .slice o.dat.a o.dat.bs.length o.dat.c, .int .i64 o.after, .slice o.kp.a o.kp.bs.length o.kp.c, .int .i64 o.tear, .int .i64 o.tb])] _
    refine WC.seq fun K453 hK453 => ?_
    -- region 0
    refine WC.region ?_
    -- R0.0 3 := play.go:37 box
    first | refine WL.box (m := 9) (vs := [.int _ _, .int _ _, .int _ _, .int _ _, .slice _ _ _, .int _ _, .slice _ _ _, .int _ _, .int _ _]) st rfl rfl rfl rfl rfl rfl ?_ | refine WL.box (m := 9) (vs := [_, _, _, _, _, _, _, _, _]) st rfl rfl rfl rfl rfl rfl ?_ | refine WL.box st rfl rfl rfl rfl rfl rfl ?_
    intro b3 w st
    -- R0.1 4 := play.go:37 alloc
    refine WL.alloc (m := 2) st ty_zero37 rfl rfl rfl ?_
    intro b4 w st
    refine WL.fin hK453 (fun _ _ h => h) ?_
    refine WC.seq fun K454 hK454 => ?_
    refine WC.seq fun K455 hK455 => ?_
    -- region 1
    refine WC.region ?_
    -- R1.0 11 := play.go:38 fieldAddr
    refine WL.v (by exact r_field ty_fld33_0 rfl) rfl rfl rfl ?_
    -- R1.1 12 := play.go:38 load
    refine WL.v (by exact r_load1 ty_one28 rfl (by first | assumption | exact st.c0 (by first | decide | omega) | exact st.c1 (by first | decide | omega) | exact st.c2 (by first | decide | omega) | exact st.c3 (by first | decide | omega) | exact st.c4 (by first | decide | omega) | exact st.c5 (by first | decide | omega) | exact st.c6 (by first | decide | omega) | exact st.c7 (by first | decide | omega) | exact st.c8 (by first | decide | omega))) rfl rfl rfl ?_
    refine WL.fin hK455 (fun _ _ h => h) ?_
    refine WC.block ?_
    refine WC.seq fun K456 hK456 => ?_
    -- region 2
    refine WC.region ?_
    -- R2.0 14 := play.go:39 binOp
    refine WL.v (by first | exact r_eql rfl rfl (decide_eq_true (by omega)) | exact r_eql rfl rfl (decide_eq_false (by omega)) | exact r_eql rfl rfl rfl) rfl rfl rfl ?_
    -- R2.1 13 := play.go:39 assign
    refine WL.v (by first | exact r_assign (v := .bool _) rfl | exact r_assign rfl) rfl rfl rfl ?_
    refine WL.fin hK456 (fun _ _ h => h) ?_
    refine WC.condF rfl rfl ?_
    refine WC.seq fun K457 hK457 => ?_
    -- region 7
    refine WC.region ?_
    -- R7.0 34 := play.go:45 binOp
    refine WL.v (by first | exact r_eql rfl rfl (decide_eq_true (by omega)) | exact r_eql rfl rfl (decide_eq_false (by omega)) | exact r_eql rfl rfl rfl) rfl rfl rfl ?_
    -- R7.1 33 := play.go:45 assign
    refine WL.v (by first | exact r_assign (v := .bool _) rfl | exact r_assign rfl) rfl rfl rfl ?_
    refine WL.fin hK457 (fun _ _ h => h) ?_
    refine WC.condF rfl rfl ?_
    refine WC.seq fun K458 hK458 => ?_
    -- region 9
    refine WC.region ?_
    -- R9.0 47 := play.go:47 binOp
    refine WL.v (by first | exact r_eql rfl rfl (decide_eq_true (by omega)) | exact r_eql rfl rfl (decide_eq_false (by omega)) | exact r_eql rfl rfl rfl) rfl rfl rfl ?_
    -- R9.1 46 := play.go:47 assign
    refine WL.v (by first | exact r_assign (v := .bool _) rfl | exact r_assign rfl) rfl rfl rfl ?_
    refine WL.fin hK458 (fun _ _ h => h) ?_
    refine WC.condF rfl rfl ?_
    refine WC.seq fun K459 hK459 => ?_
    -- region 15
    refine WC.region ?_
    -- R15.0 68 := play.go:53 binOp
    refine WL.v (by first | exact r_eql rfl rfl (decide_eq_true (by omega)) | exact r_eql rfl rfl (decide_eq_false (by omega)) | exact r_eql rfl rfl rfl) rfl rfl rfl ?_
    -- R15.1 67 := play.go:53 assign
    refine WL.v (by first | exact r_assign (v := .bool _) rfl | exact r_assign rfl) rfl rfl rfl ?_
    refine WL.fin hK459 (fun _ _ h => h) ?_
    refine WC.condF rfl rfl ?_
    refine WC.seq fun K460 hK460 => ?_
    -- region 21
    refine WC.region ?_
    -- R21.0 89 := play.go:59 binOp
    refine WL.v (by first | exact r_eql rfl rfl (decide_eq_true (by omega)) | exact r_eql rfl rfl (decide_eq_false (by omega)) | exact r_eql rfl rfl rfl) rfl rfl rfl ?_
    -- R21.1 88 := play.go:59 assign
    refine WL.v (by first | exact r_assign (v := .bool _) rfl | exact r_assign rfl) rfl rfl rfl ?_
    refine WL.fin hK460 (fun _ _ h => h) ?_
    refine WC.condF rfl rfl ?_
    refine WC.seq fun K461 hK461 => ?_
    -- region 23
    refine WC.region ?_
    -- R23.0 98 := play.go:61 binOp
    refine WL.v (by first | exact r_eql rfl rfl (decide_eq_true (by omega)) | exact r_eql rfl rfl (decide_eq_false (by omega)) | exact r_eql rfl rfl rfl) rfl rfl rfl ?_
    -- R23.1 97 := play.go:61 assign
    refine WL.v (by first | exact r_assign (v := .bool _) rfl | exact r_assign rfl) rfl rfl rfl ?_
    refine WL.fin hK461 (fun _ _ h => h) ?_
    refine WC.condF rfl rfl ?_
    refine WC.seq fun K462 hK462 => ?_
    -- region 25
    refine WC.region ?_
    -- R25.0 109 := play.go:63 binOp
    refine WL.v (by first | exact r_eql rfl rfl (decide_eq_true (by omega)) | exact r_eql rfl rfl (decide_eq_false (by omega)) | exact r_eql rfl rfl rfl) rfl rfl rfl ?_
    -- R25.1 108 := play.go:63 assign
    refine WL.v (by first | exact r_assign (v := .bool _) rfl | exact r_assign rfl) rfl rfl rfl ?_
    refine WL.fin hK462 (fun _ _ h => h) ?_
    refine WC.condF rfl rfl ?_
    refine WC.seq fun K463 hK463 => ?_
    -- region 27
    refine WC.region ?_
    -- R27.0 122 := play.go:65 binOp
    refine WL.v (by first | exact r_eql rfl rfl (decide_eq_true (by omega)) | exact r_eql rfl rfl (decide_eq_false (by omega)) | exact r_eql rfl rfl rfl) rfl rfl rfl ?_
    -- R27.1 121 := play.go:65 assign
    refine WL.v (by first | exact r_assign (v := .bool _) rfl | exact r_assign rfl) rfl rfl rfl ?_
    refine WL.fin hK463 (fun _ _ h => h) ?_
    refine WC.condT rfl rfl ?_
    refine WC.seq fun K464 hK464 => ?_
    -- region 28
    refine WC.region ?_
    -- R28.0 123 := play.go:66 move
    refine WL.v (by first | exact r_move (v := .pointer _) rfl | exact r_move rfl) rfl rfl rfl ?_
    -- R28.1 124 := play.go:66 nilCheck
    refine WL.v (by exact r_nilCheck rfl) rfl rfl rfl ?_
    -- R28.2 125 := play.go:66 fieldAddr
    refine WL.v (by exact r_field ty_fld42_0 rfl) rfl rfl rfl ?_
    -- R28.3 126 := play.go:66 load
    refine WL.v (by exact r_load1 ty_one40 rfl (by first | assumption | exact st.c0 (by first | decide | omega) | exact st.c1 (by first | decide | omega) | exact st.c2 (by first | decide | omega) | exact st.c3 (by first | decide | omega) | exact st.c4 (by first | decide | omega) | exact st.c5 (by first | decide | omega) | exact st.c6 (by first | decide | omega) | exact st.c7 (by first | decide | omega) | exact st.c8 (by first | decide | omega))) rfl rfl rfl ?_
    -- R28.4 127 := play.go:66 call
    have st := st_in3 st
    refine WL.call (r_call ty_call42 rfl) rfl rfl rfl (disarmM_ok h st) ?_
    rintro _ w ⟨D', l1, eD, h', hev, st⟩
    -- R28.5 128 := play.go:66 call
    refine WL.call (r_call ty_call34 rfl) rfl rfl rfl (codeOf_ok hg hev st) ?_
    rintro _ w ⟨rfl, st⟩
    have st := st_out3 st
    -- R28.6 129 := play.go:66 build
    refine WL.v (by exact r_build (ps := [(0, .int _ _)]) (vs := [_, _]) ty_pl37 ty_zero37 rfl (fill_step (pv := [_]) (cs' := [_, _]) rfl rfl rfl rfl (fill_nil))) rfl rfl rfl ?_
    -- R28.7 None := play.go:66 store
    first | refine WL.storeW (vs := [_, _]) st ty_agg37 rfl rfl rfl rfl rfl rfl ?_ | refine WL.storeL (vs := [_, _]) st ty_agg37 rfl rfl rfl rfl (by first | decide | omega) rfl rfl ?_ | refine WL.storeW (vs := [_, _]) st.front1 ty_agg37 rfl rfl rfl rfl rfl rfl ?_ | refine WL.storeL (vs := [_, _]) st.front1 ty_agg37 rfl rfl rfl rfl (by first | decide | omega) rfl rfl ?_ | refine WL.storeW (vs := [_, _]) st.front2 ty_agg37 rfl rfl rfl rfl rfl rfl ?_ | refine WL.storeL (vs := [_, _]) st.front2 ty_agg37 rfl rfl rfl rfl (by first | decide | omega) rfl rfl ?_ | refine WL.storeW (vs := [_, _]) st.front3 ty_agg37 rfl rfl rfl rfl rfl rfl ?_ | refine WL.storeL (vs := [_, _]) st.front3 ty_agg37 rfl rfl rfl rfl (by first | decide | omega) rfl rfl ?_ | refine WL.storeW (vs := [_, _]) st.front4 ty_agg37 rfl rfl rfl rfl rfl rfl ?_ | refine WL.storeL (vs := [_, _]) st.front4 ty_agg37 rfl rfl rfl rfl (by first | decide | omega) rfl rfl ?_ | refine WL.storeW (vs := [_, _]) st.front5 ty_agg37 rfl rfl rfl rfl rfl rfl ?_ | refine WL.storeL (vs := [_, _]) st.front5 ty_agg37 rfl rfl rfl rfl (by first | decide | omega) rfl rfl ?_ | refine WL.storeW (vs := [_, _]) st.front6 ty_agg37 rfl rfl rfl rfl rfl rfl ?_ | refine WL.storeL (vs := [_, _]) st.front6 ty_agg37 rfl rfl rfl rfl (by first | decide | omega) rfl rfl ?_ | refine WL.storeW (vs := [_, _]) st.front7 ty_agg37 rfl rfl rfl rfl rfl rfl ?_ | refine WL.storeL (vs := [_, _]) st.front7 ty_agg37 rfl rfl rfl rfl (by first | decide | omega) rfl rfl ?_ | refine WL.storeW (vs := [_, _]) st.front8 ty_agg37 rfl rfl rfl rfl rfl rfl ?_ | refine WL.storeL (vs := [_, _]) st.front8 ty_agg37 rfl rfl rfl rfl (by first | decide | omega) rfl rfl ?_
    intro w st
    refine WL.fin hK464 (fun _ _ h => h) ?_
    refine WC.retC (vs := [_, _]) Tryd.results14 (fun _ _ h => h) rfl ty_agg37 rfl ⟨(by first | assumption | exact st.c0 (by first | decide | omega) | exact st.c1 (by first | decide | omega) | exact st.c2 (by first | decide | omega) | exact st.c3 (by first | decide | omega) | exact st.c4 (by first | decide | omega) | exact st.c5 (by first | decide | omega) | exact st.c6 (by first | decide | omega) | exact st.c7 (by first | decide | omega) | exact st.c8 (by first | decide | omega)), (by first | assumption | exact st.c0 (by first | decide | omega) | exact st.c1 (by first | decide | omega) | exact st.c2 (by first | decide | omega) | exact st.c3 (by first | decide | omega) | exact st.c4 (by first | decide | omega) | exact st.c5 (by first | decide | omega) | exact st.c6 (by first | decide | omega) | exact st.c7 (by first | decide | omega) | exact st.c8 (by first | decide | omega)), trivial⟩ ?_
    have e : stepP P o = disarmP P := by unfold stepP; simp [hk]
    have e2 : rdP P o = none := by unfold rdP; simp [hk]
    rw [e, e2]
    exact ⟨_, rfl, D', _, [], h', rfl, RV.none, by rw [eD]; exact st_in st.drop.drop⟩
  by_cases hk : o.kind = 7
  · skip
    refine enter [.pointer (some ⟨bs, 0, none⟩), .agg #[.int .i64 o.kind, .int .i64 o.sct, .int .i64 o.cnt, .int .i64 o.cache, .slice o.dat.a o.dat.bs.length o.dat.c, .int .i64 o.after, .slice o.kp.a o.kp.bs.length o.kp.c, .int .i64 o.tear, .int .i64 o.tb]] Tryd.func14 rfl Tryd.ntmps14 rfl ?_
    show WC _ _ _ 140 [] [(0, .pointer (some ⟨bs, 0, none⟩)), (1, .agg #[.int .i64 o.kind, .int .i64 o.sct, .int .i64 o.cnt, .int .i64 o.cache, .slice o.dat.a o.dat.bs.length o.dat.c, .int .i64 o.after, .slice o.kp.a o.kp.bs.length o.kp.c, .int .i64 o.tear, .int .i64 o.tb])] _
    refine WC.seq fun K465 hK465 => ?_
    -- region 0
    refine WC.region ?_
    -- R0.0 3 := play.go:37 box
    first | refine WL.box (m := 9) (vs := [.int _ _, .int _ _, .int _ _, .int _ _, .slice _ _ _, .int _ _, .slice _ _ _, .int _ _, .int _ _]) st rfl rfl rfl rfl rfl rfl ?_ | refine WL.box (m := 9) (vs := [_, _, _, _, _, _, _, _, _]) st rfl rfl rfl rfl rfl rfl ?_ | refine WL.box st rfl rfl rfl rfl rfl rfl ?_
    intro b3 w st
    -- R0.1 4 := play.go:37 alloc
    refine WL.alloc (m := 2) st ty_zero37 rfl rfl rfl ?_
    intro b4 w st
    refine WL.fin hK465 (fun _ _ h => h) ?_
    refine WC.seq fun K466 hK466 => ?_
    refine WC.seq fun K467 hK467 => ?_
    -- region 1
    refine WC.region ?_
    -- R1.0 11 := play.go:38 fieldAddr
    refine WL.v (by exact r_field ty_fld33_0 rfl) rfl rfl rfl ?_
    -- R1.1 12 := play.go:38 load
    refine WL.v (by exact r_load1 ty_one28 rfl (by first | assumption | exact st.c0 (by first | decide | omega) | exact st.c1 (by first | decide | omega) | exact st.c2 (by first | decide | omega) | exact st.c3 (by first | decide | omega) | exact st.c4 (by first | decide | omega) | exact st.c5 (by first | decide | omega) | exact st.c6 (by first | decide | omega) | exact st.c7 (by first | decide | omega) | exact st.c8 (by first | decide | omega))) rfl rfl rfl ?_
    refine WL.fin hK467 (fun _ _ h => h) ?_
    refine WC.block ?_
    refine WC.seq fun K468 hK468 => ?_
    -- region 2
    refine WC.region ?_
    -- R2.0 14 := play.go:39 binOp
    refine WL.v (by first | exact r_eql rfl rfl (decide_eq_true (by omega)) | exact r_eql rfl rfl (decide_eq_false (by omega)) | exact r_eql rfl rfl rfl) rfl rfl rfl ?_
    -- R2.1 13 := play.go:39 assign
    refine WL.v (by first | exact r_assign (v := .bool _) rfl | exact r_assign rfl) rfl rfl rfl ?_
    refine WL.fin hK468 (fun _ _ h => h) ?_
    refine WC.condF rfl rfl ?_
    refine WC.seq fun K469 hK469 => ?_
    -- region 7
    refine WC.region ?_
    -- R7.0 34 := play.go:45 binOp
    refine WL.v (by first | exact r_eql rfl rfl (decide_eq_true (by omega)) | exact r_eql rfl rfl (decide_eq_false (by omega)) | exact r_eql rfl rfl rfl) rfl rfl rfl ?_
    -- R7.1 33 := play.go:45 assign
    refine WL.v (by first | exact r_assign (v := .bool _) rfl | exact r_assign rfl) rfl rfl rfl ?_
    refine WL.fin hK469 (fun _ _ h => h) ?_
    refine WC.condF rfl rfl ?_
    refine WC.seq fun K470 hK470 => ?_
    -- region 9
    refine WC.region ?_
    -- R9.0 47 := play.go:47 binOp
    refine WL.v (by first | exact r_eql rfl rfl (decide_eq_true (by omega)) | exact r_eql rfl rfl (decide_eq_false (by omega)) | exact r_eql rfl rfl rfl) rfl rfl rfl ?_
    -- R9.1 46 := play.go:47 assign
    refine WL.v (by first | exact r_assign (v := .bool _) rfl | exact r_assign rfl) rfl rfl rfl ?_
    refine WL.fin hK470 (fun _ _ h => h) ?_
    refine WC.condF rfl rfl ?_
    refine WC.seq fun K471 hK471 => ?_
    -- region 15
    refine WC.region ?_
    -- R15.0 68 := play.go:53 binOp
    refine WL.v (by first | exact r_eql rfl rfl (decide_eq_true (by omega)) | exact r_eql rfl rfl (decide_eq_false (by omega)) | exact r_eql rfl rfl rfl) rfl rfl rfl ?_
    -- R15.1 67 := play.go:53 assign
    refine WL.v (by first | exact r_assign (v := .bool _) rfl | exact r_assign rfl) rfl rfl rfl ?_
    refine WL.fin hK471 (fun _ _ h => h) ?_
    refine WC.condF rfl rfl ?_
    refine WC.seq fun K472 hK472 => ?_
    -- region 21
    refine WC.region ?_
    -- R21.0 89 := play.go:59 binOp
    refine WL.v (by first | exact r_eql rfl rfl (decide_eq_true (by omega)) | exact r_eql rfl rfl (decide_eq_false (by omega)) | exact r_eql rfl rfl rfl) rfl rfl rfl ?_
    -- R21.1 88 := play.go:59 assign
    refine WL.v (by first | exact r_assign (v := .bool _) rfl | exact r_assign rfl) rfl rfl rfl ?_
    refine WL.fin hK472 (fun _ _ h => h) ?_
    refine WC.condF rfl rfl ?_
    refine WC.seq fun K473 hK473 => ?_
    -- region 23
    refine WC.region ?_
    -- R23.0 98 := play.go:61 binOp
    refine WL.v (by first | exact r_eql rfl rfl (decide_eq_true (by omega)) | exact r_eql rfl rfl (decide_eq_false (by omega)) | exact r_eql rfl rfl rfl) rfl rfl rfl ?_
    -- R23.1 97 := play.go:61 assign
    refine WL.v (by first | exact r_assign (v := .bool _) rfl | exact r_assign rfl) rfl rfl rfl ?_
    refine WL.fin hK473 (fun _ _ h => h) ?_
    refine WC.condF rfl rfl ?_
    refine WC.seq fun K474 hK474 => ?_
    -- region 25
    refine WC.region ?_
    -- R25.0 109 := play.go:63 binOp
    refine WL.v (by first | exact r_eql rfl rfl (decide_eq_true (by omega)) | exact r_eql rfl rfl (decide_eq_false (by omega)) | exact r_eql rfl rfl rfl) rfl rfl rfl ?_
    -- R25.1 108 := play.go:63 assign
    refine WL.v (by first | exact r_assign (v := .bool _) rfl | exact r_assign rfl) rfl rfl rfl ?_
    refine WL.fin hK474 (fun _ _ h => h) ?_
    refine WC.condF rfl rfl ?_
    refine WC.seq fun K475 hK475 => ?_
    -- region 27
    refine WC.region ?_
    -- R27.0 122 := play.go:65 binOp
    refine WL.v (by first | exact r_eql rfl rfl (decide_eq_true (by omega)) | exact r_eql rfl rfl (decide_eq_false (by omega)) | exact r_eql rfl rfl rfl) rfl rfl rfl ?_
    -- R27.1 121 := play.go:65 assign
    refine WL.v (by first | exact r_assign (v := .bool _) rfl | exact r_assign rfl) rfl rfl rfl ?_
    refine WL.fin hK475 (fun _ _ h => h) ?_
    refine WC.condF rfl rfl ?_
    refine WC.seq fun K476 hK476 => ?_
    -- region 29
    refine WC.region ?_
    -- R29.0 131 := play.go:67 binOp
    refine WL.v (by first | exact r_eql rfl rfl (decide_eq_true (by omega)) | exact r_eql rfl rfl (decide_eq_false (by omega)) | exact r_eql rfl rfl rfl) rfl rfl rfl ?_
    -- R29.1 130 := play.go:67 assign
    refine WL.v (by first | exact r_assign (v := .bool _) rfl | exact r_assign rfl) rfl rfl rfl ?_
    refine WL.fin hK476 (fun _ _ h => h) ?_
    refine WC.condT rfl rfl ?_
    refine WC.seq fun K477 hK477 => ?_
    -- region 30
    refine WC.region ?_
    -- R30.0 132 := play.go:68 move
    refine WL.v (by first | exact r_move (v := .pointer _) rfl | exact r_move rfl) rfl rfl rfl ?_
    -- R30.1 133 := play.go:68 nilCheck
    refine WL.v (by exact r_nilCheck rfl) rfl rfl rfl ?_
    -- R30.2 134 := play.go:68 fieldAddr
    refine WL.v (by exact r_field ty_fld42_0 rfl) rfl rfl rfl ?_
    -- R30.3 135 := play.go:68 load
    refine WL.v (by exact r_load1 ty_one40 rfl (by first | assumption | exact st.c0 (by first | decide | omega) | exact st.c1 (by first | decide | omega) | exact st.c2 (by first | decide | omega) | exact st.c3 (by first | decide | omega) | exact st.c4 (by first | decide | omega) | exact st.c5 (by first | decide | omega) | exact st.c6 (by first | decide | omega) | exact st.c7 (by first | decide | omega) | exact st.c8 (by first | decide | omega))) rfl rfl rfl ?_
    -- R30.4 136 := play.go:68 call
    have st := st_in3 st
    refine WL.call (r_call ty_call43 rfl) rfl rfl rfl (reopen_ok h st) ?_
    rintro _ w ⟨D', l1, eD, h', hev, st⟩
    -- R30.5 137 := play.go:68 call
    refine WL.call (r_call ty_call34 rfl) rfl rfl rfl (codeOf_ok hg hev st) ?_
    rintro _ w ⟨rfl, st⟩
    have st := st_out3 st
    -- R30.6 138 := play.go:68 build
    refine WL.v (by exact r_build (ps := [(0, .int _ _)]) (vs := [_, _]) ty_pl37 ty_zero37 rfl (fill_step (pv := [_]) (cs' := [_, _]) rfl rfl rfl rfl (fill_nil))) rfl rfl rfl ?_
    -- R30.7 None := play.go:68 store
    first | refine WL.storeW (vs := [_, _]) st ty_agg37 rfl rfl rfl rfl rfl rfl ?_ | refine WL.storeL (vs := [_, _]) st ty_agg37 rfl rfl rfl rfl (by first | decide | omega) rfl rfl ?_ | refine WL.storeW (vs := [_, _]) st.front1 ty_agg37 rfl rfl rfl rfl rfl rfl ?_ | refine WL.storeL (vs := [_, _]) st.front1 ty_agg37 rfl rfl rfl rfl (by first | decide | omega) rfl rfl ?_ | refine WL.storeW (vs := [_, _]) st.front2 ty_agg37 rfl rfl rfl rfl rfl rfl ?_ | refine WL.storeL (vs := [_, _]) st.front2 ty_agg37 rfl rfl rfl rfl (by first | decide | omega) rfl rfl ?_ | refine WL.storeW (vs := [_, _]) st.front3 ty_agg37 rfl rfl rfl rfl rfl rfl ?_ | refine WL.storeL (vs := [_, _]) st.front3 ty_agg37 rfl rfl rfl rfl (by first | decide | omega) rfl rfl ?_ | refine WL.storeW (vs := [_, _]) st.front4 ty_agg37 rfl rfl rfl rfl rfl rfl ?_ | refine WL.storeL (vs := [_, _]) st.front4 ty_agg37 rfl rfl rfl rfl (by first | decide | omega) rfl rfl ?_ | refine WL.storeW (vs := [_, _]) st.front5 ty_agg37 rfl rfl rfl rfl rfl rfl ?_ | refine WL.storeL (vs := [_, _]) st.front5 ty_agg37 rfl rfl rfl rfl (by first | decide | omega) rfl rfl ?_ | refine WL.storeW (vs := [_, _]) st.front6 ty_agg37 rfl rfl rfl rfl rfl rfl ?_ | refine WL.storeL (vs := [_, _]) st.front6 ty_agg37 rfl rfl rfl rfl (by first | decide | omega) rfl rfl ?_ | refine WL.storeW (vs := [_, _]) st.front7 ty_agg37 rfl rfl rfl rfl rfl rfl ?_ | refine WL.storeL (vs := [_, _]) st.front7 ty_agg37 rfl rfl rfl rfl (by first | decide | omega) rfl rfl ?_ | refine WL.storeW (vs := [_, _]) st.front8 ty_agg37 rfl rfl rfl rfl rfl rfl ?_ | refine WL.storeL (vs := [_, _]) st.front8 ty_agg37 rfl rfl rfl rfl (by first | decide | omega) rfl rfl ?_
    intro w st
    refine WL.fin hK477 (fun _ _ h => h) ?_
    refine WC.retC (vs := [_, _]) Tryd.results14 (fun _ _ h => h) rfl ty_agg37 rfl ⟨(by first | assumption | exact st.c0 (by first | decide | omega) | exact st.c1 (by first | decide | omega) | exact st.c2 (by first | decide | omega) | exact st.c3 (by first | decide | omega) | exact st.c4 (by first | decide | omega) | exact st.c5 (by first | decide | omega) | exact st.c6 (by first | decide | omega) | exact st.c7 (by first | decide | omega) | exact st.c8 (by first | decide | omega)), (by first | assumption | exact st.c0 (by first | decide | omega) | exact st.c1 (by first | decide | omega) | exact st.c2 (by first | decide | omega) | exact st.c3 (by first | decide | omega) | exact st.c4 (by first | decide | omega) | exact st.c5 (by first | decide | omega) | exact st.c6 (by first | decide | omega) | exact st.c7 (by first | decide | omega) | exact st.c8 (by first | decide | omega)), trivial⟩ ?_
    have e : stepP P o = reopenP P := by unfold stepP; simp [hk]
    have e2 : rdP P o = none := by unfold rdP; simp [hk]
    rw [e, e2]
    exact ⟨_, rfl, D', _, [], h', rfl, RV.none, by rw [eD]; exact st_in st.drop.drop⟩
  by_cases hk : o.kind = 2
  · obtain ⟨n, hn⟩ : ∃ n, n = bufC P.sec o.cnt * 512 := ⟨_, rfl⟩
    have hnl : n ≤ 1000000000 := by have := bufC_le P.sec o.cnt; omega
    have e : stepP P o = (P, readC P o.sct n) := by unfold stepP; rw [hn]; simp [hk]
    by_cases hc : readC P o.sct n = 0
    · have e2 : rdP P o = some (n, fun j => settle P.pc P.pend (o.sct.toNat + j / 512) (j % 512)) := by unfold rdP; rw [e, hn]; rw [hn] at hc; simp [hk, hc]
      rw [e, e2]
      refine enter [.pointer (some ⟨bs, 0, none⟩), .agg #[.int .i64 o.kind, .int .i64 o.sct, .int .i64 o.cnt, .int .i64 o.cache, .slice o.dat.a o.dat.bs.length o.dat.c, .int .i64 o.after, .slice o.kp.a o.kp.bs.length o.kp.c, .int .i64 o.tear, .int .i64 o.tb]] Tryd.func14 rfl Tryd.ntmps14 rfl ?_
      show WC _ _ _ 140 [] [(0, .pointer (some ⟨bs, 0, none⟩)), (1, .agg #[.int .i64 o.kind, .int .i64 o.sct, .int .i64 o.cnt, .int .i64 o.cache, .slice o.dat.a o.dat.bs.length o.dat.c, .int .i64 o.after, .slice o.kp.a o.kp.bs.length o.kp.c, .int .i64 o.tear, .int .i64 o.tb])] _
      refine WC.seq fun K478 hK478 => ?_
      -- region 0
      refine WC.region ?_
      -- R0.0 3 := play.go:37 box
      first | refine WL.box (m := 9) (vs := [.int _ _, .int _ _, .int _ _, .int _ _, .slice _ _ _, .int _ _, .slice _ _ _, .int _ _, .int _ _]) st rfl rfl rfl rfl rfl rfl ?_ | refine WL.box (m := 9) (vs := [_, _, _, _, _, _, _, _, _]) st rfl rfl rfl rfl rfl rfl ?_ | refine WL.box st rfl rfl rfl rfl rfl rfl ?_
      intro b3 w st
      -- R0.1 4 := play.go:37 alloc
      refine WL.alloc (m := 2) st ty_zero37 rfl rfl rfl ?_
      intro b4 w st
      refine WL.fin hK478 (fun _ _ h => h) ?_
      refine WC.seq fun K479 hK479 => ?_
      refine WC.seq fun K480 hK480 => ?_
      -- region 1
      refine WC.region ?_
      -- R1.0 11 := play.go:38 fieldAddr
      refine WL.v (by exact r_field ty_fld33_0 rfl) rfl rfl rfl ?_
      -- R1.1 12 := play.go:38 load
      refine WL.v (by exact r_load1 ty_one28 rfl (by first | assumption | exact st.c0 (by first | decide | omega) | exact st.c1 (by first | decide | omega) | exact st.c2 (by first | decide | omega) | exact st.c3 (by first | decide | omega) | exact st.c4 (by first | decide | omega) | exact st.c5 (by first | decide | omega) | exact st.c6 (by first | decide | omega) | exact st.c7 (by first | decide | omega) | exact st.c8 (by first | decide | omega))) rfl rfl rfl ?_
      refine WL.fin hK480 (fun _ _ h => h) ?_
      refine WC.block ?_
      refine WC.seq fun K481 hK481 => ?_
      -- region 2
      refine WC.region ?_
      -- R2.0 14 := play.go:39 binOp
      refine WL.v (by first | exact r_eql rfl rfl (decide_eq_true (by omega)) | exact r_eql rfl rfl (decide_eq_false (by omega)) | exact r_eql rfl rfl rfl) rfl rfl rfl ?_
      -- R2.1 13 := play.go:39 assign
      refine WL.v (by first | exact r_assign (v := .bool _) rfl | exact r_assign rfl) rfl rfl rfl ?_
      refine WL.fin hK481 (fun _ _ h => h) ?_
      refine WC.condF rfl rfl ?_
      refine WC.seq fun K482 hK482 => ?_
      -- region 7
      refine WC.region ?_
      -- R7.0 34 := play.go:45 binOp
      refine WL.v (by first | exact r_eql rfl rfl (decide_eq_true (by omega)) | exact r_eql rfl rfl (decide_eq_false (by omega)) | exact r_eql rfl rfl rfl) rfl rfl rfl ?_
      -- R7.1 33 := play.go:45 assign
      refine WL.v (by first | exact r_assign (v := .bool _) rfl | exact r_assign rfl) rfl rfl rfl ?_
      refine WL.fin hK482 (fun _ _ h => h) ?_
      refine WC.condF rfl rfl ?_
      refine WC.seq fun K483 hK483 => ?_
      -- region 9
      refine WC.region ?_
      -- R9.0 47 := play.go:47 binOp
      refine WL.v (by first | exact r_eql rfl rfl (decide_eq_true (by omega)) | exact r_eql rfl rfl (decide_eq_false (by omega)) | exact r_eql rfl rfl rfl) rfl rfl rfl ?_
      -- R9.1 46 := play.go:47 assign
      refine WL.v (by first | exact r_assign (v := .bool _) rfl | exact r_assign rfl) rfl rfl rfl ?_
      refine WL.fin hK483 (fun _ _ h => h) ?_
      refine WC.condT rfl rfl ?_
      refine WC.seq fun K484 hK484 => ?_
      -- region 10
      refine WC.region ?_
      -- R10.0 48 := play.go:48 move
      refine WL.v (by first | exact r_move (v := .pointer _) rfl | exact r_move rfl) rfl rfl rfl ?_
      -- R10.1 49 := play.go:48 fieldAddr
      refine WL.v (by exact r_field ty_fld33_2 rfl) rfl rfl rfl ?_
      -- R10.2 50 := play.go:48 load
      refine WL.v (by exact r_load1 ty_one2 rfl (by first | assumption | exact st.c0 (by first | decide | omega) | exact st.c1 (by first | decide | omega) | exact st.c2 (by first | decide | omega) | exact st.c3 (by first | decide | omega) | exact st.c4 (by first | decide | omega) | exact st.c5 (by first | decide | omega) | exact st.c6 (by first | decide | omega) | exact st.c7 (by first | decide | omega) | exact st.c8 (by first | decide | omega))) rfl rfl rfl ?_
      -- R10.3 51 := play.go:48 call
      have st := st_in3 st
      refine WL.call (r_call ty_call36 rfl) rfl rfl rfl (buffer_ok o.cnt (by omega) (by simp) st) ?_
      rintro _ w ⟨bb, rfl, st⟩
      rw [hsec, ← hn] at st ⊢
      have st := st_out3' st
      -- R10.4 7 := play.go:48 assign
      refine WL.v (by first | exact r_assign (v := .slice _ _ _) rfl | exact r_assign rfl) rfl rfl rfl ?_
      refine WL.fin hK484 (fun _ _ h => h) ?_
      refine WC.seq fun K485 hK485 => ?_
      refine WC.seq fun K486 hK486 => ?_
      -- region 11 (draws)
      refine WC.tailS 7 st ty_mixed (by kernel_rfl) fun w st Kq hKq => ?_
      -- R11.0 52 := play.go:49 move
      refine SL.v (by first | exact r_move (v := .pointer _) rfl | exact r_move rfl) rfl rfl rfl ?_
      -- R11.1 53 := play.go:49 nilCheck
      refine SL.v (by exact r_nilCheck rfl) rfl rfl rfl ?_
      -- R11.2 54 := play.go:49 fieldAddr
      refine SL.v (by exact r_field ty_fld42_0 rfl) rfl rfl rfl ?_
      -- R11.3 55 := play.go:49 load
      refine SL.v (by exact r_load1 ty_one40 rfl (by first | assumption | exact st.c0 (by first | decide | omega) | exact st.c1 (by first | decide | omega) | exact st.c2 (by first | decide | omega) | exact st.c3 (by first | decide | omega) | exact st.c4 (by first | decide | omega) | exact st.c5 (by first | decide | omega) | exact st.c6 (by first | decide | omega) | exact st.c7 (by first | decide | omega) | exact st.c8 (by first | decide | omega))) rfl rfl rfl ?_
      -- R11.4 56 := play.go:49 fieldAddr
      refine SL.v (by exact r_field ty_fld33_1 rfl) rfl rfl rfl ?_
      -- R11.5 57 := play.go:49 load
      refine SL.v (by exact r_load1 ty_one2 rfl (by first | assumption | exact st.c0 (by first | decide | omega) | exact st.c1 (by first | decide | omega) | exact st.c2 (by first | decide | omega) | exact st.c3 (by first | decide | omega) | exact st.c4 (by first | decide | omega) | exact st.c5 (by first | decide | omega) | exact st.c6 (by first | decide | omega) | exact st.c7 (by first | decide | omega) | exact st.c8 (by first | decide | omega))) rfl rfl rfl ?_
      -- R11.6 58 := play.go:49 move
      refine SL.v (by first | exact r_move (v := .slice _ _ _) rfl | exact r_move rfl) rfl rfl rfl ?_
      refine SL.fin hKq ?_
      -- R11.7 59 := play.go:49 call
      have st := st_in4 st
      refine WL.call (r_call ty_call37 rfl) rfl rfl rfl (read_ok h o.sct ho.sct n bb _ hnl st) ?_
      rintro _ w ⟨D', l1, g', eD, h', hev, hd, st⟩
      obtain ⟨_, rfl, rfl⟩ := hev.resolve_right (fun h => h.1 hc)
      have st := st_out4 st
      -- R11.8 8 := play.go:49 assign
      refine WL.v (by first | exact r_assign (v := .nilIface) rfl | exact r_assign (v := .iface _ _) rfl | exact r_assign rfl) rfl rfl rfl ?_
      refine WL.fin hK486 (fun _ _ h => h) ?_
      refine WC.seq fun K487 hK487 => ?_
      -- region 12
      refine WC.region ?_
      -- R12.0 60 := play.go:49 move
      refine WL.v (by first | exact r_move (v := .nilIface) rfl | exact r_move (v := .iface _ _) rfl | exact r_move rfl) rfl rfl rfl ?_
      -- R12.1 61 := play.go:49 binOp
      refine WL.v (by first | exact r_nil_neq ty_ifc70 rfl | exact r_some_neq ty_ifc70 rfl) rfl rfl rfl ?_
      refine WL.fin hK487 (fun _ _ h => h) ?_
      refine WC.condF rfl rfl ?_
      refine WC.skipF hK485 (fun _ _ h => h) ?_
      refine WC.seq fun K488 hK488 => ?_
      -- region 14
      refine WC.region ?_
      -- R14.0 65 := play.go:52 move
      refine WL.v (by first | exact r_move (v := .slice _ _ _) rfl | exact r_move rfl) rfl rfl rfl ?_
      -- R14.1 66 := play.go:52 build
      refine WL.v (by exact r_build (ps := [(1, .slice _ _ _)]) (vs := [_, _]) ty_pl37 ty_zero37 rfl (fill_step (pv := [_]) (cs' := [_, _]) rfl rfl rfl rfl (fill_nil))) rfl rfl rfl ?_
      -- R14.2 None := play.go:52 store
      first | refine WL.storeW (vs := [_, _]) st ty_agg37 rfl rfl rfl rfl rfl rfl ?_ | refine WL.storeL (vs := [_, _]) st ty_agg37 rfl rfl rfl rfl (by first | decide | omega) rfl rfl ?_ | refine WL.storeW (vs := [_, _]) st.front1 ty_agg37 rfl rfl rfl rfl rfl rfl ?_ | refine WL.storeL (vs := [_, _]) st.front1 ty_agg37 rfl rfl rfl rfl (by first | decide | omega) rfl rfl ?_ | refine WL.storeW (vs := [_, _]) st.front2 ty_agg37 rfl rfl rfl rfl rfl rfl ?_ | refine WL.storeL (vs := [_, _]) st.front2 ty_agg37 rfl rfl rfl rfl (by first | decide | omega) rfl rfl ?_ | refine WL.storeW (vs := [_, _]) st.front3 ty_agg37 rfl rfl rfl rfl rfl rfl ?_ | refine WL.storeL (vs := [_, _]) st.front3 ty_agg37 rfl rfl rfl rfl (by first | decide | omega) rfl rfl ?_ | refine WL.storeW (vs := [_, _]) st.front4 ty_agg37 rfl rfl rfl rfl rfl rfl ?_ | refine WL.storeL (vs := [_, _]) st.front4 ty_agg37 rfl rfl rfl rfl (by first | decide | omega) rfl rfl ?_ | refine WL.storeW (vs := [_, _]) st.front5 ty_agg37 rfl rfl rfl rfl rfl rfl ?_ | refine WL.storeL (vs := [_, _]) st.front5 ty_agg37 rfl rfl rfl rfl (by first | decide | omega) rfl rfl ?_ | refine WL.storeW (vs := [_, _]) st.front6 ty_agg37 rfl rfl rfl rfl rfl rfl ?_ | refine WL.storeL (vs := [_, _]) st.front6 ty_agg37 rfl rfl rfl rfl (by first | decide | omega) rfl rfl ?_ | refine WL.storeW (vs := [_, _]) st.front7 ty_agg37 rfl rfl rfl rfl rfl rfl ?_ | refine WL.storeL (vs := [_, _]) st.front7 ty_agg37 rfl rfl rfl rfl (by first | decide | omega) rfl rfl ?_ | refine WL.storeW (vs := [_, _]) st.front8 ty_agg37 rfl rfl rfl rfl rfl rfl ?_ | refine WL.storeL (vs := [_, _]) st.front8 ty_agg37 rfl rfl rfl rfl (by first | decide | omega) rfl rfl ?_
      intro w st
      refine WL.fin hK488 (fun _ _ h => h) ?_
      refine WC.retC (vs := [_, _]) Tryd.results14 (fun _ _ h => h) rfl ty_agg37 rfl ⟨(by first | assumption | exact st.c0 (by first | decide | omega) | exact st.c1 (by first | decide | omega) | exact st.c2 (by first | decide | omega) | exact st.c3 (by first | decide | omega) | exact st.c4 (by first | decide | omega) | exact st.c5 (by first | decide | omega) | exact st.c6 (by first | decide | omega) | exact st.c7 (by first | decide | omega) | exact st.c8 (by first | decide | omega)), (by first | assumption | exact st.c0 (by first | decide | omega) | exact st.c1 (by first | decide | omega) | exact st.c2 (by first | decide | omega) | exact st.c3 (by first | decide | omega) | exact st.c4 (by first | decide | omega) | exact st.c5 (by first | decide | omega) | exact st.c6 (by first | decide | omega) | exact st.c7 (by first | decide | omega) | exact st.c8 (by first | decide | omega)), trivial⟩ ?_
      exact ⟨_, rfl, D', _, [_], h', by rw [hc]; rfl, ⟨bb, g', rfl, rfl, hd hc⟩, by rw [eD]; exact st_in2 st.drop.drop1.front1⟩
    · have e2 : rdP P o = none := by unfold rdP; rw [e]; simp [hk, hc]
      rw [e, e2]
      refine enter [.pointer (some ⟨bs, 0, none⟩), .agg #[.int .i64 o.kind, .int .i64 o.sct, .int .i64 o.cnt, .int .i64 o.cache, .slice o.dat.a o.dat.bs.length o.dat.c, .int .i64 o.after, .slice o.kp.a o.kp.bs.length o.kp.c, .int .i64 o.tear, .int .i64 o.tb]] Tryd.func14 rfl Tryd.ntmps14 rfl ?_
      show WC _ _ _ 140 [] [(0, .pointer (some ⟨bs, 0, none⟩)), (1, .agg #[.int .i64 o.kind, .int .i64 o.sct, .int .i64 o.cnt, .int .i64 o.cache, .slice o.dat.a o.dat.bs.length o.dat.c, .int .i64 o.after, .slice o.kp.a o.kp.bs.length o.kp.c, .int .i64 o.tear, .int .i64 o.tb])] _
      refine WC.seq fun K489 hK489 => ?_
      -- region 0
      refine WC.region ?_
      -- R0.0 3 := play.go:37 box
      first | refine WL.box (m := 9) (vs := [.int _ _, .int _ _, .int _ _, .int _ _, .slice _ _ _, .int _ _, .slice _ _ _, .int _ _, .int _ _]) st rfl rfl rfl rfl rfl rfl ?_ | refine WL.box (m := 9) (vs := [_, _, _, _, _, _, _, _, _]) st rfl rfl rfl rfl rfl rfl ?_ | refine WL.box st rfl rfl rfl rfl rfl rfl ?_
      intro b3 w st
      -- R0.1 4 := play.go:37 alloc
      refine WL.alloc (m := 2) st ty_zero37 rfl rfl rfl ?_
      intro b4 w st
      refine WL.fin hK489 (fun _ _ h => h) ?_
      refine WC.seq fun K490 hK490 => ?_
      refine WC.seq fun K491 hK491 => ?_
      -- region 1
      refine WC.region ?_
      -- R1.0 11 := play.go:38 fieldAddr
      refine WL.v (by exact r_field ty_fld33_0 rfl) rfl rfl rfl ?_
      -- R1.1 12 := play.go:38 load
      refine WL.v (by exact r_load1 ty_one28 rfl (by first | assumption | exact st.c0 (by first | decide | omega) | exact st.c1 (by first | decide | omega) | exact st.c2 (by first | decide | omega) | exact st.c3 (by first | decide | omega) | exact st.c4 (by first | decide | omega) | exact st.c5 (by first | decide | omega) | exact st.c6 (by first | decide | omega) | exact st.c7 (by first | decide | omega) | exact st.c8 (by first | decide | omega))) rfl rfl rfl ?_
      refine WL.fin hK491 (fun _ _ h => h) ?_
      refine WC.block ?_
      refine WC.seq fun K492 hK492 => ?_
      -- region 2
      refine WC.region ?_
      -- R2.0 14 := play.go:39 binOp
      refine WL.v (by first | exact r_eql rfl rfl (decide_eq_true (by omega)) | exact r_eql rfl rfl (decide_eq_false (by omega)) | exact r_eql rfl rfl rfl) rfl rfl rfl ?_
      -- R2.1 13 := play.go:39 assign
      refine WL.v (by first | exact r_assign (v := .bool _) rfl | exact r_assign rfl) rfl rfl rfl ?_
      refine WL.fin hK492 (fun _ _ h => h) ?_
      refine WC.condF rfl rfl ?_
      refine WC.seq fun K493 hK493 => ?_
      -- region 7
      refine WC.region ?_
      -- R7.0 34 := play.go:45 binOp
      refine WL.v (by first | exact r_eql rfl rfl (decide_eq_true (by omega)) | exact r_eql rfl rfl (decide_eq_false (by omega)) | exact r_eql rfl rfl rfl) rfl rfl rfl ?_
      -- R7.1 33 := play.go:45 assign
      refine WL.v (by first | exact r_assign (v := .bool _) rfl | exact r_assign rfl) rfl rfl rfl ?_
      refine WL.fin hK493 (fun _ _ h => h) ?_
      refine WC.condF rfl rfl ?_
      refine WC.seq fun K494 hK494 => ?_
      -- region 9
      refine WC.region ?_
      -- R9.0 47 := play.go:47 binOp
      refine WL.v (by first | exact r_eql rfl rfl (decide_eq_true (by omega)) | exact r_eql rfl rfl (decide_eq_false (by omega)) | exact r_eql rfl rfl rfl) rfl rfl rfl ?_
      -- R9.1 46 := play.go:47 assign
      refine WL.v (by first | exact r_assign (v := .bool _) rfl | exact r_assign rfl) rfl rfl rfl ?_
      refine WL.fin hK494 (fun _ _ h => h) ?_
      refine WC.condT rfl rfl ?_
      refine WC.seq fun K495 hK495 => ?_
      -- region 10
      refine WC.region ?_
      -- R10.0 48 := play.go:48 move
      refine WL.v (by first | exact r_move (v := .pointer _) rfl | exact r_move rfl) rfl rfl rfl ?_
      -- R10.1 49 := play.go:48 fieldAddr
      refine WL.v (by exact r_field ty_fld33_2 rfl) rfl rfl rfl ?_
      -- R10.2 50 := play.go:48 load
      refine WL.v (by exact r_load1 ty_one2 rfl (by first | assumption | exact st.c0 (by first | decide | omega) | exact st.c1 (by first | decide | omega) | exact st.c2 (by first | decide | omega) | exact st.c3 (by first | decide | omega) | exact st.c4 (by first | decide | omega) | exact st.c5 (by first | decide | omega) | exact st.c6 (by first | decide | omega) | exact st.c7 (by first | decide | omega) | exact st.c8 (by first | decide | omega))) rfl rfl rfl ?_
      -- R10.3 51 := play.go:48 call
      have st := st_in3 st
      refine WL.call (r_call ty_call36 rfl) rfl rfl rfl (buffer_ok o.cnt (by omega) (by simp) st) ?_
      rintro _ w ⟨bb, rfl, st⟩
      rw [hsec, ← hn] at st ⊢
      have st := st_out3' st
      -- R10.4 7 := play.go:48 assign
      refine WL.v (by first | exact r_assign (v := .slice _ _ _) rfl | exact r_assign rfl) rfl rfl rfl ?_
      refine WL.fin hK495 (fun _ _ h => h) ?_
      refine WC.seq fun K496 hK496 => ?_
      refine WC.seq fun K497 hK497 => ?_
      -- region 11 (draws)
      refine WC.tailS 7 st ty_mixed (by kernel_rfl) fun w st Kq hKq => ?_
      -- R11.0 52 := play.go:49 move
      refine SL.v (by first | exact r_move (v := .pointer _) rfl | exact r_move rfl) rfl rfl rfl ?_
      -- R11.1 53 := play.go:49 nilCheck
      refine SL.v (by exact r_nilCheck rfl) rfl rfl rfl ?_
      -- R11.2 54 := play.go:49 fieldAddr
      refine SL.v (by exact r_field ty_fld42_0 rfl) rfl rfl rfl ?_
      -- R11.3 55 := play.go:49 load
      refine SL.v (by exact r_load1 ty_one40 rfl (by first | assumption | exact st.c0 (by first | decide | omega) | exact st.c1 (by first | decide | omega) | exact st.c2 (by first | decide | omega) | exact st.c3 (by first | decide | omega) | exact st.c4 (by first | decide | omega) | exact st.c5 (by first | decide | omega) | exact st.c6 (by first | decide | omega) | exact st.c7 (by first | decide | omega) | exact st.c8 (by first | decide | omega))) rfl rfl rfl ?_
      -- R11.4 56 := play.go:49 fieldAddr
      refine SL.v (by exact r_field ty_fld33_1 rfl) rfl rfl rfl ?_
      -- R11.5 57 := play.go:49 load
      refine SL.v (by exact r_load1 ty_one2 rfl (by first | assumption | exact st.c0 (by first | decide | omega) | exact st.c1 (by first | decide | omega) | exact st.c2 (by first | decide | omega) | exact st.c3 (by first | decide | omega) | exact st.c4 (by first | decide | omega) | exact st.c5 (by first | decide | omega) | exact st.c6 (by first | decide | omega) | exact st.c7 (by first | decide | omega) | exact st.c8 (by first | decide | omega))) rfl rfl rfl ?_
      -- R11.6 58 := play.go:49 move
      refine SL.v (by first | exact r_move (v := .slice _ _ _) rfl | exact r_move rfl) rfl rfl rfl ?_
      refine SL.fin hKq ?_
      -- R11.7 59 := play.go:49 call
      have st := st_in4 st
      refine WL.call (r_call ty_call37 rfl) rfl rfl rfl (read_ok h o.sct ho.sct n bb _ hnl st) ?_
      rintro _ w ⟨D', l1, g', eD, h', hev, hd, st⟩
      obtain ⟨_, be, c2, c3, rfl, rfl⟩ := hev.resolve_left (fun h => hc h.1)
      -- R11.8 8 := play.go:49 assign
      refine WL.v (by first | exact r_assign (v := .nilIface) rfl | exact r_assign (v := .iface _ _) rfl | exact r_assign rfl) rfl rfl rfl ?_
      refine WL.fin hK497 (fun _ _ h => h) ?_
      refine WC.seq fun K498 hK498 => ?_
      -- region 12
      refine WC.region ?_
      -- R12.0 60 := play.go:49 move
      refine WL.v (by first | exact r_move (v := .nilIface) rfl | exact r_move (v := .iface _ _) rfl | exact r_move rfl) rfl rfl rfl ?_
      -- R12.1 61 := play.go:49 binOp
      refine WL.v (by first | exact r_nil_neq ty_ifc70 rfl | exact r_some_neq ty_ifc70 rfl) rfl rfl rfl ?_
      refine WL.fin hK498 (fun _ _ h => h) ?_
      refine WC.condT rfl rfl ?_
      refine WC.seq fun K499 hK499 => ?_
      -- region 13
      refine WC.region ?_
      -- R13.0 62 := play.go:50 move
      refine WL.v (by first | exact r_move (v := .nilIface) rfl | exact r_move (v := .iface _ _) rfl | exact r_move rfl) rfl rfl rfl ?_
      -- R13.1 63 := play.go:50 call
      refine WL.call (r_call ty_call34 rfl) rfl rfl rfl (codeOf_ok hg (EV.err hc) st) ?_
      rintro _ w ⟨rfl, st⟩
      have st := st_out4 st
      -- R13.2 64 := play.go:50 build
      refine WL.v (by exact r_build (ps := [(0, .int _ _)]) (vs := [_, _]) ty_pl37 ty_zero37 rfl (fill_step (pv := [_]) (cs' := [_, _]) rfl rfl rfl rfl (fill_nil))) rfl rfl rfl ?_
      -- R13.3 None := play.go:50 store
      first | refine WL.storeW (vs := [_, _]) st ty_agg37 rfl rfl rfl rfl rfl rfl ?_ | refine WL.storeL (vs := [_, _]) st ty_agg37 rfl rfl rfl rfl (by first | decide | omega) rfl rfl ?_ | refine WL.storeW (vs := [_, _]) st.front1 ty_agg37 rfl rfl rfl rfl rfl rfl ?_ | refine WL.storeL (vs := [_, _]) st.front1 ty_agg37 rfl rfl rfl rfl (by first | decide | omega) rfl rfl ?_ | refine WL.storeW (vs := [_, _]) st.front2 ty_agg37 rfl rfl rfl rfl rfl rfl ?_ | refine WL.storeL (vs := [_, _]) st.front2 ty_agg37 rfl rfl rfl rfl (by first | decide | omega) rfl rfl ?_ | refine WL.storeW (vs := [_, _]) st.front3 ty_agg37 rfl rfl rfl rfl rfl rfl ?_ | refine WL.storeL (vs := [_, _]) st.front3 ty_agg37 rfl rfl rfl rfl (by first | decide | omega) rfl rfl ?_ | refine WL.storeW (vs := [_, _]) st.front4 ty_agg37 rfl rfl rfl rfl rfl rfl ?_ | refine WL.storeL (vs := [_, _]) st.front4 ty_agg37 rfl rfl rfl rfl (by first | decide | omega) rfl rfl ?_ | refine WL.storeW (vs := [_, _]) st.front5 ty_agg37 rfl rfl rfl rfl rfl rfl ?_ | refine WL.storeL (vs := [_, _]) st.front5 ty_agg37 rfl rfl rfl rfl (by first | decide | omega) rfl rfl ?_ | refine WL.storeW (vs := [_, _]) st.front6 ty_agg37 rfl rfl rfl rfl rfl rfl ?_ | refine WL.storeL (vs := [_, _]) st.front6 ty_agg37 rfl rfl rfl rfl (by first | decide | omega) rfl rfl ?_ | refine WL.storeW (vs := [_, _]) st.front7 ty_agg37 rfl rfl rfl rfl rfl rfl ?_ | refine WL.storeL (vs := [_, _]) st.front7 ty_agg37 rfl rfl rfl rfl (by first | decide | omega) rfl rfl ?_ | refine WL.storeW (vs := [_, _]) st.front8 ty_agg37 rfl rfl rfl rfl rfl rfl ?_ | refine WL.storeL (vs := [_, _]) st.front8 ty_agg37 rfl rfl rfl rfl (by first | decide | omega) rfl rfl ?_
      intro w st
      refine WL.fin hK499 (fun _ _ h => h) ?_
      refine WC.retC (vs := [_, _]) Tryd.results14 (fun _ _ h => h) rfl ty_agg37 rfl ⟨(by first | assumption | exact st.c0 (by first | decide | omega) | exact st.c1 (by first | decide | omega) | exact st.c2 (by first | decide | omega) | exact st.c3 (by first | decide | omega) | exact st.c4 (by first | decide | omega) | exact st.c5 (by first | decide | omega) | exact st.c6 (by first | decide | omega) | exact st.c7 (by first | decide | omega) | exact st.c8 (by first | decide | omega)), (by first | assumption | exact st.c0 (by first | decide | omega) | exact st.c1 (by first | decide | omega) | exact st.c2 (by first | decide | omega) | exact st.c3 (by first | decide | omega) | exact st.c4 (by first | decide | omega) | exact st.c5 (by first | decide | omega) | exact st.c6 (by first | decide | omega) | exact st.c7 (by first | decide | omega) | exact st.c8 (by first | decide | omega)), trivial⟩ ?_
      exact ⟨_, rfl, D', _, [], h', rfl, RV.none, by rw [eD]; exact st_in st.drop.drop.drop⟩
  by_cases hk : o.kind = 8
  · obtain ⟨n, hn⟩ : ∃ n, n = bufC P.sec o.cnt * 512 := ⟨_, rfl⟩
    have hnl : n ≤ 1000000000 := by have := bufC_le P.sec o.cnt; omega
    have e : stepP P o = (P, spanC P.sec o.sct n) := by unfold stepP; rw [hn]; simp [hk]
    by_cases hc : spanC P.sec o.sct n = 0
    · have e2 : rdP P o = some (n, fun j => P.pc (o.sct.toNat + j / 512) (j % 512)) := by unfold rdP; rw [e, hn]; rw [hn] at hc; simp [hk, hc]
      rw [e, e2]
      refine enter [.pointer (some ⟨bs, 0, none⟩), .agg #[.int .i64 o.kind, .int .i64 o.sct, .int .i64 o.cnt, .int .i64 o.cache, .slice o.dat.a o.dat.bs.length o.dat.c, .int .i64 o.after, .slice o.kp.a o.kp.bs.length o.kp.c, .int .i64 o.tear, .int .i64 o.tb]] Tryd.func14 rfl Tryd.ntmps14 rfl ?_
      show WC _ _ _ 140 [] [(0, .pointer (some ⟨bs, 0, none⟩)), (1, .agg #[.int .i64 o.kind, .int .i64 o.sct, .int .i64 o.cnt, .int .i64 o.cache, .slice o.dat.a o.dat.bs.length o.dat.c, .int .i64 o.after, .slice o.kp.a o.kp.bs.length o.kp.c, .int .i64 o.tear, .int .i64 o.tb])] _
      refine WC.seq fun K500 hK500 => ?_
      -- region 0
      refine WC.region ?_
      -- R0.0 3 := play.go:37 box
      first | refine WL.box (m := 9) (vs := [.int _ _, .int _ _, .int _ _, .int _ _, .slice _ _ _, .int _ _, .slice _ _ _, .int _ _, .int _ _]) st rfl rfl rfl rfl rfl rfl ?_ | refine WL.box (m := 9) (vs := [_, _, _, _, _, _, _, _, _]) st rfl rfl rfl rfl rfl rfl ?_ | refine WL.box st rfl rfl rfl rfl rfl rfl ?_
      intro b3 w st
      -- R0.1 4 := play.go:37 alloc
      refine WL.alloc (m := 2) st ty_zero37 rfl rfl rfl ?_
      intro b4 w st
      refine WL.fin hK500 (fun _ _ h => h) ?_
      refine WC.seq fun K501 hK501 => ?_
      refine WC.seq fun K502 hK502 => ?_
      -- region 1
      refine WC.region ?_
      -- R1.0 11 := play.go:38 fieldAddr
      refine WL.v (by exact r_field ty_fld33_0 rfl) rfl rfl rfl ?_
      -- R1.1 12 := play.go:38 load
      refine WL.v (by exact r_load1 ty_one28 rfl (by first | assumption | exact st.c0 (by first | decide | omega) | exact st.c1 (by first | decide | omega) | exact st.c2 (by first | decide | omega) | exact st.c3 (by first | decide | omega) | exact st.c4 (by first | decide | omega) | exact st.c5 (by first | decide | omega) | exact st.c6 (by first | decide | omega) | exact st.c7 (by first | decide | omega) | exact st.c8 (by first | decide | omega))) rfl rfl rfl ?_
      refine WL.fin hK502 (fun _ _ h => h) ?_
      refine WC.block ?_
      refine WC.seq fun K503 hK503 => ?_
      -- region 2
      refine WC.region ?_
      -- R2.0 14 := play.go:39 binOp
      refine WL.v (by first | exact r_eql rfl rfl (decide_eq_true (by omega)) | exact r_eql rfl rfl (decide_eq_false (by omega)) | exact r_eql rfl rfl rfl) rfl rfl rfl ?_
      -- R2.1 13 := play.go:39 assign
      refine WL.v (by first | exact r_assign (v := .bool _) rfl | exact r_assign rfl) rfl rfl rfl ?_
      refine WL.fin hK503 (fun _ _ h => h) ?_
      refine WC.condF rfl rfl ?_
      refine WC.seq fun K504 hK504 => ?_
      -- region 7
      refine WC.region ?_
      -- R7.0 34 := play.go:45 binOp
      refine WL.v (by first | exact r_eql rfl rfl (decide_eq_true (by omega)) | exact r_eql rfl rfl (decide_eq_false (by omega)) | exact r_eql rfl rfl rfl) rfl rfl rfl ?_
      -- R7.1 33 := play.go:45 assign
      refine WL.v (by first | exact r_assign (v := .bool _) rfl | exact r_assign rfl) rfl rfl rfl ?_
      refine WL.fin hK504 (fun _ _ h => h) ?_
      refine WC.condF rfl rfl ?_
      refine WC.seq fun K505 hK505 => ?_
      -- region 9
      refine WC.region ?_
      -- R9.0 47 := play.go:47 binOp
      refine WL.v (by first | exact r_eql rfl rfl (decide_eq_true (by omega)) | exact r_eql rfl rfl (decide_eq_false (by omega)) | exact r_eql rfl rfl rfl) rfl rfl rfl ?_
      -- R9.1 46 := play.go:47 assign
      refine WL.v (by first | exact r_assign (v := .bool _) rfl | exact r_assign rfl) rfl rfl rfl ?_
      refine WL.fin hK505 (fun _ _ h => h) ?_
      refine WC.condF rfl rfl ?_
      refine WC.seq fun K506 hK506 => ?_
      -- region 15
      refine WC.region ?_
      -- R15.0 68 := play.go:53 binOp
      refine WL.v (by first | exact r_eql rfl rfl (decide_eq_true (by omega)) | exact r_eql rfl rfl (decide_eq_false (by omega)) | exact r_eql rfl rfl rfl) rfl rfl rfl ?_
      -- R15.1 67 := play.go:53 assign
      refine WL.v (by first | exact r_assign (v := .bool _) rfl | exact r_assign rfl) rfl rfl rfl ?_
      refine WL.fin hK506 (fun _ _ h => h) ?_
      refine WC.condT rfl rfl ?_
      refine WC.seq fun K507 hK507 => ?_
      -- region 16
      refine WC.region ?_
      -- R16.0 69 := play.go:54 move
      refine WL.v (by first | exact r_move (v := .pointer _) rfl | exact r_move rfl) rfl rfl rfl ?_
      -- R16.1 70 := play.go:54 fieldAddr
      refine WL.v (by exact r_field ty_fld33_2 rfl) rfl rfl rfl ?_
      -- R16.2 71 := play.go:54 load
      refine WL.v (by exact r_load1 ty_one2 rfl (by first | assumption | exact st.c0 (by first | decide | omega) | exact st.c1 (by first | decide | omega) | exact st.c2 (by first | decide | omega) | exact st.c3 (by first | decide | omega) | exact st.c4 (by first | decide | omega) | exact st.c5 (by first | decide | omega) | exact st.c6 (by first | decide | omega) | exact st.c7 (by first | decide | omega) | exact st.c8 (by first | decide | omega))) rfl rfl rfl ?_
      -- R16.3 72 := play.go:54 call
      have st := st_in3 st
      refine WL.call (r_call ty_call36 rfl) rfl rfl rfl (buffer_ok o.cnt (by omega) (by simp) st) ?_
      rintro _ w ⟨bb, rfl, st⟩
      rw [hsec, ← hn] at st ⊢
      have st := st_out3' st
      -- R16.4 9 := play.go:54 assign
      refine WL.v (by first | exact r_assign (v := .slice _ _ _) rfl | exact r_assign rfl) rfl rfl rfl ?_
      refine WL.fin hK507 (fun _ _ h => h) ?_
      refine WC.seq fun K508 hK508 => ?_
      refine WC.seq fun K509 hK509 => ?_
      -- region 17 (draws)
      refine WC.tailS 7 st ty_mixed (by kernel_rfl) fun w st Kq hKq => ?_
      -- R17.0 73 := play.go:55 move
      refine SL.v (by first | exact r_move (v := .pointer _) rfl | exact r_move rfl) rfl rfl rfl ?_
      -- R17.1 74 := play.go:55 nilCheck
      refine SL.v (by exact r_nilCheck rfl) rfl rfl rfl ?_
      -- R17.2 75 := play.go:55 fieldAddr
      refine SL.v (by exact r_field ty_fld42_0 rfl) rfl rfl rfl ?_
      -- R17.3 76 := play.go:55 load
      refine SL.v (by exact r_load1 ty_one40 rfl (by first | assumption | exact st.c0 (by first | decide | omega) | exact st.c1 (by first | decide | omega) | exact st.c2 (by first | decide | omega) | exact st.c3 (by first | decide | omega) | exact st.c4 (by first | decide | omega) | exact st.c5 (by first | decide | omega) | exact st.c6 (by first | decide | omega) | exact st.c7 (by first | decide | omega) | exact st.c8 (by first | decide | omega))) rfl rfl rfl ?_
      -- R17.4 77 := play.go:55 fieldAddr
      refine SL.v (by exact r_field ty_fld33_1 rfl) rfl rfl rfl ?_
      -- R17.5 78 := play.go:55 load
      refine SL.v (by exact r_load1 ty_one2 rfl (by first | assumption | exact st.c0 (by first | decide | omega) | exact st.c1 (by first | decide | omega) | exact st.c2 (by first | decide | omega) | exact st.c3 (by first | decide | omega) | exact st.c4 (by first | decide | omega) | exact st.c5 (by first | decide | omega) | exact st.c6 (by first | decide | omega) | exact st.c7 (by first | decide | omega) | exact st.c8 (by first | decide | omega))) rfl rfl rfl ?_
      -- R17.6 79 := play.go:55 move
      refine SL.v (by first | exact r_move (v := .slice _ _ _) rfl | exact r_move rfl) rfl rfl rfl ?_
      refine SL.fin hKq ?_
      -- R17.7 80 := play.go:55 call
      have st := st_in4 st
      refine WL.call (r_call ty_call38 rfl) rfl rfl rfl (peek_ok h o.sct ho.sct n bb _ hnl st) ?_
      rintro _ w ⟨l1, g', hev, hd, st⟩
      obtain ⟨_, rfl, rfl⟩ := hev.resolve_right (fun h => h.1 hc)
      have st := st_out4 st
      -- R17.8 10 := play.go:55 assign
      refine WL.v (by first | exact r_assign (v := .nilIface) rfl | exact r_assign (v := .iface _ _) rfl | exact r_assign rfl) rfl rfl rfl ?_
      refine WL.fin hK509 (fun _ _ h => h) ?_
      refine WC.seq fun K510 hK510 => ?_
      -- region 18
      refine WC.region ?_
      -- R18.0 81 := play.go:55 move
      refine WL.v (by first | exact r_move (v := .nilIface) rfl | exact r_move (v := .iface _ _) rfl | exact r_move rfl) rfl rfl rfl ?_
      -- R18.1 82 := play.go:55 binOp
      refine WL.v (by first | exact r_nil_neq ty_ifc70 rfl | exact r_some_neq ty_ifc70 rfl) rfl rfl rfl ?_
      refine WL.fin hK510 (fun _ _ h => h) ?_
      refine WC.condF rfl rfl ?_
      refine WC.skipF hK508 (fun _ _ h => h) ?_
      refine WC.seq fun K511 hK511 => ?_
      -- region 20
      refine WC.region ?_
      -- R20.0 86 := play.go:58 move
      refine WL.v (by first | exact r_move (v := .slice _ _ _) rfl | exact r_move rfl) rfl rfl rfl ?_
      -- R20.1 87 := play.go:58 build
      refine WL.v (by exact r_build (ps := [(1, .slice _ _ _)]) (vs := [_, _]) ty_pl37 ty_zero37 rfl (fill_step (pv := [_]) (cs' := [_, _]) rfl rfl rfl rfl (fill_nil))) rfl rfl rfl ?_
      -- R20.2 None := play.go:58 store
      first | refine WL.storeW (vs := [_, _]) st ty_agg37 rfl rfl rfl rfl rfl rfl ?_ | refine WL.storeL (vs := [_, _]) st ty_agg37 rfl rfl rfl rfl (by first | decide | omega) rfl rfl ?_ | refine WL.storeW (vs := [_, _]) st.front1 ty_agg37 rfl rfl rfl rfl rfl rfl ?_ | refine WL.storeL (vs := [_, _]) st.front1 ty_agg37 rfl rfl rfl rfl (by first | decide | omega) rfl rfl ?_ | refine WL.storeW (vs := [_, _]) st.front2 ty_agg37 rfl rfl rfl rfl rfl rfl ?_ | refine WL.storeL (vs := [_, _]) st.front2 ty_agg37 rfl rfl rfl rfl (by first | decide | omega) rfl rfl ?_ | refine WL.storeW (vs := [_, _]) st.front3 ty_agg37 rfl rfl rfl rfl rfl rfl ?_ | refine WL.storeL (vs := [_, _]) st.front3 ty_agg37 rfl rfl rfl rfl (by first | decide | omega) rfl rfl ?_ | refine WL.storeW (vs := [_, _]) st.front4 ty_agg37 rfl rfl rfl rfl rfl rfl ?_ | refine WL.storeL (vs := [_, _]) st.front4 ty_agg37 rfl rfl rfl rfl (by first | decide | omega) rfl rfl ?_ | refine WL.storeW (vs := [_, _]) st.front5 ty_agg37 rfl rfl rfl rfl rfl rfl ?_ | refine WL.storeL (vs := [_, _]) st.front5 ty_agg37 rfl rfl rfl rfl (by first | decide | omega) rfl rfl ?_ | refine WL.storeW (vs := [_, _]) st.front6 ty_agg37 rfl rfl rfl rfl rfl rfl ?_ | refine WL.storeL (vs := [_, _]) st.front6 ty_agg37 rfl rfl rfl rfl (by first | decide | omega) rfl rfl ?_ | refine WL.storeW (vs := [_, _]) st.front7 ty_agg37 rfl rfl rfl rfl rfl rfl ?_ | refine WL.storeL (vs := [_, _]) st.front7 ty_agg37 rfl rfl rfl rfl (by first | decide | omega) rfl rfl ?_ | refine WL.storeW (vs := [_, _]) st.front8 ty_agg37 rfl rfl rfl rfl rfl rfl ?_ | refine WL.storeL (vs := [_, _]) st.front8 ty_agg37 rfl rfl rfl rfl (by first | decide | omega) rfl rfl ?_
      intro w st
      refine WL.fin hK511 (fun _ _ h => h) ?_
      refine WC.retC (vs := [_, _]) Tryd.results14 (fun _ _ h => h) rfl ty_agg37 rfl ⟨(by first | assumption | exact st.c0 (by first | decide | omega) | exact st.c1 (by first | decide | omega) | exact st.c2 (by first | decide | omega) | exact st.c3 (by first | decide | omega) | exact st.c4 (by first | decide | omega) | exact st.c5 (by first | decide | omega) | exact st.c6 (by first | decide | omega) | exact st.c7 (by first | decide | omega) | exact st.c8 (by first | decide | omega)), (by first | assumption | exact st.c0 (by first | decide | omega) | exact st.c1 (by first | decide | omega) | exact st.c2 (by first | decide | omega) | exact st.c3 (by first | decide | omega) | exact st.c4 (by first | decide | omega) | exact st.c5 (by first | decide | omega) | exact st.c6 (by first | decide | omega) | exact st.c7 (by first | decide | omega) | exact st.c8 (by first | decide | omega)), trivial⟩ ?_
      exact ⟨_, rfl, D, _, [_], h, by rw [hc]; rfl, ⟨bb, g', rfl, rfl, hd hc⟩, by exact st_in2 st.drop.drop1.front1⟩
    · have e2 : rdP P o = none := by unfold rdP; rw [e]; simp [hk, hc]
      rw [e, e2]
      refine enter [.pointer (some ⟨bs, 0, none⟩), .agg #[.int .i64 o.kind, .int .i64 o.sct, .int .i64 o.cnt, .int .i64 o.cache, .slice o.dat.a o.dat.bs.length o.dat.c, .int .i64 o.after, .slice o.kp.a o.kp.bs.length o.kp.c, .int .i64 o.tear, .int .i64 o.tb]] Tryd.func14 rfl Tryd.ntmps14 rfl ?_
      show WC _ _ _ 140 [] [(0, .pointer (some ⟨bs, 0, none⟩)), (1, .agg #[.int .i64 o.kind, .int .i64 o.sct, .int .i64 o.cnt, .int .i64 o.cache, .slice o.dat.a o.dat.bs.length o.dat.c, .int .i64 o.after, .slice o.kp.a o.kp.bs.length o.kp.c, .int .i64 o.tear, .int .i64 o.tb])] _
      refine WC.seq fun K512 hK512 => ?_
      -- region 0
      refine WC.region ?_
      -- R0.0 3 := play.go:37 box
      first | refine WL.box (m := 9) (vs := [.int _ _, .int _ _, .int _ _, .int _ _, .slice _ _ _, .int _ _, .slice _ _ _, .int _ _, .int _ _]) st rfl rfl rfl rfl rfl rfl ?_ | refine WL.box (m := 9) (vs := [_, _, _, _, _, _, _, _, _]) st rfl rfl rfl rfl rfl rfl ?_ | refine WL.box st rfl rfl rfl rfl rfl rfl ?_
      intro b3 w st
      -- R0.1 4 := play.go:37 alloc
      refine WL.alloc (m := 2) st ty_zero37 rfl rfl rfl ?_
      intro b4 w st
      refine WL.fin hK512 (fun _ _ h => h) ?_
      refine WC.seq fun K513 hK513 => ?_
      refine WC.seq fun K514 hK514 => ?_
      -- region 1
      refine WC.region ?_
      -- R1.0 11 := play.go:38 fieldAddr
      refine WL.v (by exact r_field ty_fld33_0 rfl) rfl rfl rfl ?_
      -- R1.1 12 := play.go:38 load
      refine WL.v (by exact r_load1 ty_one28 rfl (by first | assumption | exact st.c0 (by first | decide | omega) | exact st.c1 (by first | decide | omega) | exact st.c2 (by first | decide | omega) | exact st.c3 (by first | decide | omega) | exact st.c4 (by first | decide | omega) | exact st.c5 (by first | decide | omega) | exact st.c6 (by first | decide | omega) | exact st.c7 (by first | decide | omega) | exact st.c8 (by first | decide | omega))) rfl rfl rfl ?_
      refine WL.fin hK514 (fun _ _ h => h) ?_
      refine WC.block ?_
      refine WC.seq fun K515 hK515 => ?_
      -- region 2
      refine WC.region ?_
      -- R2.0 14 := play.go:39 binOp
      refine WL.v (by first | exact r_eql rfl rfl (decide_eq_true (by omega)) | exact r_eql rfl rfl (decide_eq_false (by omega)) | exact r_eql rfl rfl rfl) rfl rfl rfl ?_
      -- R2.1 13 := play.go:39 assign
      refine WL.v (by first | exact r_assign (v := .bool _) rfl | exact r_assign rfl) rfl rfl rfl ?_
      refine WL.fin hK515 (fun _ _ h => h) ?_
      refine WC.condF rfl rfl ?_
      refine WC.seq fun K516 hK516 => ?_
      -- region 7
      refine WC.region ?_
      -- R7.0 34 := play.go:45 binOp
      refine WL.v (by first | exact r_eql rfl rfl (decide_eq_true (by omega)) | exact r_eql rfl rfl (decide_eq_false (by omega)) | exact r_eql rfl rfl rfl) rfl rfl rfl ?_
      -- R7.1 33 := play.go:45 assign
      refine WL.v (by first | exact r_assign (v := .bool _) rfl | exact r_assign rfl) rfl rfl rfl ?_
      refine WL.fin hK516 (fun _ _ h => h) ?_
      refine WC.condF rfl rfl ?_
      refine WC.seq fun K517 hK517 => ?_
      -- region 9
      refine WC.region ?_
      -- R9.0 47 := play.go:47 binOp
      refine WL.v (by first | exact r_eql rfl rfl (decide_eq_true (by omega)) | exact r_eql rfl rfl (decide_eq_false (by omega)) | exact r_eql rfl rfl rfl) rfl rfl rfl ?_
      -- R9.1 46 := play.go:47 assign
      refine WL.v (by first | exact r_assign (v := .bool _) rfl | exact r_assign rfl) rfl rfl rfl ?_
      refine WL.fin hK517 (fun _ _ h => h) ?_
      refine WC.condF rfl rfl ?_
      refine WC.seq fun K518 hK518 => ?_
      -- region 15
      refine WC.region ?_
      -- R15.0 68 := play.go:53 binOp
      refine WL.v (by first | exact r_eql rfl rfl (decide_eq_true (by omega)) | exact r_eql rfl rfl (decide_eq_false (by omega)) | exact r_eql rfl rfl rfl) rfl rfl rfl ?_
      -- R15.1 67 := play.go:53 assign
      refine WL.v (by first | exact r_assign (v := .bool _) rfl | exact r_assign rfl) rfl rfl rfl ?_
      refine WL.fin hK518 (fun _ _ h => h) ?_
      refine WC.condT rfl rfl ?_
      refine WC.seq fun K519 hK519 => ?_
      -- region 16
      refine WC.region ?_
      -- R16.0 69 := play.go:54 move
      refine WL.v (by first | exact r_move (v := .pointer _) rfl | exact r_move rfl) rfl rfl rfl ?_
      -- R16.1 70 := play.go:54 fieldAddr
      refine WL.v (by exact r_field ty_fld33_2 rfl) rfl rfl rfl ?_
      -- R16.2 71 := play.go:54 load
      refine WL.v (by exact r_load1 ty_one2 rfl (by first | assumption | exact st.c0 (by first | decide | omega) | exact st.c1 (by first | decide | omega) | exact st.c2 (by first | decide | omega) | exact st.c3 (by first | decide | omega) | exact st.c4 (by first | decide | omega) | exact st.c5 (by first | decide | omega) | exact st.c6 (by first | decide | omega) | exact st.c7 (by first | decide | omega) | exact st.c8 (by first | decide | omega))) rfl rfl rfl ?_
      -- R16.3 72 := play.go:54 call
      have st := st_in3 st
      refine WL.call (r_call ty_call36 rfl) rfl rfl rfl (buffer_ok o.cnt (by omega) (by simp) st) ?_
      rintro _ w ⟨bb, rfl, st⟩
      rw [hsec, ← hn] at st ⊢
      have st := st_out3' st
      -- R16.4 9 := play.go:54 assign
      refine WL.v (by first | exact r_assign (v := .slice _ _ _) rfl | exact r_assign rfl) rfl rfl rfl ?_
      refine WL.fin hK519 (fun _ _ h => h) ?_
      refine WC.seq fun K520 hK520 => ?_
      refine WC.seq fun K521 hK521 => ?_
      -- region 17 (draws)
      refine WC.tailS 7 st ty_mixed (by kernel_rfl) fun w st Kq hKq => ?_
      -- R17.0 73 := play.go:55 move
      refine SL.v (by first | exact r_move (v := .pointer _) rfl | exact r_move rfl) rfl rfl rfl ?_
      -- R17.1 74 := play.go:55 nilCheck
      refine SL.v (by exact r_nilCheck rfl) rfl rfl rfl ?_
      -- R17.2 75 := play.go:55 fieldAddr
      refine SL.v (by exact r_field ty_fld42_0 rfl) rfl rfl rfl ?_
      -- R17.3 76 := play.go:55 load
      refine SL.v (by exact r_load1 ty_one40 rfl (by first | assumption | exact st.c0 (by first | decide | omega) | exact st.c1 (by first | decide | omega) | exact st.c2 (by first | decide | omega) | exact st.c3 (by first | decide | omega) | exact st.c4 (by first | decide | omega) | exact st.c5 (by first | decide | omega) | exact st.c6 (by first | decide | omega) | exact st.c7 (by first | decide | omega) | exact st.c8 (by first | decide | omega))) rfl rfl rfl ?_
      -- R17.4 77 := play.go:55 fieldAddr
      refine SL.v (by exact r_field ty_fld33_1 rfl) rfl rfl rfl ?_
      -- R17.5 78 := play.go:55 load
      refine SL.v (by exact r_load1 ty_one2 rfl (by first | assumption | exact st.c0 (by first | decide | omega) | exact st.c1 (by first | decide | omega) | exact st.c2 (by first | decide | omega) | exact st.c3 (by first | decide | omega) | exact st.c4 (by first | decide | omega) | exact st.c5 (by first | decide | omega) | exact st.c6 (by first | decide | omega) | exact st.c7 (by first | decide | omega) | exact st.c8 (by first | decide | omega))) rfl rfl rfl ?_
      -- R17.6 79 := play.go:55 move
      refine SL.v (by first | exact r_move (v := .slice _ _ _) rfl | exact r_move rfl) rfl rfl rfl ?_
      refine SL.fin hKq ?_
      -- R17.7 80 := play.go:55 call
      have st := st_in4 st
      refine WL.call (r_call ty_call38 rfl) rfl rfl rfl (peek_ok h o.sct ho.sct n bb _ hnl st) ?_
      rintro _ w ⟨l1, g', hev, hd, st⟩
      obtain ⟨_, be, c2, c3, rfl, rfl⟩ := hev.resolve_left (fun h => hc h.1)
      -- R17.8 10 := play.go:55 assign
      refine WL.v (by first | exact r_assign (v := .nilIface) rfl | exact r_assign (v := .iface _ _) rfl | exact r_assign rfl) rfl rfl rfl ?_
      refine WL.fin hK521 (fun _ _ h => h) ?_
      refine WC.seq fun K522 hK522 => ?_
      -- region 18
      refine WC.region ?_
      -- R18.0 81 := play.go:55 move
      refine WL.v (by first | exact r_move (v := .nilIface) rfl | exact r_move (v := .iface _ _) rfl | exact r_move rfl) rfl rfl rfl ?_
      -- R18.1 82 := play.go:55 binOp
      refine WL.v (by first | exact r_nil_neq ty_ifc70 rfl | exact r_some_neq ty_ifc70 rfl) rfl rfl rfl ?_
      refine WL.fin hK522 (fun _ _ h => h) ?_
      refine WC.condT rfl rfl ?_
      refine WC.seq fun K523 hK523 => ?_
      -- region 19
      refine WC.region ?_
      -- R19.0 83 := play.go:56 move
      refine WL.v (by first | exact r_move (v := .nilIface) rfl | exact r_move (v := .iface _ _) rfl | exact r_move rfl) rfl rfl rfl ?_
      -- R19.1 84 := play.go:56 call
      refine WL.call (r_call ty_call34 rfl) rfl rfl rfl (codeOf_ok hg (EV.err hc) st) ?_
      rintro _ w ⟨rfl, st⟩
      have st := st_out4 st
      -- R19.2 85 := play.go:56 build
      refine WL.v (by exact r_build (ps := [(0, .int _ _)]) (vs := [_, _]) ty_pl37 ty_zero37 rfl (fill_step (pv := [_]) (cs' := [_, _]) rfl rfl rfl rfl (fill_nil))) rfl rfl rfl ?_
      -- R19.3 None := play.go:56 store
      first | refine WL.storeW (vs := [_, _]) st ty_agg37 rfl rfl rfl rfl rfl rfl ?_ | refine WL.storeL (vs := [_, _]) st ty_agg37 rfl rfl rfl rfl (by first | decide | omega) rfl rfl ?_ | refine WL.storeW (vs := [_, _]) st.front1 ty_agg37 rfl rfl rfl rfl rfl rfl ?_ | refine WL.storeL (vs := [_, _]) st.front1 ty_agg37 rfl rfl rfl rfl (by first | decide | omega) rfl rfl ?_ | refine WL.storeW (vs := [_, _]) st.front2 ty_agg37 rfl rfl rfl rfl rfl rfl ?_ | refine WL.storeL (vs := [_, _]) st.front2 ty_agg37 rfl rfl rfl rfl (by first | decide | omega) rfl rfl ?_ | refine WL.storeW (vs := [_, _]) st.front3 ty_agg37 rfl rfl rfl rfl rfl rfl ?_ | refine WL.storeL (vs := [_, _]) st.front3 ty_agg37 rfl rfl rfl rfl (by first | decide | omega) rfl rfl ?_ | refine WL.storeW (vs := [_, _]) st.front4 ty_agg37 rfl rfl rfl rfl rfl rfl ?_ | refine WL.storeL (vs := [_, _]) st.front4 ty_agg37 rfl rfl rfl rfl (by first | decide | omega) rfl rfl ?_ | refine WL.storeW (vs := [_, _]) st.front5 ty_agg37 rfl rfl rfl rfl rfl rfl ?_ | refine WL.storeL (vs := [_, _]) st.front5 ty_agg37 rfl rfl rfl rfl (by first | decide | omega) rfl rfl ?_ | refine WL.storeW (vs := [_, _]) st.front6 ty_agg37 rfl rfl rfl rfl rfl rfl ?_ | refine WL.storeL (vs := [_, _]) st.front6 ty_agg37 rfl rfl rfl rfl (by first | decide | omega) rfl rfl ?_ | refine WL.storeW (vs := [_, _]) st.front7 ty_agg37 rfl rfl rfl rfl rfl rfl ?_ | refine WL.storeL (vs := [_, _]) st.front7 ty_agg37 rfl rfl rfl rfl (by first | decide | omega) rfl rfl ?_ | refine WL.storeW (vs := [_, _]) st.front8 ty_agg37 rfl rfl rfl rfl rfl rfl ?_ | refine WL.storeL (vs := [_, _]) st.front8 ty_agg37 rfl rfl rfl rfl (by first | decide | omega) rfl rfl ?_
      intro w st
      refine WL.fin hK523 (fun _ _ h => h) ?_
      refine WC.retC (vs := [_, _]) Tryd.results14 (fun _ _ h => h) rfl ty_agg37 rfl ⟨(by first | assumption | exact st.c0 (by first | decide | omega) | exact st.c1 (by first | decide | omega) | exact st.c2 (by first | decide | omega) | exact st.c3 (by first | decide | omega) | exact st.c4 (by first | decide | omega) | exact st.c5 (by first | decide | omega) | exact st.c6 (by first | decide | omega) | exact st.c7 (by first | decide | omega) | exact st.c8 (by first | decide | omega)), (by first | assumption | exact st.c0 (by first | decide | omega) | exact st.c1 (by first | decide | omega) | exact st.c2 (by first | decide | omega) | exact st.c3 (by first | decide | omega) | exact st.c4 (by first | decide | omega) | exact st.c5 (by first | decide | omega) | exact st.c6 (by first | decide | omega) | exact st.c7 (by first | decide | omega) | exact st.c8 (by first | decide | omega)), trivial⟩ ?_
      exact ⟨_, rfl, D, _, [], h, rfl, RV.none, by exact st_in st.drop.drop.drop⟩
  by_cases hk : o.kind = 0
  · have e2 : rdP P o = none := by unfold rdP; simp [hk]
    rw [e2]
    rcases hf : fmtP o.cnt o.cache with _ | P2
    · have e : stepP P o = (P, 1) := by unfold stepP; rw [if_pos hk]; unfold fmtS; rw [hf]
      rw [e]
      refine enter [.pointer (some ⟨bs, 0, none⟩), .agg #[.int .i64 o.kind, .int .i64 o.sct, .int .i64 o.cnt, .int .i64 o.cache, .slice o.dat.a o.dat.bs.length o.dat.c, .int .i64 o.after, .slice o.kp.a o.kp.bs.length o.kp.c, .int .i64 o.tear, .int .i64 o.tb]] Tryd.func14 rfl Tryd.ntmps14 rfl ?_
      show WC _ _ _ 140 [] [(0, .pointer (some ⟨bs, 0, none⟩)), (1, .agg #[.int .i64 o.kind, .int .i64 o.sct, .int .i64 o.cnt, .int .i64 o.cache, .slice o.dat.a o.dat.bs.length o.dat.c, .int .i64 o.after, .slice o.kp.a o.kp.bs.length o.kp.c, .int .i64 o.tear, .int .i64 o.tb])] _
      refine WC.seq fun K524 hK524 => ?_
      -- region 0
      refine WC.region ?_
      -- R0.0 3 := play.go:37 box
      first | refine WL.box (m := 9) (vs := [.int _ _, .int _ _, .int _ _, .int _ _, .slice _ _ _, .int _ _, .slice _ _ _, .int _ _, .int _ _]) st rfl rfl rfl rfl rfl rfl ?_ | refine WL.box (m := 9) (vs := [_, _, _, _, _, _, _, _, _]) st rfl rfl rfl rfl rfl rfl ?_ | refine WL.box st rfl rfl rfl rfl rfl rfl ?_
      intro b3 w st
      -- R0.1 4 := play.go:37 alloc
      refine WL.alloc (m := 2) st ty_zero37 rfl rfl rfl ?_
      intro b4 w st
      refine WL.fin hK524 (fun _ _ h => h) ?_
      refine WC.seq fun K525 hK525 => ?_
      refine WC.seq fun K526 hK526 => ?_
      -- region 1
      refine WC.region ?_
      -- R1.0 11 := play.go:38 fieldAddr
      refine WL.v (by exact r_field ty_fld33_0 rfl) rfl rfl rfl ?_
      -- R1.1 12 := play.go:38 load
      refine WL.v (by exact r_load1 ty_one28 rfl (by first | assumption | exact st.c0 (by first | decide | omega) | exact st.c1 (by first | decide | omega) | exact st.c2 (by first | decide | omega) | exact st.c3 (by first | decide | omega) | exact st.c4 (by first | decide | omega) | exact st.c5 (by first | decide | omega) | exact st.c6 (by first | decide | omega) | exact st.c7 (by first | decide | omega) | exact st.c8 (by first | decide | omega))) rfl rfl rfl ?_
      refine WL.fin hK526 (fun _ _ h => h) ?_
      refine WC.block ?_
      refine WC.seq fun K527 hK527 => ?_
      -- region 2
      refine WC.region ?_
      -- R2.0 14 := play.go:39 binOp
      refine WL.v (by first | exact r_eql rfl rfl (decide_eq_true (by omega)) | exact r_eql rfl rfl (decide_eq_false (by omega)) | exact r_eql rfl rfl rfl) rfl rfl rfl ?_
      -- R2.1 13 := play.go:39 assign
      refine WL.v (by first | exact r_assign (v := .bool _) rfl | exact r_assign rfl) rfl rfl rfl ?_
      refine WL.fin hK527 (fun _ _ h => h) ?_
      refine WC.condT rfl rfl ?_
      refine WC.seq fun K528 hK528 => ?_
      -- region 3
      refine WC.region ?_
      -- R3.0 16 := play.go:40 fieldAddr
      refine WL.v (by exact r_field ty_fld33_2 rfl) rfl rfl rfl ?_
      -- R3.1 17 := play.go:40 load
      refine WL.v (by exact r_load1 ty_one2 rfl (by first | assumption | exact st.c0 (by first | decide | omega) | exact st.c1 (by first | decide | omega) | exact st.c2 (by first | decide | omega) | exact st.c3 (by first | decide | omega) | exact st.c4 (by first | decide | omega) | exact st.c5 (by first | decide | omega) | exact st.c6 (by first | decide | omega) | exact st.c7 (by first | decide | omega) | exact st.c8 (by first | decide | omega))) rfl rfl rfl ?_
      -- R3.2 18 := play.go:40 fieldAddr
      refine WL.v (by exact r_field ty_fld33_3 rfl) rfl rfl rfl ?_
      -- R3.3 19 := play.go:40 load
      refine WL.v (by exact r_load1 ty_one2 rfl (by first | assumption | exact st.c0 (by first | decide | omega) | exact st.c1 (by first | decide | omega) | exact st.c2 (by first | decide | omega) | exact st.c3 (by first | decide | omega) | exact st.c4 (by first | decide | omega) | exact st.c5 (by first | decide | omega) | exact st.c6 (by first | decide | omega) | exact st.c7 (by first | decide | omega) | exact st.c8 (by first | decide | omega))) rfl rfl rfl ?_
      -- R3.4 20 := play.go:40 build
      refine WL.v (by exact r_build (ps := [(0, .int _ _), (1, .int _ _)]) (vs := [_, _]) ty_pl74 ty_zero74 rfl (fill_step (pv := [_]) (cs' := [_, _]) rfl rfl rfl rfl (fill_step (pv := [_]) (cs' := [_, _]) rfl rfl rfl rfl (fill_nil)))) rfl rfl rfl ?_
      -- R3.5 21 := play.go:40 call
      refine WL.call (r_call ty_call33 rfl) rfl rfl rfl (new_ok o.cnt o.cache st) ?_
      rintro _ w hv
      obtain ⟨_, be, c2, c3, rfl, st⟩ := hv.resolve_left (fun h => by obtain ⟨P, D, h, _⟩ := h; rw [hf] at h; cases h)
      -- R3.6 15 := play.go:40 move
      refine WL.v (by first | exact r_move (v := .tuple _) rfl | exact r_move rfl) rfl rfl rfl ?_
      -- R3.7 22 := play.go:40 extract
      refine WL.v (by first | exact r_extract (v := .pointer _) rfl rfl | exact r_extract rfl rfl) rfl rfl rfl ?_
      -- R3.8 23 := play.go:40 extract
      refine WL.v (by first | exact r_extract (v := .nilIface) rfl rfl | exact r_extract (v := .iface _ _) rfl rfl | exact r_extract rfl rfl) rfl rfl rfl ?_
      -- R3.9 5 := play.go:40 assign
      refine WL.v (by first | exact r_assign (v := .pointer _) rfl | exact r_assign rfl) rfl rfl rfl ?_
      -- R3.10 6 := play.go:40 assign
      refine WL.v (by first | exact r_assign (v := .nilIface) rfl | exact r_assign (v := .iface _ _) rfl | exact r_assign rfl) rfl rfl rfl ?_
      refine WL.fin hK528 (fun _ _ h => h) ?_
      refine WC.seq fun K529 hK529 => ?_
      refine WC.seq fun K530 hK530 => ?_
      -- region 4
      refine WC.region ?_
      -- R4.0 24 := play.go:41 move
      refine WL.v (by first | exact r_move (v := .nilIface) rfl | exact r_move (v := .iface _ _) rfl | exact r_move rfl) rfl rfl rfl ?_
      -- R4.1 25 := play.go:41 binOp
      refine WL.v (by first | exact r_nil_eql ty_ifc70 rfl | exact r_some_eql ty_ifc70 rfl) rfl rfl rfl ?_
      refine WL.fin hK530 (fun _ _ h => h) ?_
      refine WC.condF rfl rfl ?_
      refine WC.skipF hK529 (fun _ _ h => h) ?_
      refine WC.seq fun K531 hK531 => ?_
      -- region 6
      refine WC.region ?_
      -- R6.0 30 := play.go:44 move
      refine WL.v (by first | exact r_move (v := .nilIface) rfl | exact r_move (v := .iface _ _) rfl | exact r_move rfl) rfl rfl rfl ?_
      -- R6.1 31 := play.go:44 call
      refine WL.call (r_call ty_call34 rfl) rfl rfl rfl (codeOf_ok (l1 := [EI be 1 c2 c3]) hg EV.e1 st) ?_
      rintro _ w ⟨rfl, st⟩
      -- R6.2 32 := play.go:44 build
      refine WL.v (by exact r_build (ps := [(0, .int _ _)]) (vs := [_, _]) ty_pl37 ty_zero37 rfl (fill_step (pv := [_]) (cs' := [_, _]) rfl rfl rfl rfl (fill_nil))) rfl rfl rfl ?_
      -- R6.3 None := play.go:44 store
      first | refine WL.storeW (vs := [_, _]) st ty_agg37 rfl rfl rfl rfl rfl rfl ?_ | refine WL.storeL (vs := [_, _]) st ty_agg37 rfl rfl rfl rfl (by first | decide | omega) rfl rfl ?_ | refine WL.storeW (vs := [_, _]) st.front1 ty_agg37 rfl rfl rfl rfl rfl rfl ?_ | refine WL.storeL (vs := [_, _]) st.front1 ty_agg37 rfl rfl rfl rfl (by first | decide | omega) rfl rfl ?_ | refine WL.storeW (vs := [_, _]) st.front2 ty_agg37 rfl rfl rfl rfl rfl rfl ?_ | refine WL.storeL (vs := [_, _]) st.front2 ty_agg37 rfl rfl rfl rfl (by first | decide | omega) rfl rfl ?_ | refine WL.storeW (vs := [_, _]) st.front3 ty_agg37 rfl rfl rfl rfl rfl rfl ?_ | refine WL.storeL (vs := [_, _]) st.front3 ty_agg37 rfl rfl rfl rfl (by first | decide | omega) rfl rfl ?_ | refine WL.storeW (vs := [_, _]) st.front4 ty_agg37 rfl rfl rfl rfl rfl rfl ?_ | refine WL.storeL (vs := [_, _]) st.front4 ty_agg37 rfl rfl rfl rfl (by first | decide | omega) rfl rfl ?_ | refine WL.storeW (vs := [_, _]) st.front5 ty_agg37 rfl rfl rfl rfl rfl rfl ?_ | refine WL.storeL (vs := [_, _]) st.front5 ty_agg37 rfl rfl rfl rfl (by first | decide | omega) rfl rfl ?_ | refine WL.storeW (vs := [_, _]) st.front6 ty_agg37 rfl rfl rfl rfl rfl rfl ?_ | refine WL.storeL (vs := [_, _]) st.front6 ty_agg37 rfl rfl rfl rfl (by first | decide | omega) rfl rfl ?_ | refine WL.storeW (vs := [_, _]) st.front7 ty_agg37 rfl rfl rfl rfl rfl rfl ?_ | refine WL.storeL (vs := [_, _]) st.front7 ty_agg37 rfl rfl rfl rfl (by first | decide | omega) rfl rfl ?_ | refine WL.storeW (vs := [_, _]) st.front8 ty_agg37 rfl rfl rfl rfl rfl rfl ?_ | refine WL.storeL (vs := [_, _]) st.front8 ty_agg37 rfl rfl rfl rfl (by first | decide | omega) rfl rfl ?_
      intro w st
      refine WL.fin hK531 (fun _ _ h => h) ?_
      refine WC.retC (vs := [_, _]) Tryd.results14 (fun _ _ h => h) rfl ty_agg37 rfl ⟨(by first | assumption | exact st.c0 (by first | decide | omega) | exact st.c1 (by first | decide | omega) | exact st.c2 (by first | decide | omega) | exact st.c3 (by first | decide | omega) | exact st.c4 (by first | decide | omega) | exact st.c5 (by first | decide | omega) | exact st.c6 (by first | decide | omega) | exact st.c7 (by first | decide | omega) | exact st.c8 (by first | decide | omega)), (by first | assumption | exact st.c0 (by first | decide | omega) | exact st.c1 (by first | decide | omega) | exact st.c2 (by first | decide | omega) | exact st.c3 (by first | decide | omega) | exact st.c4 (by first | decide | omega) | exact st.c5 (by first | decide | omega) | exact st.c6 (by first | decide | omega) | exact st.c7 (by first | decide | omega) | exact st.c8 (by first | decide | omega)), trivial⟩ ?_
      exact ⟨_, rfl, D, _, [], h, rfl, RV.none, st_in st.drop.drop⟩
    · have e : stepP P o = (P2, 0) := by unfold stepP; rw [if_pos hk]; unfold fmtS; rw [hf]
      rw [e]
      refine enter [.pointer (some ⟨bs, 0, none⟩), .agg #[.int .i64 o.kind, .int .i64 o.sct, .int .i64 o.cnt, .int .i64 o.cache, .slice o.dat.a o.dat.bs.length o.dat.c, .int .i64 o.after, .slice o.kp.a o.kp.bs.length o.kp.c, .int .i64 o.tear, .int .i64 o.tb]] Tryd.func14 rfl Tryd.ntmps14 rfl ?_
      show WC _ _ _ 140 [] [(0, .pointer (some ⟨bs, 0, none⟩)), (1, .agg #[.int .i64 o.kind, .int .i64 o.sct, .int .i64 o.cnt, .int .i64 o.cache, .slice o.dat.a o.dat.bs.length o.dat.c, .int .i64 o.after, .slice o.kp.a o.kp.bs.length o.kp.c, .int .i64 o.tear, .int .i64 o.tb])] _
      refine WC.seq fun K532 hK532 => ?_
      -- region 0
      refine WC.region ?_
      -- R0.0 3 := play.go:37 box
      first | refine WL.box (m := 9) (vs := [.int _ _, .int _ _, .int _ _, .int _ _, .slice _ _ _, .int _ _, .slice _ _ _, .int _ _, .int _ _]) st rfl rfl rfl rfl rfl rfl ?_ | refine WL.box (m := 9) (vs := [_, _, _, _, _, _, _, _, _]) st rfl rfl rfl rfl rfl rfl ?_ | refine WL.box st rfl rfl rfl rfl rfl rfl ?_
      intro b3 w st
      -- R0.1 4 := play.go:37 alloc
      refine WL.alloc (m := 2) st ty_zero37 rfl rfl rfl ?_
      intro b4 w st
      refine WL.fin hK532 (fun _ _ h => h) ?_
      refine WC.seq fun K533 hK533 => ?_
      refine WC.seq fun K534 hK534 => ?_
      -- region 1
      refine WC.region ?_
      -- R1.0 11 := play.go:38 fieldAddr
      refine WL.v (by exact r_field ty_fld33_0 rfl) rfl rfl rfl ?_
      -- R1.1 12 := play.go:38 load
      refine WL.v (by exact r_load1 ty_one28 rfl (by first | assumption | exact st.c0 (by first | decide | omega) | exact st.c1 (by first | decide | omega) | exact st.c2 (by first | decide | omega) | exact st.c3 (by first | decide | omega) | exact st.c4 (by first | decide | omega) | exact st.c5 (by first | decide | omega) | exact st.c6 (by first | decide | omega) | exact st.c7 (by first | decide | omega) | exact st.c8 (by first | decide | omega))) rfl rfl rfl ?_
      refine WL.fin hK534 (fun _ _ h => h) ?_
      refine WC.block ?_
      refine WC.seq fun K535 hK535 => ?_
      -- region 2
      refine WC.region ?_
      -- R2.0 14 := play.go:39 binOp
      refine WL.v (by first | exact r_eql rfl rfl (decide_eq_true (by omega)) | exact r_eql rfl rfl (decide_eq_false (by omega)) | exact r_eql rfl rfl rfl) rfl rfl rfl ?_
      -- R2.1 13 := play.go:39 assign
      refine WL.v (by first | exact r_assign (v := .bool _) rfl | exact r_assign rfl) rfl rfl rfl ?_
      refine WL.fin hK535 (fun _ _ h => h) ?_
      refine WC.condT rfl rfl ?_
      refine WC.seq fun K536 hK536 => ?_
      -- region 3
      refine WC.region ?_
      -- R3.0 16 := play.go:40 fieldAddr
      refine WL.v (by exact r_field ty_fld33_2 rfl) rfl rfl rfl ?_
      -- R3.1 17 := play.go:40 load
      refine WL.v (by exact r_load1 ty_one2 rfl (by first | assumption | exact st.c0 (by first | decide | omega) | exact st.c1 (by first | decide | omega) | exact st.c2 (by first | decide | omega) | exact st.c3 (by first | decide | omega) | exact st.c4 (by first | decide | omega) | exact st.c5 (by first | decide | omega) | exact st.c6 (by first | decide | omega) | exact st.c7 (by first | decide | omega) | exact st.c8 (by first | decide | omega))) rfl rfl rfl ?_
      -- R3.2 18 := play.go:40 fieldAddr
      refine WL.v (by exact r_field ty_fld33_3 rfl) rfl rfl rfl ?_
      -- R3.3 19 := play.go:40 load
      refine WL.v (by exact r_load1 ty_one2 rfl (by first | assumption | exact st.c0 (by first | decide | omega) | exact st.c1 (by first | decide | omega) | exact st.c2 (by first | decide | omega) | exact st.c3 (by first | decide | omega) | exact st.c4 (by first | decide | omega) | exact st.c5 (by first | decide | omega) | exact st.c6 (by first | decide | omega) | exact st.c7 (by first | decide | omega) | exact st.c8 (by first | decide | omega))) rfl rfl rfl ?_
      -- R3.4 20 := play.go:40 build
      refine WL.v (by exact r_build (ps := [(0, .int _ _), (1, .int _ _)]) (vs := [_, _]) ty_pl74 ty_zero74 rfl (fill_step (pv := [_]) (cs' := [_, _]) rfl rfl rfl rfl (fill_step (pv := [_]) (cs' := [_, _]) rfl rfl rfl rfl (fill_nil)))) rfl rfl rfl ?_
      -- R3.5 21 := play.go:40 call
      refine WL.call (r_call ty_call33 rfl) rfl rfl rfl (new_ok o.cnt o.cache st) ?_
      rintro _ w hv
      obtain ⟨P', D2, hP, h2, rfl, st⟩ := hv.resolve_right (fun h => by rw [hf] at h; cases h.1)
      obtain rfl : P2 = P' := by rw [hf] at hP; exact Option.some.inj hP
      have st := (st_out3 st).sublist ((((di_sub (di_all (D := D) (m := 0) (L := L))).cons_cons _).cons_cons _).cons_cons _)
      -- R3.6 15 := play.go:40 move
      refine WL.v (by first | exact r_move (v := .tuple _) rfl | exact r_move rfl) rfl rfl rfl ?_
      -- R3.7 22 := play.go:40 extract
      refine WL.v (by first | exact r_extract (v := .pointer _) rfl rfl | exact r_extract rfl rfl) rfl rfl rfl ?_
      -- R3.8 23 := play.go:40 extract
      refine WL.v (by first | exact r_extract (v := .nilIface) rfl rfl | exact r_extract (v := .iface _ _) rfl rfl | exact r_extract rfl rfl) rfl rfl rfl ?_
      -- R3.9 5 := play.go:40 assign
      refine WL.v (by first | exact r_assign (v := .pointer _) rfl | exact r_assign rfl) rfl rfl rfl ?_
      -- R3.10 6 := play.go:40 assign
      refine WL.v (by first | exact r_assign (v := .nilIface) rfl | exact r_assign (v := .iface _ _) rfl | exact r_assign rfl) rfl rfl rfl ?_
      refine WL.fin hK536 (fun _ _ h => h) ?_
      refine WC.seq fun K537 hK537 => ?_
      refine WC.seq fun K538 hK538 => ?_
      -- region 4
      refine WC.region ?_
      -- R4.0 24 := play.go:41 move
      refine WL.v (by first | exact r_move (v := .nilIface) rfl | exact r_move (v := .iface _ _) rfl | exact r_move rfl) rfl rfl rfl ?_
      -- R4.1 25 := play.go:41 binOp
      refine WL.v (by first | exact r_nil_eql ty_ifc70 rfl | exact r_some_eql ty_ifc70 rfl) rfl rfl rfl ?_
      refine WL.fin hK538 (fun _ _ h => h) ?_
      refine WC.condT rfl rfl ?_
      -- region 5
      refine WC.region ?_
      -- R5.0 26 := play.go:42 move
      refine WL.v (by first | exact r_move (v := .pointer _) rfl | exact r_move rfl) rfl rfl rfl ?_
      -- R5.1 27 := play.go:42 move
      refine WL.v (by first | exact r_move (v := .pointer _) rfl | exact r_move rfl) rfl rfl rfl ?_
      -- R5.2 28 := play.go:42 nilCheck
      refine WL.v (by exact r_nilCheck rfl) rfl rfl rfl ?_
      -- R5.3 29 := play.go:42 fieldAddr
      refine WL.v (by exact r_field ty_fld42_0 rfl) rfl rfl rfl ?_
      -- R5.4 None := play.go:42 store
      first | refine WL.store (v := .pointer _) st ty_one40 rfl rfl rfl (by first | decide | omega) rfl rfl ?_ | refine WL.store (v := _) st ty_one40 rfl rfl rfl (by first | decide | omega) rfl rfl ?_ | refine WL.store (v := .pointer _) st.front1 ty_one40 rfl rfl rfl (by first | decide | omega) rfl rfl ?_ | refine WL.store (v := _) st.front1 ty_one40 rfl rfl rfl (by first | decide | omega) rfl rfl ?_ | refine WL.store (v := .pointer _) st.front2 ty_one40 rfl rfl rfl (by first | decide | omega) rfl rfl ?_ | refine WL.store (v := _) st.front2 ty_one40 rfl rfl rfl (by first | decide | omega) rfl rfl ?_ | refine WL.store (v := .pointer _) st.front3 ty_one40 rfl rfl rfl (by first | decide | omega) rfl rfl ?_ | refine WL.store (v := _) st.front3 ty_one40 rfl rfl rfl (by first | decide | omega) rfl rfl ?_ | refine WL.store (v := .pointer _) st.front4 ty_one40 rfl rfl rfl (by first | decide | omega) rfl rfl ?_ | refine WL.store (v := _) st.front4 ty_one40 rfl rfl rfl (by first | decide | omega) rfl rfl ?_ | refine WL.store (v := .pointer _) st.front5 ty_one40 rfl rfl rfl (by first | decide | omega) rfl rfl ?_ | refine WL.store (v := _) st.front5 ty_one40 rfl rfl rfl (by first | decide | omega) rfl rfl ?_ | refine WL.store (v := .pointer _) st.front6 ty_one40 rfl rfl rfl (by first | decide | omega) rfl rfl ?_ | refine WL.store (v := _) st.front6 ty_one40 rfl rfl rfl (by first | decide | omega) rfl rfl ?_ | refine WL.store (v := .pointer _) st.front7 ty_one40 rfl rfl rfl (by first | decide | omega) rfl rfl ?_ | refine WL.store (v := _) st.front7 ty_one40 rfl rfl rfl (by first | decide | omega) rfl rfl ?_ | refine WL.store (v := .pointer _) st.front8 ty_one40 rfl rfl rfl (by first | decide | omega) rfl rfl ?_ | refine WL.store (v := _) st.front8 ty_one40 rfl rfl rfl (by first | decide | omega) rfl rfl ?_
      intro w st
      refine WL.fin hK537 (fun _ _ h => h) ?_
      refine WC.seq fun K539 hK539 => ?_
      -- region 6
      refine WC.region ?_
      -- R6.0 30 := play.go:44 move
      refine WL.v (by first | exact r_move (v := .nilIface) rfl | exact r_move (v := .iface _ _) rfl | exact r_move rfl) rfl rfl rfl ?_
      -- R6.1 31 := play.go:44 call
      refine WL.call (r_call ty_call34 rfl) rfl rfl rfl (codeOf_ok (l1 := []) hg EV.ok st) ?_
      rintro _ w ⟨rfl, st⟩
      -- R6.2 32 := play.go:44 build
      refine WL.v (by exact r_build (ps := [(0, .int _ _)]) (vs := [_, _]) ty_pl37 ty_zero37 rfl (fill_step (pv := [_]) (cs' := [_, _]) rfl rfl rfl rfl (fill_nil))) rfl rfl rfl ?_
      -- R6.3 None := play.go:44 store
      first | refine WL.storeW (vs := [_, _]) st ty_agg37 rfl rfl rfl rfl rfl rfl ?_ | refine WL.storeL (vs := [_, _]) st ty_agg37 rfl rfl rfl rfl (by first | decide | omega) rfl rfl ?_ | refine WL.storeW (vs := [_, _]) st.front1 ty_agg37 rfl rfl rfl rfl rfl rfl ?_ | refine WL.storeL (vs := [_, _]) st.front1 ty_agg37 rfl rfl rfl rfl (by first | decide | omega) rfl rfl ?_ | refine WL.storeW (vs := [_, _]) st.front2 ty_agg37 rfl rfl rfl rfl rfl rfl ?_ | refine WL.storeL (vs := [_, _]) st.front2 ty_agg37 rfl rfl rfl rfl (by first | decide | omega) rfl rfl ?_ | refine WL.storeW (vs := [_, _]) st.front3 ty_agg37 rfl rfl rfl rfl rfl rfl ?_ | refine WL.storeL (vs := [_, _]) st.front3 ty_agg37 rfl rfl rfl rfl (by first | decide | omega) rfl rfl ?_ | refine WL.storeW (vs := [_, _]) st.front4 ty_agg37 rfl rfl rfl rfl rfl rfl ?_ | refine WL.storeL (vs := [_, _]) st.front4 ty_agg37 rfl rfl rfl rfl (by first | decide | omega) rfl rfl ?_ | refine WL.storeW (vs := [_, _]) st.front5 ty_agg37 rfl rfl rfl rfl rfl rfl ?_ | refine WL.storeL (vs := [_, _]) st.front5 ty_agg37 rfl rfl rfl rfl (by first | decide | omega) rfl rfl ?_ | refine WL.storeW (vs := [_, _]) st.front6 ty_agg37 rfl rfl rfl rfl rfl rfl ?_ | refine WL.storeL (vs := [_, _]) st.front6 ty_agg37 rfl rfl rfl rfl (by first | decide | omega) rfl rfl ?_ | refine WL.storeW (vs := [_, _]) st.front7 ty_agg37 rfl rfl rfl rfl rfl rfl ?_ | refine WL.storeL (vs := [_, _]) st.front7 ty_agg37 rfl rfl rfl rfl (by first | decide | omega) rfl rfl ?_ | refine WL.storeW (vs := [_, _]) st.front8 ty_agg37 rfl rfl rfl rfl rfl rfl ?_ | refine WL.storeL (vs := [_, _]) st.front8 ty_agg37 rfl rfl rfl rfl (by first | decide | omega) rfl rfl ?_
      intro w st
      refine WL.fin hK539 (fun _ _ h => h) ?_
      refine WC.retC (vs := [_, _]) Tryd.results14 (fun _ _ h => h) rfl ty_agg37 rfl ⟨(by first | assumption | exact st.c0 (by first | decide | omega) | exact st.c1 (by first | decide | omega) | exact st.c2 (by first | decide | omega) | exact st.c3 (by first | decide | omega) | exact st.c4 (by first | decide | omega) | exact st.c5 (by first | decide | omega) | exact st.c6 (by first | decide | omega) | exact st.c7 (by first | decide | omega) | exact st.c8 (by first | decide | omega)), (by first | assumption | exact st.c0 (by first | decide | omega) | exact st.c1 (by first | decide | omega) | exact st.c2 (by first | decide | omega) | exact st.c3 (by first | decide | omega) | exact st.c4 (by first | decide | omega) | exact st.c5 (by first | decide | omega) | exact st.c6 (by first | decide | omega) | exact st.c7 (by first | decide | omega) | exact st.c8 (by first | decide | omega)), trivial⟩ ?_
      exact ⟨_, rfl, D2, _, [], h2, rfl, RV.none, st_in (st_nrm (L' := [.pointer (some ⟨D2.bD, 0, none⟩)]) rfl st.drop.drop1)⟩
  have e : stepP P o = (P, 1) := by unfold stepP; simp [*]
  have e2 : rdP P o = none := by unfold rdP; simp [*]
  rw [e, e2]
  refine enter [.pointer (some ⟨bs, 0, none⟩), .agg #[.int .i64 o.kind, .int .i64 o.sct, .int .i64 o.cnt, .int .i64 o.cache, .slice o.dat.a o.dat.bs.length o.dat.c, .int .i64 o.after, .slice o.kp.a o.kp.bs.length o.kp.c, .int .i64 o.tear, .int .i64 o.tb]] Tryd.func14 rfl Tryd.ntmps14 rfl ?_
  show WC _ _ _ 140 [] [(0, .pointer (some ⟨bs, 0, none⟩)), (1, .agg #[.int .i64 o.kind, .int .i64 o.sct, .int .i64 o.cnt, .int .i64 o.cache, .slice o.dat.a o.dat.bs.length o.dat.c, .int .i64 o.after, .slice o.kp.a o.kp.bs.length o.kp.c, .int .i64 o.tear, .int .i64 o.tb])] _
  refine WC.seq fun K540 hK540 => ?_
  -- region 0
  refine WC.region ?_
  -- R0.0 3 := play.go:37 box
  first | refine WL.box (m := 9) (vs := [.int _ _, .int _ _, .int _ _, .int _ _, .slice _ _ _, .int _ _, .slice _ _ _, .int _ _, .int _ _]) st rfl rfl rfl rfl rfl rfl ?_ | refine WL.box (m := 9) (vs := [_, _, _, _, _, _, _, _, _]) st rfl rfl rfl rfl rfl rfl ?_ | refine WL.box st rfl rfl rfl rfl rfl rfl ?_
  intro b3 w st
  -- R0.1 4 := play.go:37 alloc
  refine WL.alloc (m := 2) st ty_zero37 rfl rfl rfl ?_
  intro b4 w st
  refine WL.fin hK540 (fun _ _ h => h) ?_
  refine WC.seq fun K541 hK541 => ?_
  refine WC.seq fun K542 hK542 => ?_
  -- region 1
  refine WC.region ?_
  -- R1.0 11 := play.go:38 fieldAddr
  refine WL.v (by exact r_field ty_fld33_0 rfl) rfl rfl rfl ?_
  -- R1.1 12 := play.go:38 load
  refine WL.v (by exact r_load1 ty_one28 rfl (by first | assumption | exact st.c0 (by first | decide | omega) | exact st.c1 (by first | decide | omega) | exact st.c2 (by first | decide | omega) | exact st.c3 (by first | decide | omega) | exact st.c4 (by first | decide | omega) | exact st.c5 (by first | decide | omega) | exact st.c6 (by first | decide | omega) | exact st.c7 (by first | decide | omega) | exact st.c8 (by first | decide | omega))) rfl rfl rfl ?_
  refine WL.fin hK542 (fun _ _ h => h) ?_
  refine WC.block ?_
  refine WC.seq fun K543 hK543 => ?_
  -- region 2
  refine WC.region ?_
  -- R2.0 14 := play.go:39 binOp
  refine WL.v (by first | exact r_eql rfl rfl (decide_eq_true (by omega)) | exact r_eql rfl rfl (decide_eq_false (by omega)) | exact r_eql rfl rfl rfl) rfl rfl rfl ?_
  -- R2.1 13 := play.go:39 assign
  refine WL.v (by first | exact r_assign (v := .bool _) rfl | exact r_assign rfl) rfl rfl rfl ?_
  refine WL.fin hK543 (fun _ _ h => h) ?_
  refine WC.condF rfl rfl ?_
  refine WC.seq fun K544 hK544 => ?_
  -- region 7
  refine WC.region ?_
  -- R7.0 34 := play.go:45 binOp
  refine WL.v (by first | exact r_eql rfl rfl (decide_eq_true (by omega)) | exact r_eql rfl rfl (decide_eq_false (by omega)) | exact r_eql rfl rfl rfl) rfl rfl rfl ?_
  -- R7.1 33 := play.go:45 assign
  refine WL.v (by first | exact r_assign (v := .bool _) rfl | exact r_assign rfl) rfl rfl rfl ?_
  refine WL.fin hK544 (fun _ _ h => h) ?_
  refine WC.condF rfl rfl ?_
  refine WC.seq fun K545 hK545 => ?_
  -- region 9
  refine WC.region ?_
  -- R9.0 47 := play.go:47 binOp
  refine WL.v (by first | exact r_eql rfl rfl (decide_eq_true (by omega)) | exact r_eql rfl rfl (decide_eq_false (by omega)) | exact r_eql rfl rfl rfl) rfl rfl rfl ?_
  -- R9.1 46 := play.go:47 assign
  refine WL.v (by first | exact r_assign (v := .bool _) rfl | exact r_assign rfl) rfl rfl rfl ?_
  refine WL.fin hK545 (fun _ _ h => h) ?_
  refine WC.condF rfl rfl ?_
  refine WC.seq fun K546 hK546 => ?_
  -- region 15
  refine WC.region ?_
  -- R15.0 68 := play.go:53 binOp
  refine WL.v (by first | exact r_eql rfl rfl (decide_eq_true (by omega)) | exact r_eql rfl rfl (decide_eq_false (by omega)) | exact r_eql rfl rfl rfl) rfl rfl rfl ?_
  -- R15.1 67 := play.go:53 assign
  refine WL.v (by first | exact r_assign (v := .bool _) rfl | exact r_assign rfl) rfl rfl rfl ?_
  refine WL.fin hK546 (fun _ _ h => h) ?_
  refine WC.condF rfl rfl ?_
  refine WC.seq fun K547 hK547 => ?_
  -- region 21
  refine WC.region ?_
  -- R21.0 89 := play.go:59 binOp
  refine WL.v (by first | exact r_eql rfl rfl (decide_eq_true (by omega)) | exact r_eql rfl rfl (decide_eq_false (by omega)) | exact r_eql rfl rfl rfl) rfl rfl rfl ?_
  -- R21.1 88 := play.go:59 assign
  refine WL.v (by first | exact r_assign (v := .bool _) rfl | exact r_assign rfl) rfl rfl rfl ?_
  refine WL.fin hK547 (fun _ _ h => h) ?_
  refine WC.condF rfl rfl ?_
  refine WC.seq fun K548 hK548 => ?_
  -- region 23
  refine WC.region ?_
  -- R23.0 98 := play.go:61 binOp
  refine WL.v (by first | exact r_eql rfl rfl (decide_eq_true (by omega)) | exact r_eql rfl rfl (decide_eq_false (by omega)) | exact r_eql rfl rfl rfl) rfl rfl rfl ?_
  -- R23.1 97 := play.go:61 assign
  refine WL.v (by first | exact r_assign (v := .bool _) rfl | exact r_assign rfl) rfl rfl rfl ?_
  refine WL.fin hK548 (fun _ _ h => h) ?_
  refine WC.condF rfl rfl ?_
  refine WC.seq fun K549 hK549 => ?_
  -- region 25
  refine WC.region ?_
  -- R25.0 109 := play.go:63 binOp
  refine WL.v (by first | exact r_eql rfl rfl (decide_eq_true (by omega)) | exact r_eql rfl rfl (decide_eq_false (by omega)) | exact r_eql rfl rfl rfl) rfl rfl rfl ?_
  -- R25.1 108 := play.go:63 assign
  refine WL.v (by first | exact r_assign (v := .bool _) rfl | exact r_assign rfl) rfl rfl rfl ?_
  refine WL.fin hK549 (fun _ _ h => h) ?_
  refine WC.condF rfl rfl ?_
  refine WC.seq fun K550 hK550 => ?_
  -- region 27
  refine WC.region ?_
  -- R27.0 122 := play.go:65 binOp
  refine WL.v (by first | exact r_eql rfl rfl (decide_eq_true (by omega)) | exact r_eql rfl rfl (decide_eq_false (by omega)) | exact r_eql rfl rfl rfl) rfl rfl rfl ?_
  -- R27.1 121 := play.go:65 assign
  refine WL.v (by first | exact r_assign (v := .bool _) rfl | exact r_assign rfl) rfl rfl rfl ?_
  refine WL.fin hK550 (fun _ _ h => h) ?_
  refine WC.condF rfl rfl ?_
  refine WC.seq fun K551 hK551 => ?_
  -- region 29
  refine WC.region ?_
  -- R29.0 131 := play.go:67 binOp
  refine WL.v (by first | exact r_eql rfl rfl (decide_eq_true (by omega)) | exact r_eql rfl rfl (decide_eq_false (by omega)) | exact r_eql rfl rfl rfl) rfl rfl rfl ?_
  -- R29.1 130 := play.go:67 assign
  refine WL.v (by first | exact r_assign (v := .bool _) rfl | exact r_assign rfl) rfl rfl rfl ?_
  refine WL.fin hK551 (fun _ _ h => h) ?_
  refine WC.condF rfl rfl ?_
  refine WC.skipF hK541 (fun _ _ h => h) ?_
  refine WC.seq fun K552 hK552 => ?_
  -- region 31
  refine WC.region ?_
  -- R31.0 139 := play.go:70 build
  refine WL.v (by exact r_build (ps := [(0, .int _ _)]) (vs := [_, _]) ty_pl37 ty_zero37 rfl (fill_step (pv := [_]) (cs' := [_, _]) rfl rfl rfl rfl (fill_nil))) rfl rfl rfl ?_
  -- R31.1 None := play.go:70 store
  first | refine WL.storeW (vs := [_, _]) st ty_agg37 rfl rfl rfl rfl rfl rfl ?_ | refine WL.storeL (vs := [_, _]) st ty_agg37 rfl rfl rfl rfl (by first | decide | omega) rfl rfl ?_ | refine WL.storeW (vs := [_, _]) st.front1 ty_agg37 rfl rfl rfl rfl rfl rfl ?_ | refine WL.storeL (vs := [_, _]) st.front1 ty_agg37 rfl rfl rfl rfl (by first | decide | omega) rfl rfl ?_ | refine WL.storeW (vs := [_, _]) st.front2 ty_agg37 rfl rfl rfl rfl rfl rfl ?_ | refine WL.storeL (vs := [_, _]) st.front2 ty_agg37 rfl rfl rfl rfl (by first | decide | omega) rfl rfl ?_ | refine WL.storeW (vs := [_, _]) st.front3 ty_agg37 rfl rfl rfl rfl rfl rfl ?_ | refine WL.storeL (vs := [_, _]) st.front3 ty_agg37 rfl rfl rfl rfl (by first | decide | omega) rfl rfl ?_ | refine WL.storeW (vs := [_, _]) st.front4 ty_agg37 rfl rfl rfl rfl rfl rfl ?_ | refine WL.storeL (vs := [_, _]) st.front4 ty_agg37 rfl rfl rfl rfl (by first | decide | omega) rfl rfl ?_ | refine WL.storeW (vs := [_, _]) st.front5 ty_agg37 rfl rfl rfl rfl rfl rfl ?_ | refine WL.storeL (vs := [_, _]) st.front5 ty_agg37 rfl rfl rfl rfl (by first | decide | omega) rfl rfl ?_ | refine WL.storeW (vs := [_, _]) st.front6 ty_agg37 rfl rfl rfl rfl rfl rfl ?_ | refine WL.storeL (vs := [_, _]) st.front6 ty_agg37 rfl rfl rfl rfl (by first | decide | omega) rfl rfl ?_ | refine WL.storeW (vs := [_, _]) st.front7 ty_agg37 rfl rfl rfl rfl rfl rfl ?_ | refine WL.storeL (vs := [_, _]) st.front7 ty_agg37 rfl rfl rfl rfl (by first | decide | omega) rfl rfl ?_ | refine WL.storeW (vs := [_, _]) st.front8 ty_agg37 rfl rfl rfl rfl rfl rfl ?_ | refine WL.storeL (vs := [_, _]) st.front8 ty_agg37 rfl rfl rfl rfl (by first | decide | omega) rfl rfl ?_
  intro w st
  refine WL.fin hK552 (fun _ _ h => h) ?_
  refine WC.retC (vs := [_, _]) Tryd.results14 (fun _ _ h => h) rfl ty_agg37 rfl ⟨(by first | assumption | exact st.c0 (by first | decide | omega) | exact st.c1 (by first | decide | omega) | exact st.c2 (by first | decide | omega) | exact st.c3 (by first | decide | omega) | exact st.c4 (by first | decide | omega) | exact st.c5 (by first | decide | omega) | exact st.c6 (by first | decide | omega) | exact st.c7 (by first | decide | omega) | exact st.c8 (by first | decide | omega)), (by first | assumption | exact st.c0 (by first | decide | omega) | exact st.c1 (by first | decide | omega) | exact st.c2 (by first | decide | omega) | exact st.c3 (by first | decide | omega) | exact st.c4 (by first | decide | omega) | exact st.c5 (by first | decide | omega) | exact st.c6 (by first | decide | omega) | exact st.c7 (by first | decide | omega) | exact st.c8 (by first | decide | omega)), trivial⟩ ?_
  exact ⟨_, rfl, D, _, [], h, rfl, RV.none, st_in st.drop.drop⟩
end Go.Proofs.Qxb6500837aDoor

