import Derived.Test.Qxb6500841aDoorX15
set_option linter.unusedVariables false
set_option linter.unusedSimpArgs false
set_option maxRecDepth 20000
namespace Go.Proofs.Qxb6500841aDoor
open Go.RowKit Go.E1 Go.Wire
variable {w0 : World} {L : List HI} {w : World} {ET : Nat → TypeId} {EU : Nat → Value}

/-- An operation's cells. -/
abbrev opC (kd : Int) (f : FD) (d : Value) (off val : Int) : List Value := [.int .u8 kd, .int .u8 f.k, .int .u8 (f.e 0), .int .u8 (f.e 1), .int .u8 (f.e 2), .int .u8 (f.e 3), .int .u8 (f.e 4), .int .u8 (f.e 5), .int .u8 (f.e 6), .int .u8 (f.e 7), .int .u8 (f.e 8), .int .u8 (f.e 9), .int .u8 (f.e 10), .int .u8 (f.e 11), .int .u16 (f.e 12), .int .u8 (f.x 0), .int .u16 (f.x 1), .int .u16 (f.x 2), .int .u8 (f.x 3), .int .u16 (f.x 4), .int .u8 (f.x 5), .int .u8 (f.x 6), .int .u16 (f.x 7), .int .u8 (f.x 8), .int .u8 (f.x 9), .int .u8 (f.x 10), .int .u8 (f.x 11), .int .u8 (f.x 12), .int .u8 (f.x 13), .int .u8 (f.x 14), .int .u8 (f.x 15), f.s1.v, .int .u16 (f.t 0), .int .u16 (f.t 1), .int .u32 (f.t 2), .int .u32 (f.t 3), .int .u8 (f.t 4), .int .u8 (f.t 5), .int .u16 (f.t 6), .int .u16 (f.t 7), .int .u16 (f.t 8), f.s2.v, .int .u8 (f.y 0), .int .u8 (f.y 1), .int .u16 (f.y 2), .int .u32 (f.y 3), .int .u8 (f.z 0), .int .u16 (f.z 1), .int .u16 (f.z 2), .int .u8 (f.z 3), .int .u16 (f.z 4), .int .u8 (f.z 5), .int .u8 (f.z 6), .int .u16 (f.z 7), .int .u8 (f.z 8), .int .u8 (f.z 9), .int .u8 (f.z 10), .int .u8 (f.z 11), .int .u8 (f.z 12), .int .u8 (f.z 13), .int .u8 (f.z 14), .int .u8 (f.z 15), f.s3.v, f.s4.v, f.s5.v, d, .int .u32 off, .int .u16 val]

theorem r_ifcB {P : Program} {e : Env} {w : World} {d : Option Tmp} {ty : TypeId} {pos : String} {af : Array Edge} {g : Option (Nat × Bool)} {x : Operand} {T T' : TypeId} {v : Value} {tb : Bool} (hT : ifcT P T = true) (h : (tb = true ∧ ∃ T u, v = .iface T u) ∨ (tb = false ∧ v = .nilIface)) (hx : ev e x = v) :
    (execOp (ev e) ⟨d, .binOp .neq T x (.const .nilIface) T', ty, pos, af, g⟩).run P w = .ok (.value (.bool tb)) w := by
  rcases h with ⟨rfl, U, u, rfl⟩ | ⟨rfl, rfl⟩
  · exact r_some_neq hT hx
  · exact r_nil_neq hT hx

theorem st_cut2 {w0 : World} {M : Nat → Prop} {X Y N : List HI} {b : HI} {w : World} (h : St w0 M (X ++ (Y ++ b :: N)) w) : St w0 M (X ++ N) w :=
  h.sublist (List.Sublist.append_left ((List.sublist_cons_self b N).trans (List.sublist_append_right Y (b :: N))) X)
theorem st_cut1 {w0 : World} {M : Nat → Prop} {X N : List HI} {b : HI} {w : World} (h : St w0 M (X ++ b :: N) w) : St w0 M (X ++ N) w :=
  h.sublist (List.Sublist.append_left (List.sublist_cons_self b N) X)

theorem frB_len {f : FD} (h1 : f.s1.bs.length ≤ 65536) (h2 : f.s2.bs.length ≤ 65536) (h3 : f.s3.bs.length ≤ 65536) (h4 : f.s4.bs.length ≤ 65536) (h5 : f.s5.bs.length ≤ 65536) : (frB f).length ≤ 400000 := by
  unfold frB
  simp only [List.length_append, ethB_len]
  have a1 : (if f.k = 0 then [] else ipB f.x f.s1.bs).length ≤ 65556 := by
    split
    · simp
    · rw [ipB_len]; omega
  have a2 : (if f.k = 2 then tcpB f.t f.s2.bs else if f.k = 3 then icB f.y f.z f.s3.bs else []).length ≤ 65564 := by
    split
    · rw [tcpB_len]; omega
    · split
      · rw [icB_len]; omega
      · simp
  omega

/-- An operation of the script. -/
structure OpOk (w0 : World) (kd : Int) (f : FD) (d : SV) (off val : Int) : Prop where
  kr : 0 ≤ kd ∧ kd < 256
  ofr : 0 ≤ off ∧ off < 4294967296
  vr : 0 ≤ val ∧ val < 65536
  fok : f.ok
  dok : d.ok
  frd : ∀ l w', S0 w0 l w' → f.rd w'
  drd : ∀ l w', S0 w0 l w' → d.rd w'
  l1 : f.s1.bs.length ≤ 65536
  l2 : f.s2.bs.length ≤ 65536
  l3 : f.s3.bs.length ≤ 65536
  l4 : f.s4.bs.length ≤ 65536
  l5 : f.s5.bs.length ≤ 65536
  ld : d.bs.length ≤ 65536

set_option maxHeartbeats 16000000 in
theorem apply_ok (hE : ErrOk w0 ET EU) {v : Value} {bs : List Int} {XI : List HI} (kd : Int) (f : FD) (d : SV) (off val : Int) (hop : OpOk w0 kd f d off val) (ho : BO 5 v bs XI) (hb : bs.length ≤ 100000000) (st : S0 w0 (XI ++ L) w) :
    Calls Tryd.prog 26 #[v, .agg (opC kd f d.v off val).toArray] w (Ret fun v' w' => ∃ bs' XI', BO 5 v' bs' XI' ∧ (bs'.length ≤ 400000 ∨ bs'.length ≤ bs.length + d.bs.length) ∧ S0 w0 (XI' ++ (XI ++ L)) w') := by
  obtain ⟨sb, hsv, hsb, hsok, hsrd⟩ := ho.sv
  have kr := hop.kr
  have vr := hop.vr
  obtain ⟨o', ho'⟩ : ∃ o' : Nat, off = (o' : Int) := ⟨off.toNat, by have := hop.ofr; omega⟩
  have ho2 : o' < 4294967296 := by have := hop.ofr; omega
  have ld := hop.ld
  by_cases k0 : kd = 0
  · skip
    refine enter [v, .agg (opC kd f d.v off val).toArray] Tryd.func26 rfl Tryd.ntmps26 rfl ?_
    show WC _ _ _ 99 [] [(0, v), (1, .agg (opC kd f d.v off val).toArray)] _
    refine WC.seq fun K838 hK838 => ?_
    -- region 0
    refine WC.region ?_
    -- R0.0 3 := wirelaw.go:20 box
    refine WL.box (m := 68) (vs := opC kd f d.v off val) st rfl rfl rfl rfl rfl rfl ?_
    intro b3 w st
    have hcf : ∀ its w', S0 w0 (its ++ ((b3, Row 45 68 (nth (opC kd f d.v off val))) :: (XI ++ L))) w' → CF w' b3 0 68 (nth (opC kd f d.v off val)) := fun its w' q => cf_row (t := 45) q (by simp)
    -- R0.1 4 := wirelaw.go:20 assign
    refine WL.v (by first | exact r_assign (v := .slice _ _ _) rfl | exact r_assign rfl) rfl rfl rfl ?_
    refine WL.fin hK838 (fun _ _ h => h) ?_
    refine WC.seq fun K839 hK839 => ?_
    -- region 1
    refine WC.region ?_
    -- R1.0 12 := wirelaw.go:21 move
    refine WL.v (by first | exact r_move (v := .slice _ _ _) rfl | exact r_move rfl) rfl rfl rfl ?_
    -- R1.1 13 := wirelaw.go:21 call
    refine WL.appW (s := sb) (BR.nil _) hsok (hsrd st (fun x hx => by simp [hx])) (XI := []) st ty_mk25 ty_sl25 ty_zero5 rfl rfl hsv.symm (by rw [hsb]; simp; omega) (by rw [hsb]; simp; omega) rfl rfl rfl ?_
    intro vo XO w hbo st
    rw [List.nil_append, hsb] at hbo
    -- R1.2 5 := wirelaw.go:21 assign
    refine WL.v (by first | exact r_assign (v := .slice _ _ _) rfl | exact r_assign rfl) rfl rfl rfl ?_
    refine WL.fin hK839 (fun _ _ h => h) ?_
    refine WC.seq fun K840 hK840 => ?_
    -- region 2
    refine WC.region ?_
    -- R2.0 14 := wirelaw.go:22 fieldAddr
    refine WL.v (by exact r_field ty_fld45_3 rfl) rfl rfl rfl ?_
    -- R2.1 15 := wirelaw.go:22 load
    refine WL.v (by first | exact r_load1 ty_one37 rfl (hcf [] _ st 66 (by decide)) | exact r_load1 ty_one37 rfl (hcf _ _ st 66 (by decide)) | exact r_load1 ty_one37 rfl (hcf [_] _ st 66 (by decide)) | exact r_load1 ty_one37 rfl (hcf [_, _] _ st 66 (by decide)) | exact r_load1 ty_one37 rfl (hcf [_, _, _] _ st 66 (by decide))) rfl rfl rfl ?_
    -- R2.2 16 := wirelaw.go:22 convert
    refine WL.v (by exact r_conv (r := (o' : Int)) ty_cv37_3 rfl ((congrArg IntKind.i64.wrap ho').trans (wi64 (by omega) (by omega)))) rfl rfl rfl ?_
    -- R2.3 6 := wirelaw.go:22 assign
    refine WL.v (by first | exact r_assign (v := .int _ _) rfl | exact r_assign rfl) rfl rfl rfl ?_
    refine WL.fin hK840 (fun _ _ h => h) ?_
    refine WC.seq fun K841 hK841 => ?_
    refine WC.seq fun K842 hK842 => ?_
    -- region 3
    refine WC.region ?_
    -- R3.0 17 := wirelaw.go:23 fieldAddr
    refine WL.v (by exact r_field ty_fld45_0 rfl) rfl rfl rfl ?_
    -- R3.1 18 := wirelaw.go:23 load
    refine WL.v (by first | exact r_load1 ty_one26 rfl (hcf [] _ st 0 (by decide)) | exact r_load1 ty_one26 rfl (hcf _ _ st 0 (by decide)) | exact r_load1 ty_one26 rfl (hcf [_] _ st 0 (by decide)) | exact r_load1 ty_one26 rfl (hcf [_, _] _ st 0 (by decide)) | exact r_load1 ty_one26 rfl (hcf [_, _, _] _ st 0 (by decide))) rfl rfl rfl ?_
    refine WL.fin hK842 (fun _ _ h => h) ?_
    refine WC.block ?_
    refine WC.seq fun K843 hK843 => ?_
    -- region 4
    refine WC.region ?_
    -- R4.0 20 := wirelaw.go:24 binOp
    refine WL.v (by first | exact r_eql rfl rfl (decide_eq_true (by omega)) | exact r_eql rfl rfl (decide_eq_false (by omega)) | exact r_eql rfl rfl rfl) rfl rfl rfl ?_
    -- R4.1 19 := wirelaw.go:24 assign
    refine WL.v (by first | exact r_assign (v := .bool _) rfl | exact r_assign rfl) rfl rfl rfl ?_
    refine WL.fin hK843 (fun _ _ h => h) ?_
    refine WC.condT rfl rfl ?_
    refine WC.seq fun K844 hK844 => ?_
    -- region 5
    refine WC.region ?_
    -- R5.0 21 := wirelaw.go:25 fieldAddr
    refine WL.v (by exact r_field ty_fld45_2 rfl) rfl rfl rfl ?_
    -- R5.1 22 := wirelaw.go:25 load
    refine WL.v (by first | exact r_load1 ty_one25 rfl (hcf [] _ st 65 (by decide)) | exact r_load1 ty_one25 rfl (hcf _ _ st 65 (by decide)) | exact r_load1 ty_one25 rfl (hcf [_] _ st 65 (by decide)) | exact r_load1 ty_one25 rfl (hcf [_, _] _ st 65 (by decide)) | exact r_load1 ty_one25 rfl (hcf [_, _, _] _ st 65 (by decide))) rfl rfl rfl ?_
    -- R5.2 23 := wirelaw.go:25 call
    refine WL.appW (s := d) (BR.nil _) hop.dok (hop.drd _ _ st) (XI := []) st ty_mk25 ty_sl25 ty_zero5 rfl rfl rfl (by simp; omega) (by simp; omega) rfl rfl rfl ?_
    intro vn XN w hbn st
    -- R5.3 4 := wirelaw.go:25 assign
    refine WL.v (by first | exact r_assign (v := .slice _ _ _) rfl | exact r_assign rfl) rfl rfl rfl ?_
    refine WL.fin hK844 (fun _ _ h => h) ?_
    refine WC.ret1 Tryd.results26 (fun _ _ h => h) rfl ?_
    exact ⟨_, rfl, d.bs, XN, hbn.bo, .inr (by omega), st_cut2 st⟩
  by_cases k1 : kd = 1
  · skip
    refine enter [v, .agg (opC kd f d.v off val).toArray] Tryd.func26 rfl Tryd.ntmps26 rfl ?_
    show WC _ _ _ 99 [] [(0, v), (1, .agg (opC kd f d.v off val).toArray)] _
    refine WC.seq fun K845 hK845 => ?_
    -- region 0
    refine WC.region ?_
    -- R0.0 3 := wirelaw.go:20 box
    refine WL.box (m := 68) (vs := opC kd f d.v off val) st rfl rfl rfl rfl rfl rfl ?_
    intro b3 w st
    have hcf : ∀ its w', S0 w0 (its ++ ((b3, Row 45 68 (nth (opC kd f d.v off val))) :: (XI ++ L))) w' → CF w' b3 0 68 (nth (opC kd f d.v off val)) := fun its w' q => cf_row (t := 45) q (by simp)
    -- R0.1 4 := wirelaw.go:20 assign
    refine WL.v (by first | exact r_assign (v := .slice _ _ _) rfl | exact r_assign rfl) rfl rfl rfl ?_
    refine WL.fin hK845 (fun _ _ h => h) ?_
    refine WC.seq fun K846 hK846 => ?_
    -- region 1
    refine WC.region ?_
    -- R1.0 12 := wirelaw.go:21 move
    refine WL.v (by first | exact r_move (v := .slice _ _ _) rfl | exact r_move rfl) rfl rfl rfl ?_
    -- R1.1 13 := wirelaw.go:21 call
    refine WL.appW (s := sb) (BR.nil _) hsok (hsrd st (fun x hx => by simp [hx])) (XI := []) st ty_mk25 ty_sl25 ty_zero5 rfl rfl hsv.symm (by rw [hsb]; simp; omega) (by rw [hsb]; simp; omega) rfl rfl rfl ?_
    intro vo XO w hbo st
    rw [List.nil_append, hsb] at hbo
    -- R1.2 5 := wirelaw.go:21 assign
    refine WL.v (by first | exact r_assign (v := .slice _ _ _) rfl | exact r_assign rfl) rfl rfl rfl ?_
    refine WL.fin hK846 (fun _ _ h => h) ?_
    refine WC.seq fun K847 hK847 => ?_
    -- region 2
    refine WC.region ?_
    -- R2.0 14 := wirelaw.go:22 fieldAddr
    refine WL.v (by exact r_field ty_fld45_3 rfl) rfl rfl rfl ?_
    -- R2.1 15 := wirelaw.go:22 load
    refine WL.v (by first | exact r_load1 ty_one37 rfl (hcf [] _ st 66 (by decide)) | exact r_load1 ty_one37 rfl (hcf _ _ st 66 (by decide)) | exact r_load1 ty_one37 rfl (hcf [_] _ st 66 (by decide)) | exact r_load1 ty_one37 rfl (hcf [_, _] _ st 66 (by decide)) | exact r_load1 ty_one37 rfl (hcf [_, _, _] _ st 66 (by decide))) rfl rfl rfl ?_
    -- R2.2 16 := wirelaw.go:22 convert
    refine WL.v (by exact r_conv (r := (o' : Int)) ty_cv37_3 rfl ((congrArg IntKind.i64.wrap ho').trans (wi64 (by omega) (by omega)))) rfl rfl rfl ?_
    -- R2.3 6 := wirelaw.go:22 assign
    refine WL.v (by first | exact r_assign (v := .int _ _) rfl | exact r_assign rfl) rfl rfl rfl ?_
    refine WL.fin hK847 (fun _ _ h => h) ?_
    refine WC.seq fun K848 hK848 => ?_
    refine WC.seq fun K849 hK849 => ?_
    -- region 3
    refine WC.region ?_
    -- R3.0 17 := wirelaw.go:23 fieldAddr
    refine WL.v (by exact r_field ty_fld45_0 rfl) rfl rfl rfl ?_
    -- R3.1 18 := wirelaw.go:23 load
    refine WL.v (by first | exact r_load1 ty_one26 rfl (hcf [] _ st 0 (by decide)) | exact r_load1 ty_one26 rfl (hcf _ _ st 0 (by decide)) | exact r_load1 ty_one26 rfl (hcf [_] _ st 0 (by decide)) | exact r_load1 ty_one26 rfl (hcf [_, _] _ st 0 (by decide)) | exact r_load1 ty_one26 rfl (hcf [_, _, _] _ st 0 (by decide))) rfl rfl rfl ?_
    refine WL.fin hK849 (fun _ _ h => h) ?_
    refine WC.block ?_
    refine WC.seq fun K850 hK850 => ?_
    -- region 4
    refine WC.region ?_
    -- R4.0 20 := wirelaw.go:24 binOp
    refine WL.v (by first | exact r_eql rfl rfl (decide_eq_true (by omega)) | exact r_eql rfl rfl (decide_eq_false (by omega)) | exact r_eql rfl rfl rfl) rfl rfl rfl ?_
    -- R4.1 19 := wirelaw.go:24 assign
    refine WL.v (by first | exact r_assign (v := .bool _) rfl | exact r_assign rfl) rfl rfl rfl ?_
    refine WL.fin hK850 (fun _ _ h => h) ?_
    refine WC.condF rfl rfl ?_
    refine WC.seq fun K851 hK851 => ?_
    refine WC.seq fun K852 hK852 => ?_
    -- region 6
    refine WC.region ?_
    -- R6.0 25 := wirelaw.go:26 binOp
    refine WL.v (by first | exact r_eql rfl rfl (decide_eq_true (by omega)) | exact r_eql rfl rfl (decide_eq_false (by omega)) | exact r_eql rfl rfl rfl) rfl rfl rfl ?_
    -- R6.1 24 := wirelaw.go:26 assign
    refine WL.v (by first | exact r_assign (v := .bool _) rfl | exact r_assign rfl) rfl rfl rfl ?_
    refine WL.fin hK852 (fun _ _ h => h) ?_
    refine WC.condT rfl rfl ?_
    refine WC.skipF hK851 (fun _ _ h => h) ?_
    refine WC.condT rfl rfl ?_
    refine WC.seq fun K853 hK853 => ?_
    -- region 8
    refine WC.region ?_
    -- R8.0 27 := wirelaw.go:27 fieldAddr
    refine WL.v (by exact r_field ty_fld45_1 rfl) rfl rfl rfl ?_
    -- R8.1 28 := wirelaw.go:27 load
    refine WL.v (by first | exact r_loadL (vs := [_, _, _, _, _, _, _, _, _, _, _, _, _, _, _, _, _, _, _, _, _, _, _, _, _, _, _, _, _, _, _, _, _, _, _, _, _, _, _, _, _, _, _, _, _, _, _, _, _, _, _, _, _, _, _, _, _, _, _, _, _, _, _, _]) ty_agg43 rfl ⟨hcf [] _ st 1 (by decide), hcf [] _ st 2 (by decide), hcf [] _ st 3 (by decide), hcf [] _ st 4 (by decide), hcf [] _ st 5 (by decide), hcf [] _ st 6 (by decide), hcf [] _ st 7 (by decide), hcf [] _ st 8 (by decide), hcf [] _ st 9 (by decide), hcf [] _ st 10 (by decide), hcf [] _ st 11 (by decide), hcf [] _ st 12 (by decide), hcf [] _ st 13 (by decide), hcf [] _ st 14 (by decide), hcf [] _ st 15 (by decide), hcf [] _ st 16 (by decide), hcf [] _ st 17 (by decide), hcf [] _ st 18 (by decide), hcf [] _ st 19 (by decide), hcf [] _ st 20 (by decide), hcf [] _ st 21 (by decide), hcf [] _ st 22 (by decide), hcf [] _ st 23 (by decide), hcf [] _ st 24 (by decide), hcf [] _ st 25 (by decide), hcf [] _ st 26 (by decide), hcf [] _ st 27 (by decide), hcf [] _ st 28 (by decide), hcf [] _ st 29 (by decide), hcf [] _ st 30 (by decide), hcf [] _ st 31 (by decide), hcf [] _ st 32 (by decide), hcf [] _ st 33 (by decide), hcf [] _ st 34 (by decide), hcf [] _ st 35 (by decide), hcf [] _ st 36 (by decide), hcf [] _ st 37 (by decide), hcf [] _ st 38 (by decide), hcf [] _ st 39 (by decide), hcf [] _ st 40 (by decide), hcf [] _ st 41 (by decide), hcf [] _ st 42 (by decide), hcf [] _ st 43 (by decide), hcf [] _ st 44 (by decide), hcf [] _ st 45 (by decide), hcf [] _ st 46 (by decide), hcf [] _ st 47 (by decide), hcf [] _ st 48 (by decide), hcf [] _ st 49 (by decide), hcf [] _ st 50 (by decide), hcf [] _ st 51 (by decide), hcf [] _ st 52 (by decide), hcf [] _ st 53 (by decide), hcf [] _ st 54 (by decide), hcf [] _ st 55 (by decide), hcf [] _ st 56 (by decide), hcf [] _ st 57 (by decide), hcf [] _ st 58 (by decide), hcf [] _ st 59 (by decide), hcf [] _ st 60 (by decide), hcf [] _ st 61 (by decide), hcf [] _ st 62 (by decide), hcf [] _ st 63 (by decide), hcf [] _ st 64 (by decide), trivial⟩ | exact r_loadL (vs := [_, _, _, _, _, _, _, _, _, _, _, _, _, _, _, _, _, _, _, _, _, _, _, _, _, _, _, _, _, _, _, _, _, _, _, _, _, _, _, _, _, _, _, _, _, _, _, _, _, _, _, _, _, _, _, _, _, _, _, _, _, _, _, _]) ty_agg43 rfl ⟨hcf _ _ st 1 (by decide), hcf _ _ st 2 (by decide), hcf _ _ st 3 (by decide), hcf _ _ st 4 (by decide), hcf _ _ st 5 (by decide), hcf _ _ st 6 (by decide), hcf _ _ st 7 (by decide), hcf _ _ st 8 (by decide), hcf _ _ st 9 (by decide), hcf _ _ st 10 (by decide), hcf _ _ st 11 (by decide), hcf _ _ st 12 (by decide), hcf _ _ st 13 (by decide), hcf _ _ st 14 (by decide), hcf _ _ st 15 (by decide), hcf _ _ st 16 (by decide), hcf _ _ st 17 (by decide), hcf _ _ st 18 (by decide), hcf _ _ st 19 (by decide), hcf _ _ st 20 (by decide), hcf _ _ st 21 (by decide), hcf _ _ st 22 (by decide), hcf _ _ st 23 (by decide), hcf _ _ st 24 (by decide), hcf _ _ st 25 (by decide), hcf _ _ st 26 (by decide), hcf _ _ st 27 (by decide), hcf _ _ st 28 (by decide), hcf _ _ st 29 (by decide), hcf _ _ st 30 (by decide), hcf _ _ st 31 (by decide), hcf _ _ st 32 (by decide), hcf _ _ st 33 (by decide), hcf _ _ st 34 (by decide), hcf _ _ st 35 (by decide), hcf _ _ st 36 (by decide), hcf _ _ st 37 (by decide), hcf _ _ st 38 (by decide), hcf _ _ st 39 (by decide), hcf _ _ st 40 (by decide), hcf _ _ st 41 (by decide), hcf _ _ st 42 (by decide), hcf _ _ st 43 (by decide), hcf _ _ st 44 (by decide), hcf _ _ st 45 (by decide), hcf _ _ st 46 (by decide), hcf _ _ st 47 (by decide), hcf _ _ st 48 (by decide), hcf _ _ st 49 (by decide), hcf _ _ st 50 (by decide), hcf _ _ st 51 (by decide), hcf _ _ st 52 (by decide), hcf _ _ st 53 (by decide), hcf _ _ st 54 (by decide), hcf _ _ st 55 (by decide), hcf _ _ st 56 (by decide), hcf _ _ st 57 (by decide), hcf _ _ st 58 (by decide), hcf _ _ st 59 (by decide), hcf _ _ st 60 (by decide), hcf _ _ st 61 (by decide), hcf _ _ st 62 (by decide), hcf _ _ st 63 (by decide), hcf _ _ st 64 (by decide), trivial⟩ | exact r_loadL (vs := [_, _, _, _, _, _, _, _, _, _, _, _, _, _, _, _, _, _, _, _, _, _, _, _, _, _, _, _, _, _, _, _, _, _, _, _, _, _, _, _, _, _, _, _, _, _, _, _, _, _, _, _, _, _, _, _, _, _, _, _, _, _, _, _]) ty_agg43 rfl ⟨hcf [_] _ st 1 (by decide), hcf [_] _ st 2 (by decide), hcf [_] _ st 3 (by decide), hcf [_] _ st 4 (by decide), hcf [_] _ st 5 (by decide), hcf [_] _ st 6 (by decide), hcf [_] _ st 7 (by decide), hcf [_] _ st 8 (by decide), hcf [_] _ st 9 (by decide), hcf [_] _ st 10 (by decide), hcf [_] _ st 11 (by decide), hcf [_] _ st 12 (by decide), hcf [_] _ st 13 (by decide), hcf [_] _ st 14 (by decide), hcf [_] _ st 15 (by decide), hcf [_] _ st 16 (by decide), hcf [_] _ st 17 (by decide), hcf [_] _ st 18 (by decide), hcf [_] _ st 19 (by decide), hcf [_] _ st 20 (by decide), hcf [_] _ st 21 (by decide), hcf [_] _ st 22 (by decide), hcf [_] _ st 23 (by decide), hcf [_] _ st 24 (by decide), hcf [_] _ st 25 (by decide), hcf [_] _ st 26 (by decide), hcf [_] _ st 27 (by decide), hcf [_] _ st 28 (by decide), hcf [_] _ st 29 (by decide), hcf [_] _ st 30 (by decide), hcf [_] _ st 31 (by decide), hcf [_] _ st 32 (by decide), hcf [_] _ st 33 (by decide), hcf [_] _ st 34 (by decide), hcf [_] _ st 35 (by decide), hcf [_] _ st 36 (by decide), hcf [_] _ st 37 (by decide), hcf [_] _ st 38 (by decide), hcf [_] _ st 39 (by decide), hcf [_] _ st 40 (by decide), hcf [_] _ st 41 (by decide), hcf [_] _ st 42 (by decide), hcf [_] _ st 43 (by decide), hcf [_] _ st 44 (by decide), hcf [_] _ st 45 (by decide), hcf [_] _ st 46 (by decide), hcf [_] _ st 47 (by decide), hcf [_] _ st 48 (by decide), hcf [_] _ st 49 (by decide), hcf [_] _ st 50 (by decide), hcf [_] _ st 51 (by decide), hcf [_] _ st 52 (by decide), hcf [_] _ st 53 (by decide), hcf [_] _ st 54 (by decide), hcf [_] _ st 55 (by decide), hcf [_] _ st 56 (by decide), hcf [_] _ st 57 (by decide), hcf [_] _ st 58 (by decide), hcf [_] _ st 59 (by decide), hcf [_] _ st 60 (by decide), hcf [_] _ st 61 (by decide), hcf [_] _ st 62 (by decide), hcf [_] _ st 63 (by decide), hcf [_] _ st 64 (by decide), trivial⟩ | exact r_loadL (vs := [_, _, _, _, _, _, _, _, _, _, _, _, _, _, _, _, _, _, _, _, _, _, _, _, _, _, _, _, _, _, _, _, _, _, _, _, _, _, _, _, _, _, _, _, _, _, _, _, _, _, _, _, _, _, _, _, _, _, _, _, _, _, _, _]) ty_agg43 rfl ⟨hcf [_, _] _ st 1 (by decide), hcf [_, _] _ st 2 (by decide), hcf [_, _] _ st 3 (by decide), hcf [_, _] _ st 4 (by decide), hcf [_, _] _ st 5 (by decide), hcf [_, _] _ st 6 (by decide), hcf [_, _] _ st 7 (by decide), hcf [_, _] _ st 8 (by decide), hcf [_, _] _ st 9 (by decide), hcf [_, _] _ st 10 (by decide), hcf [_, _] _ st 11 (by decide), hcf [_, _] _ st 12 (by decide), hcf [_, _] _ st 13 (by decide), hcf [_, _] _ st 14 (by decide), hcf [_, _] _ st 15 (by decide), hcf [_, _] _ st 16 (by decide), hcf [_, _] _ st 17 (by decide), hcf [_, _] _ st 18 (by decide), hcf [_, _] _ st 19 (by decide), hcf [_, _] _ st 20 (by decide), hcf [_, _] _ st 21 (by decide), hcf [_, _] _ st 22 (by decide), hcf [_, _] _ st 23 (by decide), hcf [_, _] _ st 24 (by decide), hcf [_, _] _ st 25 (by decide), hcf [_, _] _ st 26 (by decide), hcf [_, _] _ st 27 (by decide), hcf [_, _] _ st 28 (by decide), hcf [_, _] _ st 29 (by decide), hcf [_, _] _ st 30 (by decide), hcf [_, _] _ st 31 (by decide), hcf [_, _] _ st 32 (by decide), hcf [_, _] _ st 33 (by decide), hcf [_, _] _ st 34 (by decide), hcf [_, _] _ st 35 (by decide), hcf [_, _] _ st 36 (by decide), hcf [_, _] _ st 37 (by decide), hcf [_, _] _ st 38 (by decide), hcf [_, _] _ st 39 (by decide), hcf [_, _] _ st 40 (by decide), hcf [_, _] _ st 41 (by decide), hcf [_, _] _ st 42 (by decide), hcf [_, _] _ st 43 (by decide), hcf [_, _] _ st 44 (by decide), hcf [_, _] _ st 45 (by decide), hcf [_, _] _ st 46 (by decide), hcf [_, _] _ st 47 (by decide), hcf [_, _] _ st 48 (by decide), hcf [_, _] _ st 49 (by decide), hcf [_, _] _ st 50 (by decide), hcf [_, _] _ st 51 (by decide), hcf [_, _] _ st 52 (by decide), hcf [_, _] _ st 53 (by decide), hcf [_, _] _ st 54 (by decide), hcf [_, _] _ st 55 (by decide), hcf [_, _] _ st 56 (by decide), hcf [_, _] _ st 57 (by decide), hcf [_, _] _ st 58 (by decide), hcf [_, _] _ st 59 (by decide), hcf [_, _] _ st 60 (by decide), hcf [_, _] _ st 61 (by decide), hcf [_, _] _ st 62 (by decide), hcf [_, _] _ st 63 (by decide), hcf [_, _] _ st 64 (by decide), trivial⟩ | exact r_loadL (vs := [_, _, _, _, _, _, _, _, _, _, _, _, _, _, _, _, _, _, _, _, _, _, _, _, _, _, _, _, _, _, _, _, _, _, _, _, _, _, _, _, _, _, _, _, _, _, _, _, _, _, _, _, _, _, _, _, _, _, _, _, _, _, _, _]) ty_agg43 rfl ⟨hcf [_, _, _] _ st 1 (by decide), hcf [_, _, _] _ st 2 (by decide), hcf [_, _, _] _ st 3 (by decide), hcf [_, _, _] _ st 4 (by decide), hcf [_, _, _] _ st 5 (by decide), hcf [_, _, _] _ st 6 (by decide), hcf [_, _, _] _ st 7 (by decide), hcf [_, _, _] _ st 8 (by decide), hcf [_, _, _] _ st 9 (by decide), hcf [_, _, _] _ st 10 (by decide), hcf [_, _, _] _ st 11 (by decide), hcf [_, _, _] _ st 12 (by decide), hcf [_, _, _] _ st 13 (by decide), hcf [_, _, _] _ st 14 (by decide), hcf [_, _, _] _ st 15 (by decide), hcf [_, _, _] _ st 16 (by decide), hcf [_, _, _] _ st 17 (by decide), hcf [_, _, _] _ st 18 (by decide), hcf [_, _, _] _ st 19 (by decide), hcf [_, _, _] _ st 20 (by decide), hcf [_, _, _] _ st 21 (by decide), hcf [_, _, _] _ st 22 (by decide), hcf [_, _, _] _ st 23 (by decide), hcf [_, _, _] _ st 24 (by decide), hcf [_, _, _] _ st 25 (by decide), hcf [_, _, _] _ st 26 (by decide), hcf [_, _, _] _ st 27 (by decide), hcf [_, _, _] _ st 28 (by decide), hcf [_, _, _] _ st 29 (by decide), hcf [_, _, _] _ st 30 (by decide), hcf [_, _, _] _ st 31 (by decide), hcf [_, _, _] _ st 32 (by decide), hcf [_, _, _] _ st 33 (by decide), hcf [_, _, _] _ st 34 (by decide), hcf [_, _, _] _ st 35 (by decide), hcf [_, _, _] _ st 36 (by decide), hcf [_, _, _] _ st 37 (by decide), hcf [_, _, _] _ st 38 (by decide), hcf [_, _, _] _ st 39 (by decide), hcf [_, _, _] _ st 40 (by decide), hcf [_, _, _] _ st 41 (by decide), hcf [_, _, _] _ st 42 (by decide), hcf [_, _, _] _ st 43 (by decide), hcf [_, _, _] _ st 44 (by decide), hcf [_, _, _] _ st 45 (by decide), hcf [_, _, _] _ st 46 (by decide), hcf [_, _, _] _ st 47 (by decide), hcf [_, _, _] _ st 48 (by decide), hcf [_, _, _] _ st 49 (by decide), hcf [_, _, _] _ st 50 (by decide), hcf [_, _, _] _ st 51 (by decide), hcf [_, _, _] _ st 52 (by decide), hcf [_, _, _] _ st 53 (by decide), hcf [_, _, _] _ st 54 (by decide), hcf [_, _, _] _ st 55 (by decide), hcf [_, _, _] _ st 56 (by decide), hcf [_, _, _] _ st 57 (by decide), hcf [_, _, _] _ st 58 (by decide), hcf [_, _, _] _ st 59 (by decide), hcf [_, _, _] _ st 60 (by decide), hcf [_, _, _] _ st 61 (by decide), hcf [_, _, _] _ st 62 (by decide), hcf [_, _, _] _ st 63 (by decide), hcf [_, _, _] _ st 64 (by decide), trivial⟩) rfl rfl rfl ?_
    -- R8.2 7 := wirelaw.go:27 alloc
    refine WL.alloc (m := 64) st ty_zero43 rfl rfl rfl ?_
    intro b7 w st
    -- R8.3 None := wirelaw.go:27 store
    refine WL.storeW (m := 64) (vs := f.cs) st ty_agg43 rfl rfl rfl rfl rfl rfl ?_
    intro w st
    refine WL.fin hK853 (fun _ _ h => h) ?_
    refine WC.seq fun K854 hK854 => ?_
    refine WC.seq fun K855 hK855 => ?_
    -- region 9
    refine WC.region ?_
    -- R9.0 29 := wirelaw.go:28 fieldAddr
    refine WL.v (by exact r_field ty_fld45_0 rfl) rfl rfl rfl ?_
    -- R9.1 30 := wirelaw.go:28 load
    refine WL.v (by exact r_load1 ty_one26 rfl (hcf (_ :: XO) _ st 0 (by decide))) rfl rfl rfl ?_
    -- R9.2 31 := wirelaw.go:28 binOp
    refine WL.v (by first | exact r_eql rfl rfl (decide_eq_true (by omega)) | exact r_eql rfl rfl (decide_eq_false (by omega)) | exact r_eql rfl rfl rfl) rfl rfl rfl ?_
    -- R9.3 32 := wirelaw.go:28 move
    refine WL.v (by first | exact r_move (v := .bool _) rfl | exact r_move rfl) rfl rfl rfl ?_
    -- R9.4 33 := wirelaw.go:28 call
    refine WL.no rfl rfl ?_
    -- R9.5 34 := wirelaw.go:28 binOp
    refine WL.no rfl rfl ?_
    -- R9.6 35 := wirelaw.go:28 pick
    refine WL.v (by first | exact r_pickT (v := .bool _) rfl rfl | exact r_pickF (v := .bool _) rfl rfl) rfl rfl rfl ?_
    refine WL.fin hK855 (fun _ _ h => h) ?_
    refine WC.condF rfl rfl ?_
    refine WC.skipF hK854 (fun _ _ h => h) ?_
    refine WC.seq fun K856 hK856 => ?_
    -- region 11
    refine WC.region ?_
    -- R11.0 38 := wirelaw.go:31 call
    refine WL.call (r_call ty_call11 rfl) rfl rfl rfl (ser_ok hE b7 0 f hop.fok (fun its w' q => ⟨cf_row (t := 43) q (by simp), hop.frd _ _ q⟩) st) ?_
    rintro vs w ⟨vn, er, XS, rfl, st, hser⟩
    -- R11.1 37 := wirelaw.go:31 move
    refine WL.v (by first | exact r_move (v := .tuple _) rfl | exact r_move rfl) rfl rfl rfl ?_
    -- R11.2 39 := wirelaw.go:31 extract
    refine WL.v (by first | exact r_extract (v := .slice _ _ _) rfl rfl | exact r_extract rfl rfl) rfl rfl rfl ?_
    -- R11.3 40 := wirelaw.go:31 extract
    refine WL.v (by first | exact r_extract (v := .nilIface) rfl rfl | exact r_extract (v := .iface _ _) rfl rfl | exact r_extract rfl rfl) rfl rfl rfl ?_
    -- R11.4 8 := wirelaw.go:31 assign
    refine WL.v (by first | exact r_assign (v := .slice _ _ _) rfl | exact r_assign rfl) rfl rfl rfl ?_
    -- R11.5 9 := wirelaw.go:31 assign
    refine WL.v (by first | exact r_assign (v := .nilIface) rfl | exact r_assign (v := .iface _ _) rfl | exact r_assign rfl) rfl rfl rfl ?_
    refine WL.fin hK856 (fun _ _ h => h) ?_
    rcases hser with ⟨_, ⟨T, u, rfl⟩, _⟩ | ⟨_, rfl, hbn⟩
    · skip
      refine WC.seq fun K857 hK857 => ?_
      -- region 12
      refine WC.region ?_
      -- R12.0 41 := wirelaw.go:31 move
      refine WL.v (by first | exact r_move (v := .nilIface) rfl | exact r_move (v := .iface _ _) rfl | exact r_move rfl) rfl rfl rfl ?_
      -- R12.1 42 := wirelaw.go:31 binOp
      refine WL.v (by first | exact r_nil_eql ty_ifc47 rfl | exact r_some_eql ty_ifc47 rfl) rfl rfl rfl ?_
      refine WL.fin hK857 (fun _ _ h => h) ?_
      refine WC.condF rfl rfl ?_
      refine WC.skipF hK848 (fun _ _ h => h) ?_
      refine WC.seq fun K858 hK858 => ?_
      -- region 26
      refine WC.region ?_
      -- R26.0 98 := wirelaw.go:48 move
      refine WL.v (by first | exact r_move (v := .slice _ _ _) rfl | exact r_move rfl) rfl rfl rfl ?_
      -- R26.1 4 := wirelaw.go:48 assign
      refine WL.v (by first | exact r_assign (v := .slice _ _ _) rfl | exact r_assign rfl) rfl rfl rfl ?_
      refine WL.fin hK858 (fun _ _ h => h) ?_
      refine WC.ret1 Tryd.results26 (fun _ _ h => h) rfl ?_
      exact ⟨_, rfl, bs, XO, hbo.bo, .inr (by omega), st_cut1 ((st_dropL st).drop)⟩
    · skip
      refine WC.seq fun K859 hK859 => ?_
      -- region 12
      refine WC.region ?_
      -- R12.0 41 := wirelaw.go:31 move
      refine WL.v (by first | exact r_move (v := .nilIface) rfl | exact r_move (v := .iface _ _) rfl | exact r_move rfl) rfl rfl rfl ?_
      -- R12.1 42 := wirelaw.go:31 binOp
      refine WL.v (by first | exact r_nil_eql ty_ifc47 rfl | exact r_some_eql ty_ifc47 rfl) rfl rfl rfl ?_
      refine WL.fin hK859 (fun _ _ h => h) ?_
      refine WC.condT rfl rfl ?_
      refine WC.seq fun K860 hK860 => ?_
      -- region 13
      refine WC.region ?_
      -- R13.0 43 := wirelaw.go:32 move
      refine WL.v (by first | exact r_move (v := .slice _ _ _) rfl | exact r_move rfl) rfl rfl rfl ?_
      -- R13.1 4 := wirelaw.go:32 assign
      refine WL.v (by first | exact r_assign (v := .slice _ _ _) rfl | exact r_assign rfl) rfl rfl rfl ?_
      refine WL.fin hK860 (fun _ _ h => h) ?_
      refine WC.ret1 Tryd.results26 (fun _ _ h => h) rfl ?_
      exact ⟨_, rfl, _, XS, hbn, .inl (frB_len hop.l1 hop.l2 hop.l3 hop.l4 hop.l5), st_cut2 (Y := [_] ++ XO) st⟩
  by_cases k2 : kd = 2
  · skip
    refine enter [v, .agg (opC kd f d.v off val).toArray] Tryd.func26 rfl Tryd.ntmps26 rfl ?_
    show WC _ _ _ 99 [] [(0, v), (1, .agg (opC kd f d.v off val).toArray)] _
    refine WC.seq fun K861 hK861 => ?_
    -- region 0
    refine WC.region ?_
    -- R0.0 3 := wirelaw.go:20 box
    refine WL.box (m := 68) (vs := opC kd f d.v off val) st rfl rfl rfl rfl rfl rfl ?_
    intro b3 w st
    have hcf : ∀ its w', S0 w0 (its ++ ((b3, Row 45 68 (nth (opC kd f d.v off val))) :: (XI ++ L))) w' → CF w' b3 0 68 (nth (opC kd f d.v off val)) := fun its w' q => cf_row (t := 45) q (by simp)
    -- R0.1 4 := wirelaw.go:20 assign
    refine WL.v (by first | exact r_assign (v := .slice _ _ _) rfl | exact r_assign rfl) rfl rfl rfl ?_
    refine WL.fin hK861 (fun _ _ h => h) ?_
    refine WC.seq fun K862 hK862 => ?_
    -- region 1
    refine WC.region ?_
    -- R1.0 12 := wirelaw.go:21 move
    refine WL.v (by first | exact r_move (v := .slice _ _ _) rfl | exact r_move rfl) rfl rfl rfl ?_
    -- R1.1 13 := wirelaw.go:21 call
    refine WL.appW (s := sb) (BR.nil _) hsok (hsrd st (fun x hx => by simp [hx])) (XI := []) st ty_mk25 ty_sl25 ty_zero5 rfl rfl hsv.symm (by rw [hsb]; simp; omega) (by rw [hsb]; simp; omega) rfl rfl rfl ?_
    intro vo XO w hbo st
    rw [List.nil_append, hsb] at hbo
    -- R1.2 5 := wirelaw.go:21 assign
    refine WL.v (by first | exact r_assign (v := .slice _ _ _) rfl | exact r_assign rfl) rfl rfl rfl ?_
    refine WL.fin hK862 (fun _ _ h => h) ?_
    refine WC.seq fun K863 hK863 => ?_
    -- region 2
    refine WC.region ?_
    -- R2.0 14 := wirelaw.go:22 fieldAddr
    refine WL.v (by exact r_field ty_fld45_3 rfl) rfl rfl rfl ?_
    -- R2.1 15 := wirelaw.go:22 load
    refine WL.v (by first | exact r_load1 ty_one37 rfl (hcf [] _ st 66 (by decide)) | exact r_load1 ty_one37 rfl (hcf _ _ st 66 (by decide)) | exact r_load1 ty_one37 rfl (hcf [_] _ st 66 (by decide)) | exact r_load1 ty_one37 rfl (hcf [_, _] _ st 66 (by decide)) | exact r_load1 ty_one37 rfl (hcf [_, _, _] _ st 66 (by decide))) rfl rfl rfl ?_
    -- R2.2 16 := wirelaw.go:22 convert
    refine WL.v (by exact r_conv (r := (o' : Int)) ty_cv37_3 rfl ((congrArg IntKind.i64.wrap ho').trans (wi64 (by omega) (by omega)))) rfl rfl rfl ?_
    -- R2.3 6 := wirelaw.go:22 assign
    refine WL.v (by first | exact r_assign (v := .int _ _) rfl | exact r_assign rfl) rfl rfl rfl ?_
    refine WL.fin hK863 (fun _ _ h => h) ?_
    refine WC.seq fun K864 hK864 => ?_
    refine WC.seq fun K865 hK865 => ?_
    -- region 3
    refine WC.region ?_
    -- R3.0 17 := wirelaw.go:23 fieldAddr
    refine WL.v (by exact r_field ty_fld45_0 rfl) rfl rfl rfl ?_
    -- R3.1 18 := wirelaw.go:23 load
    refine WL.v (by first | exact r_load1 ty_one26 rfl (hcf [] _ st 0 (by decide)) | exact r_load1 ty_one26 rfl (hcf _ _ st 0 (by decide)) | exact r_load1 ty_one26 rfl (hcf [_] _ st 0 (by decide)) | exact r_load1 ty_one26 rfl (hcf [_, _] _ st 0 (by decide)) | exact r_load1 ty_one26 rfl (hcf [_, _, _] _ st 0 (by decide))) rfl rfl rfl ?_
    refine WL.fin hK865 (fun _ _ h => h) ?_
    refine WC.block ?_
    refine WC.seq fun K866 hK866 => ?_
    -- region 4
    refine WC.region ?_
    -- R4.0 20 := wirelaw.go:24 binOp
    refine WL.v (by first | exact r_eql rfl rfl (decide_eq_true (by omega)) | exact r_eql rfl rfl (decide_eq_false (by omega)) | exact r_eql rfl rfl rfl) rfl rfl rfl ?_
    -- R4.1 19 := wirelaw.go:24 assign
    refine WL.v (by first | exact r_assign (v := .bool _) rfl | exact r_assign rfl) rfl rfl rfl ?_
    refine WL.fin hK866 (fun _ _ h => h) ?_
    refine WC.condF rfl rfl ?_
    refine WC.seq fun K867 hK867 => ?_
    refine WC.seq fun K868 hK868 => ?_
    -- region 6
    refine WC.region ?_
    -- R6.0 25 := wirelaw.go:26 binOp
    refine WL.v (by first | exact r_eql rfl rfl (decide_eq_true (by omega)) | exact r_eql rfl rfl (decide_eq_false (by omega)) | exact r_eql rfl rfl rfl) rfl rfl rfl ?_
    -- R6.1 24 := wirelaw.go:26 assign
    refine WL.v (by first | exact r_assign (v := .bool _) rfl | exact r_assign rfl) rfl rfl rfl ?_
    refine WL.fin hK868 (fun _ _ h => h) ?_
    refine WC.condF rfl rfl ?_
    -- region 7
    refine WC.region ?_
    -- R7.0 26 := wirelaw.go:26 binOp
    refine WL.v (by first | exact r_eql rfl rfl (decide_eq_true (by omega)) | exact r_eql rfl rfl (decide_eq_false (by omega)) | exact r_eql rfl rfl rfl) rfl rfl rfl ?_
    -- R7.1 24 := wirelaw.go:26 assign
    refine WL.v (by first | exact r_assign (v := .bool _) rfl | exact r_assign rfl) rfl rfl rfl ?_
    refine WL.fin hK867 (fun _ _ h => h) ?_
    refine WC.condT rfl rfl ?_
    refine WC.seq fun K869 hK869 => ?_
    -- region 8
    refine WC.region ?_
    -- R8.0 27 := wirelaw.go:27 fieldAddr
    refine WL.v (by exact r_field ty_fld45_1 rfl) rfl rfl rfl ?_
    -- R8.1 28 := wirelaw.go:27 load
    refine WL.v (by first | exact r_loadL (vs := [_, _, _, _, _, _, _, _, _, _, _, _, _, _, _, _, _, _, _, _, _, _, _, _, _, _, _, _, _, _, _, _, _, _, _, _, _, _, _, _, _, _, _, _, _, _, _, _, _, _, _, _, _, _, _, _, _, _, _, _, _, _, _, _]) ty_agg43 rfl ⟨hcf [] _ st 1 (by decide), hcf [] _ st 2 (by decide), hcf [] _ st 3 (by decide), hcf [] _ st 4 (by decide), hcf [] _ st 5 (by decide), hcf [] _ st 6 (by decide), hcf [] _ st 7 (by decide), hcf [] _ st 8 (by decide), hcf [] _ st 9 (by decide), hcf [] _ st 10 (by decide), hcf [] _ st 11 (by decide), hcf [] _ st 12 (by decide), hcf [] _ st 13 (by decide), hcf [] _ st 14 (by decide), hcf [] _ st 15 (by decide), hcf [] _ st 16 (by decide), hcf [] _ st 17 (by decide), hcf [] _ st 18 (by decide), hcf [] _ st 19 (by decide), hcf [] _ st 20 (by decide), hcf [] _ st 21 (by decide), hcf [] _ st 22 (by decide), hcf [] _ st 23 (by decide), hcf [] _ st 24 (by decide), hcf [] _ st 25 (by decide), hcf [] _ st 26 (by decide), hcf [] _ st 27 (by decide), hcf [] _ st 28 (by decide), hcf [] _ st 29 (by decide), hcf [] _ st 30 (by decide), hcf [] _ st 31 (by decide), hcf [] _ st 32 (by decide), hcf [] _ st 33 (by decide), hcf [] _ st 34 (by decide), hcf [] _ st 35 (by decide), hcf [] _ st 36 (by decide), hcf [] _ st 37 (by decide), hcf [] _ st 38 (by decide), hcf [] _ st 39 (by decide), hcf [] _ st 40 (by decide), hcf [] _ st 41 (by decide), hcf [] _ st 42 (by decide), hcf [] _ st 43 (by decide), hcf [] _ st 44 (by decide), hcf [] _ st 45 (by decide), hcf [] _ st 46 (by decide), hcf [] _ st 47 (by decide), hcf [] _ st 48 (by decide), hcf [] _ st 49 (by decide), hcf [] _ st 50 (by decide), hcf [] _ st 51 (by decide), hcf [] _ st 52 (by decide), hcf [] _ st 53 (by decide), hcf [] _ st 54 (by decide), hcf [] _ st 55 (by decide), hcf [] _ st 56 (by decide), hcf [] _ st 57 (by decide), hcf [] _ st 58 (by decide), hcf [] _ st 59 (by decide), hcf [] _ st 60 (by decide), hcf [] _ st 61 (by decide), hcf [] _ st 62 (by decide), hcf [] _ st 63 (by decide), hcf [] _ st 64 (by decide), trivial⟩ | exact r_loadL (vs := [_, _, _, _, _, _, _, _, _, _, _, _, _, _, _, _, _, _, _, _, _, _, _, _, _, _, _, _, _, _, _, _, _, _, _, _, _, _, _, _, _, _, _, _, _, _, _, _, _, _, _, _, _, _, _, _, _, _, _, _, _, _, _, _]) ty_agg43 rfl ⟨hcf _ _ st 1 (by decide), hcf _ _ st 2 (by decide), hcf _ _ st 3 (by decide), hcf _ _ st 4 (by decide), hcf _ _ st 5 (by decide), hcf _ _ st 6 (by decide), hcf _ _ st 7 (by decide), hcf _ _ st 8 (by decide), hcf _ _ st 9 (by decide), hcf _ _ st 10 (by decide), hcf _ _ st 11 (by decide), hcf _ _ st 12 (by decide), hcf _ _ st 13 (by decide), hcf _ _ st 14 (by decide), hcf _ _ st 15 (by decide), hcf _ _ st 16 (by decide), hcf _ _ st 17 (by decide), hcf _ _ st 18 (by decide), hcf _ _ st 19 (by decide), hcf _ _ st 20 (by decide), hcf _ _ st 21 (by decide), hcf _ _ st 22 (by decide), hcf _ _ st 23 (by decide), hcf _ _ st 24 (by decide), hcf _ _ st 25 (by decide), hcf _ _ st 26 (by decide), hcf _ _ st 27 (by decide), hcf _ _ st 28 (by decide), hcf _ _ st 29 (by decide), hcf _ _ st 30 (by decide), hcf _ _ st 31 (by decide), hcf _ _ st 32 (by decide), hcf _ _ st 33 (by decide), hcf _ _ st 34 (by decide), hcf _ _ st 35 (by decide), hcf _ _ st 36 (by decide), hcf _ _ st 37 (by decide), hcf _ _ st 38 (by decide), hcf _ _ st 39 (by decide), hcf _ _ st 40 (by decide), hcf _ _ st 41 (by decide), hcf _ _ st 42 (by decide), hcf _ _ st 43 (by decide), hcf _ _ st 44 (by decide), hcf _ _ st 45 (by decide), hcf _ _ st 46 (by decide), hcf _ _ st 47 (by decide), hcf _ _ st 48 (by decide), hcf _ _ st 49 (by decide), hcf _ _ st 50 (by decide), hcf _ _ st 51 (by decide), hcf _ _ st 52 (by decide), hcf _ _ st 53 (by decide), hcf _ _ st 54 (by decide), hcf _ _ st 55 (by decide), hcf _ _ st 56 (by decide), hcf _ _ st 57 (by decide), hcf _ _ st 58 (by decide), hcf _ _ st 59 (by decide), hcf _ _ st 60 (by decide), hcf _ _ st 61 (by decide), hcf _ _ st 62 (by decide), hcf _ _ st 63 (by decide), hcf _ _ st 64 (by decide), trivial⟩ | exact r_loadL (vs := [_, _, _, _, _, _, _, _, _, _, _, _, _, _, _, _, _, _, _, _, _, _, _, _, _, _, _, _, _, _, _, _, _, _, _, _, _, _, _, _, _, _, _, _, _, _, _, _, _, _, _, _, _, _, _, _, _, _, _, _, _, _, _, _]) ty_agg43 rfl ⟨hcf [_] _ st 1 (by decide), hcf [_] _ st 2 (by decide), hcf [_] _ st 3 (by decide), hcf [_] _ st 4 (by decide), hcf [_] _ st 5 (by decide), hcf [_] _ st 6 (by decide), hcf [_] _ st 7 (by decide), hcf [_] _ st 8 (by decide), hcf [_] _ st 9 (by decide), hcf [_] _ st 10 (by decide), hcf [_] _ st 11 (by decide), hcf [_] _ st 12 (by decide), hcf [_] _ st 13 (by decide), hcf [_] _ st 14 (by decide), hcf [_] _ st 15 (by decide), hcf [_] _ st 16 (by decide), hcf [_] _ st 17 (by decide), hcf [_] _ st 18 (by decide), hcf [_] _ st 19 (by decide), hcf [_] _ st 20 (by decide), hcf [_] _ st 21 (by decide), hcf [_] _ st 22 (by decide), hcf [_] _ st 23 (by decide), hcf [_] _ st 24 (by decide), hcf [_] _ st 25 (by decide), hcf [_] _ st 26 (by decide), hcf [_] _ st 27 (by decide), hcf [_] _ st 28 (by decide), hcf [_] _ st 29 (by decide), hcf [_] _ st 30 (by decide), hcf [_] _ st 31 (by decide), hcf [_] _ st 32 (by decide), hcf [_] _ st 33 (by decide), hcf [_] _ st 34 (by decide), hcf [_] _ st 35 (by decide), hcf [_] _ st 36 (by decide), hcf [_] _ st 37 (by decide), hcf [_] _ st 38 (by decide), hcf [_] _ st 39 (by decide), hcf [_] _ st 40 (by decide), hcf [_] _ st 41 (by decide), hcf [_] _ st 42 (by decide), hcf [_] _ st 43 (by decide), hcf [_] _ st 44 (by decide), hcf [_] _ st 45 (by decide), hcf [_] _ st 46 (by decide), hcf [_] _ st 47 (by decide), hcf [_] _ st 48 (by decide), hcf [_] _ st 49 (by decide), hcf [_] _ st 50 (by decide), hcf [_] _ st 51 (by decide), hcf [_] _ st 52 (by decide), hcf [_] _ st 53 (by decide), hcf [_] _ st 54 (by decide), hcf [_] _ st 55 (by decide), hcf [_] _ st 56 (by decide), hcf [_] _ st 57 (by decide), hcf [_] _ st 58 (by decide), hcf [_] _ st 59 (by decide), hcf [_] _ st 60 (by decide), hcf [_] _ st 61 (by decide), hcf [_] _ st 62 (by decide), hcf [_] _ st 63 (by decide), hcf [_] _ st 64 (by decide), trivial⟩ | exact r_loadL (vs := [_, _, _, _, _, _, _, _, _, _, _, _, _, _, _, _, _, _, _, _, _, _, _, _, _, _, _, _, _, _, _, _, _, _, _, _, _, _, _, _, _, _, _, _, _, _, _, _, _, _, _, _, _, _, _, _, _, _, _, _, _, _, _, _]) ty_agg43 rfl ⟨hcf [_, _] _ st 1 (by decide), hcf [_, _] _ st 2 (by decide), hcf [_, _] _ st 3 (by decide), hcf [_, _] _ st 4 (by decide), hcf [_, _] _ st 5 (by decide), hcf [_, _] _ st 6 (by decide), hcf [_, _] _ st 7 (by decide), hcf [_, _] _ st 8 (by decide), hcf [_, _] _ st 9 (by decide), hcf [_, _] _ st 10 (by decide), hcf [_, _] _ st 11 (by decide), hcf [_, _] _ st 12 (by decide), hcf [_, _] _ st 13 (by decide), hcf [_, _] _ st 14 (by decide), hcf [_, _] _ st 15 (by decide), hcf [_, _] _ st 16 (by decide), hcf [_, _] _ st 17 (by decide), hcf [_, _] _ st 18 (by decide), hcf [_, _] _ st 19 (by decide), hcf [_, _] _ st 20 (by decide), hcf [_, _] _ st 21 (by decide), hcf [_, _] _ st 22 (by decide), hcf [_, _] _ st 23 (by decide), hcf [_, _] _ st 24 (by decide), hcf [_, _] _ st 25 (by decide), hcf [_, _] _ st 26 (by decide), hcf [_, _] _ st 27 (by decide), hcf [_, _] _ st 28 (by decide), hcf [_, _] _ st 29 (by decide), hcf [_, _] _ st 30 (by decide), hcf [_, _] _ st 31 (by decide), hcf [_, _] _ st 32 (by decide), hcf [_, _] _ st 33 (by decide), hcf [_, _] _ st 34 (by decide), hcf [_, _] _ st 35 (by decide), hcf [_, _] _ st 36 (by decide), hcf [_, _] _ st 37 (by decide), hcf [_, _] _ st 38 (by decide), hcf [_, _] _ st 39 (by decide), hcf [_, _] _ st 40 (by decide), hcf [_, _] _ st 41 (by decide), hcf [_, _] _ st 42 (by decide), hcf [_, _] _ st 43 (by decide), hcf [_, _] _ st 44 (by decide), hcf [_, _] _ st 45 (by decide), hcf [_, _] _ st 46 (by decide), hcf [_, _] _ st 47 (by decide), hcf [_, _] _ st 48 (by decide), hcf [_, _] _ st 49 (by decide), hcf [_, _] _ st 50 (by decide), hcf [_, _] _ st 51 (by decide), hcf [_, _] _ st 52 (by decide), hcf [_, _] _ st 53 (by decide), hcf [_, _] _ st 54 (by decide), hcf [_, _] _ st 55 (by decide), hcf [_, _] _ st 56 (by decide), hcf [_, _] _ st 57 (by decide), hcf [_, _] _ st 58 (by decide), hcf [_, _] _ st 59 (by decide), hcf [_, _] _ st 60 (by decide), hcf [_, _] _ st 61 (by decide), hcf [_, _] _ st 62 (by decide), hcf [_, _] _ st 63 (by decide), hcf [_, _] _ st 64 (by decide), trivial⟩ | exact r_loadL (vs := [_, _, _, _, _, _, _, _, _, _, _, _, _, _, _, _, _, _, _, _, _, _, _, _, _, _, _, _, _, _, _, _, _, _, _, _, _, _, _, _, _, _, _, _, _, _, _, _, _, _, _, _, _, _, _, _, _, _, _, _, _, _, _, _]) ty_agg43 rfl ⟨hcf [_, _, _] _ st 1 (by decide), hcf [_, _, _] _ st 2 (by decide), hcf [_, _, _] _ st 3 (by decide), hcf [_, _, _] _ st 4 (by decide), hcf [_, _, _] _ st 5 (by decide), hcf [_, _, _] _ st 6 (by decide), hcf [_, _, _] _ st 7 (by decide), hcf [_, _, _] _ st 8 (by decide), hcf [_, _, _] _ st 9 (by decide), hcf [_, _, _] _ st 10 (by decide), hcf [_, _, _] _ st 11 (by decide), hcf [_, _, _] _ st 12 (by decide), hcf [_, _, _] _ st 13 (by decide), hcf [_, _, _] _ st 14 (by decide), hcf [_, _, _] _ st 15 (by decide), hcf [_, _, _] _ st 16 (by decide), hcf [_, _, _] _ st 17 (by decide), hcf [_, _, _] _ st 18 (by decide), hcf [_, _, _] _ st 19 (by decide), hcf [_, _, _] _ st 20 (by decide), hcf [_, _, _] _ st 21 (by decide), hcf [_, _, _] _ st 22 (by decide), hcf [_, _, _] _ st 23 (by decide), hcf [_, _, _] _ st 24 (by decide), hcf [_, _, _] _ st 25 (by decide), hcf [_, _, _] _ st 26 (by decide), hcf [_, _, _] _ st 27 (by decide), hcf [_, _, _] _ st 28 (by decide), hcf [_, _, _] _ st 29 (by decide), hcf [_, _, _] _ st 30 (by decide), hcf [_, _, _] _ st 31 (by decide), hcf [_, _, _] _ st 32 (by decide), hcf [_, _, _] _ st 33 (by decide), hcf [_, _, _] _ st 34 (by decide), hcf [_, _, _] _ st 35 (by decide), hcf [_, _, _] _ st 36 (by decide), hcf [_, _, _] _ st 37 (by decide), hcf [_, _, _] _ st 38 (by decide), hcf [_, _, _] _ st 39 (by decide), hcf [_, _, _] _ st 40 (by decide), hcf [_, _, _] _ st 41 (by decide), hcf [_, _, _] _ st 42 (by decide), hcf [_, _, _] _ st 43 (by decide), hcf [_, _, _] _ st 44 (by decide), hcf [_, _, _] _ st 45 (by decide), hcf [_, _, _] _ st 46 (by decide), hcf [_, _, _] _ st 47 (by decide), hcf [_, _, _] _ st 48 (by decide), hcf [_, _, _] _ st 49 (by decide), hcf [_, _, _] _ st 50 (by decide), hcf [_, _, _] _ st 51 (by decide), hcf [_, _, _] _ st 52 (by decide), hcf [_, _, _] _ st 53 (by decide), hcf [_, _, _] _ st 54 (by decide), hcf [_, _, _] _ st 55 (by decide), hcf [_, _, _] _ st 56 (by decide), hcf [_, _, _] _ st 57 (by decide), hcf [_, _, _] _ st 58 (by decide), hcf [_, _, _] _ st 59 (by decide), hcf [_, _, _] _ st 60 (by decide), hcf [_, _, _] _ st 61 (by decide), hcf [_, _, _] _ st 62 (by decide), hcf [_, _, _] _ st 63 (by decide), hcf [_, _, _] _ st 64 (by decide), trivial⟩) rfl rfl rfl ?_
    -- R8.2 7 := wirelaw.go:27 alloc
    refine WL.alloc (m := 64) st ty_zero43 rfl rfl rfl ?_
    intro b7 w st
    -- R8.3 None := wirelaw.go:27 store
    refine WL.storeW (m := 64) (vs := f.cs) st ty_agg43 rfl rfl rfl rfl rfl rfl ?_
    intro w st
    refine WL.fin hK869 (fun _ _ h => h) ?_
    refine WC.seq fun K870 hK870 => ?_
    refine WC.seq fun K871 hK871 => ?_
    -- region 9
    refine WC.region ?_
    -- R9.0 29 := wirelaw.go:28 fieldAddr
    refine WL.v (by exact r_field ty_fld45_0 rfl) rfl rfl rfl ?_
    -- R9.1 30 := wirelaw.go:28 load
    refine WL.v (by exact r_load1 ty_one26 rfl (hcf (_ :: XO) _ st 0 (by decide))) rfl rfl rfl ?_
    -- R9.2 31 := wirelaw.go:28 binOp
    refine WL.v (by first | exact r_eql rfl rfl (decide_eq_true (by omega)) | exact r_eql rfl rfl (decide_eq_false (by omega)) | exact r_eql rfl rfl rfl) rfl rfl rfl ?_
    -- R9.3 32 := wirelaw.go:28 move
    refine WL.v (by first | exact r_move (v := .bool _) rfl | exact r_move rfl) rfl rfl rfl ?_
    -- R9.4 33 := wirelaw.go:28 call
    refine WL.call (r_call ty_call46 rfl) rfl rfl rfl (seal_ok hE b7 f hop.fok (fun its w' q => hop.frd _ _ q) st) ?_
    rintro sv w ⟨g, hgok, hgl, hsv2, st⟩
    obtain ⟨tb, htb⟩ : ∃ tb : Bool, (tb = true ∧ ∃ T u, sv = .iface T u) ∨ (tb = false ∧ sv = .nilIface) := hsv2.elim (fun h => ⟨false, .inr ⟨rfl, h⟩⟩) (fun h => ⟨true, .inl ⟨rfl, h⟩⟩)
    -- R9.5 34 := wirelaw.go:28 binOp
    refine WL.v (by exact r_ifcB ty_ifc47 htb rfl) rfl rfl rfl ?_
    -- R9.6 35 := wirelaw.go:28 pick
    refine WL.v (by first | exact r_pickT (v := .bool _) rfl rfl | exact r_pickF (v := .bool _) rfl rfl) rfl rfl rfl ?_
    refine WL.fin hK871 (fun _ _ h => h) ?_
    rcases tb with _ | _
    · skip
      refine WC.condF rfl rfl ?_
      refine WC.skipF hK870 (fun _ _ h => h) ?_
      refine WC.seq fun K872 hK872 => ?_
      -- region 11
      refine WC.region ?_
      -- R11.0 38 := wirelaw.go:31 call
      refine WL.call (r_call ty_call11 rfl) rfl rfl rfl (ser_ok hE b7 0 g hgok (fun its w' q => ⟨cf_row (t := 43) q (by simp), hgl.rd (hop.frd _ _ q)⟩) st) ?_
      rintro vs w ⟨vn, er, XS, rfl, st, hser⟩
      -- R11.1 37 := wirelaw.go:31 move
      refine WL.v (by first | exact r_move (v := .tuple _) rfl | exact r_move rfl) rfl rfl rfl ?_
      -- R11.2 39 := wirelaw.go:31 extract
      refine WL.v (by first | exact r_extract (v := .slice _ _ _) rfl rfl | exact r_extract rfl rfl) rfl rfl rfl ?_
      -- R11.3 40 := wirelaw.go:31 extract
      refine WL.v (by first | exact r_extract (v := .nilIface) rfl rfl | exact r_extract (v := .iface _ _) rfl rfl | exact r_extract rfl rfl) rfl rfl rfl ?_
      -- R11.4 8 := wirelaw.go:31 assign
      refine WL.v (by first | exact r_assign (v := .slice _ _ _) rfl | exact r_assign rfl) rfl rfl rfl ?_
      -- R11.5 9 := wirelaw.go:31 assign
      refine WL.v (by first | exact r_assign (v := .nilIface) rfl | exact r_assign (v := .iface _ _) rfl | exact r_assign rfl) rfl rfl rfl ?_
      refine WL.fin hK872 (fun _ _ h => h) ?_
      rcases hser with ⟨_, ⟨T, u, rfl⟩, _⟩ | ⟨_, rfl, hbn⟩
      · skip
        refine WC.seq fun K873 hK873 => ?_
        -- region 12
        refine WC.region ?_
        -- R12.0 41 := wirelaw.go:31 move
        refine WL.v (by first | exact r_move (v := .nilIface) rfl | exact r_move (v := .iface _ _) rfl | exact r_move rfl) rfl rfl rfl ?_
        -- R12.1 42 := wirelaw.go:31 binOp
        refine WL.v (by first | exact r_nil_eql ty_ifc47 rfl | exact r_some_eql ty_ifc47 rfl) rfl rfl rfl ?_
        refine WL.fin hK873 (fun _ _ h => h) ?_
        refine WC.condF rfl rfl ?_
        refine WC.skipF hK864 (fun _ _ h => h) ?_
        refine WC.seq fun K874 hK874 => ?_
        -- region 26
        refine WC.region ?_
        -- R26.0 98 := wirelaw.go:48 move
        refine WL.v (by first | exact r_move (v := .slice _ _ _) rfl | exact r_move rfl) rfl rfl rfl ?_
        -- R26.1 4 := wirelaw.go:48 assign
        refine WL.v (by first | exact r_assign (v := .slice _ _ _) rfl | exact r_assign rfl) rfl rfl rfl ?_
        refine WL.fin hK874 (fun _ _ h => h) ?_
        refine WC.ret1 Tryd.results26 (fun _ _ h => h) rfl ?_
        exact ⟨_, rfl, bs, XO, hbo.bo, .inr (by omega), st_cut1 ((st_dropL st).drop)⟩
      · skip
        refine WC.seq fun K875 hK875 => ?_
        -- region 12
        refine WC.region ?_
        -- R12.0 41 := wirelaw.go:31 move
        refine WL.v (by first | exact r_move (v := .nilIface) rfl | exact r_move (v := .iface _ _) rfl | exact r_move rfl) rfl rfl rfl ?_
        -- R12.1 42 := wirelaw.go:31 binOp
        refine WL.v (by first | exact r_nil_eql ty_ifc47 rfl | exact r_some_eql ty_ifc47 rfl) rfl rfl rfl ?_
        refine WL.fin hK875 (fun _ _ h => h) ?_
        refine WC.condT rfl rfl ?_
        refine WC.seq fun K876 hK876 => ?_
        -- region 13
        refine WC.region ?_
        -- R13.0 43 := wirelaw.go:32 move
        refine WL.v (by first | exact r_move (v := .slice _ _ _) rfl | exact r_move rfl) rfl rfl rfl ?_
        -- R13.1 4 := wirelaw.go:32 assign
        refine WL.v (by first | exact r_assign (v := .slice _ _ _) rfl | exact r_assign rfl) rfl rfl rfl ?_
        refine WL.fin hK876 (fun _ _ h => h) ?_
        refine WC.ret1 Tryd.results26 (fun _ _ h => h) rfl ?_
        exact ⟨_, rfl, _, XS, hbn, .inl (frB_len (by rw [hgl.1]; exact hop.l1) (by rw [hgl.2.1]; exact hop.l2) (by rw [hgl.2.2.1]; exact hop.l3) (by rw [hgl.2.2.2.1]; exact hop.l4) (by rw [hgl.2.2.2.2]; exact hop.l5)), st_cut2 (Y := [_] ++ XO) st⟩
    · skip
      refine WC.condT rfl rfl ?_
      refine WC.seq fun K877 hK877 => ?_
      -- region 10
      refine WC.region ?_
      -- R10.0 36 := wirelaw.go:29 move
      refine WL.v (by first | exact r_move (v := .slice _ _ _) rfl | exact r_move rfl) rfl rfl rfl ?_
      -- R10.1 4 := wirelaw.go:29 assign
      refine WL.v (by first | exact r_assign (v := .slice _ _ _) rfl | exact r_assign rfl) rfl rfl rfl ?_
      refine WL.fin hK877 (fun _ _ h => h) ?_
      refine WC.ret1 Tryd.results26 (fun _ _ h => h) rfl ?_
      exact ⟨_, rfl, bs, XO, hbo.bo, .inr (by omega), st_cut1 st.drop⟩
  by_cases k3 : kd = 3
  · skip
    refine enter [v, .agg (opC kd f d.v off val).toArray] Tryd.func26 rfl Tryd.ntmps26 rfl ?_
    show WC _ _ _ 99 [] [(0, v), (1, .agg (opC kd f d.v off val).toArray)] _
    refine WC.seq fun K878 hK878 => ?_
    -- region 0
    refine WC.region ?_
    -- R0.0 3 := wirelaw.go:20 box
    refine WL.box (m := 68) (vs := opC kd f d.v off val) st rfl rfl rfl rfl rfl rfl ?_
    intro b3 w st
    have hcf : ∀ its w', S0 w0 (its ++ ((b3, Row 45 68 (nth (opC kd f d.v off val))) :: (XI ++ L))) w' → CF w' b3 0 68 (nth (opC kd f d.v off val)) := fun its w' q => cf_row (t := 45) q (by simp)
    -- R0.1 4 := wirelaw.go:20 assign
    refine WL.v (by first | exact r_assign (v := .slice _ _ _) rfl | exact r_assign rfl) rfl rfl rfl ?_
    refine WL.fin hK878 (fun _ _ h => h) ?_
    refine WC.seq fun K879 hK879 => ?_
    -- region 1
    refine WC.region ?_
    -- R1.0 12 := wirelaw.go:21 move
    refine WL.v (by first | exact r_move (v := .slice _ _ _) rfl | exact r_move rfl) rfl rfl rfl ?_
    -- R1.1 13 := wirelaw.go:21 call
    refine WL.appW (s := sb) (BR.nil _) hsok (hsrd st (fun x hx => by simp [hx])) (XI := []) st ty_mk25 ty_sl25 ty_zero5 rfl rfl hsv.symm (by rw [hsb]; simp; omega) (by rw [hsb]; simp; omega) rfl rfl rfl ?_
    intro vo XO w hbo st
    rw [List.nil_append, hsb] at hbo
    -- R1.2 5 := wirelaw.go:21 assign
    refine WL.v (by first | exact r_assign (v := .slice _ _ _) rfl | exact r_assign rfl) rfl rfl rfl ?_
    refine WL.fin hK879 (fun _ _ h => h) ?_
    refine WC.seq fun K880 hK880 => ?_
    -- region 2
    refine WC.region ?_
    -- R2.0 14 := wirelaw.go:22 fieldAddr
    refine WL.v (by exact r_field ty_fld45_3 rfl) rfl rfl rfl ?_
    -- R2.1 15 := wirelaw.go:22 load
    refine WL.v (by first | exact r_load1 ty_one37 rfl (hcf [] _ st 66 (by decide)) | exact r_load1 ty_one37 rfl (hcf _ _ st 66 (by decide)) | exact r_load1 ty_one37 rfl (hcf [_] _ st 66 (by decide)) | exact r_load1 ty_one37 rfl (hcf [_, _] _ st 66 (by decide)) | exact r_load1 ty_one37 rfl (hcf [_, _, _] _ st 66 (by decide))) rfl rfl rfl ?_
    -- R2.2 16 := wirelaw.go:22 convert
    refine WL.v (by exact r_conv (r := (o' : Int)) ty_cv37_3 rfl ((congrArg IntKind.i64.wrap ho').trans (wi64 (by omega) (by omega)))) rfl rfl rfl ?_
    -- R2.3 6 := wirelaw.go:22 assign
    refine WL.v (by first | exact r_assign (v := .int _ _) rfl | exact r_assign rfl) rfl rfl rfl ?_
    refine WL.fin hK880 (fun _ _ h => h) ?_
    refine WC.seq fun K881 hK881 => ?_
    refine WC.seq fun K882 hK882 => ?_
    -- region 3
    refine WC.region ?_
    -- R3.0 17 := wirelaw.go:23 fieldAddr
    refine WL.v (by exact r_field ty_fld45_0 rfl) rfl rfl rfl ?_
    -- R3.1 18 := wirelaw.go:23 load
    refine WL.v (by first | exact r_load1 ty_one26 rfl (hcf [] _ st 0 (by decide)) | exact r_load1 ty_one26 rfl (hcf _ _ st 0 (by decide)) | exact r_load1 ty_one26 rfl (hcf [_] _ st 0 (by decide)) | exact r_load1 ty_one26 rfl (hcf [_, _] _ st 0 (by decide)) | exact r_load1 ty_one26 rfl (hcf [_, _, _] _ st 0 (by decide))) rfl rfl rfl ?_
    refine WL.fin hK882 (fun _ _ h => h) ?_
    refine WC.block ?_
    refine WC.seq fun K883 hK883 => ?_
    -- region 4
    refine WC.region ?_
    -- R4.0 20 := wirelaw.go:24 binOp
    refine WL.v (by first | exact r_eql rfl rfl (decide_eq_true (by omega)) | exact r_eql rfl rfl (decide_eq_false (by omega)) | exact r_eql rfl rfl rfl) rfl rfl rfl ?_
    -- R4.1 19 := wirelaw.go:24 assign
    refine WL.v (by first | exact r_assign (v := .bool _) rfl | exact r_assign rfl) rfl rfl rfl ?_
    refine WL.fin hK883 (fun _ _ h => h) ?_
    refine WC.condF rfl rfl ?_
    refine WC.seq fun K884 hK884 => ?_
    refine WC.seq fun K885 hK885 => ?_
    -- region 6
    refine WC.region ?_
    -- R6.0 25 := wirelaw.go:26 binOp
    refine WL.v (by first | exact r_eql rfl rfl (decide_eq_true (by omega)) | exact r_eql rfl rfl (decide_eq_false (by omega)) | exact r_eql rfl rfl rfl) rfl rfl rfl ?_
    -- R6.1 24 := wirelaw.go:26 assign
    refine WL.v (by first | exact r_assign (v := .bool _) rfl | exact r_assign rfl) rfl rfl rfl ?_
    refine WL.fin hK885 (fun _ _ h => h) ?_
    refine WC.condF rfl rfl ?_
    -- region 7
    refine WC.region ?_
    -- R7.0 26 := wirelaw.go:26 binOp
    refine WL.v (by first | exact r_eql rfl rfl (decide_eq_true (by omega)) | exact r_eql rfl rfl (decide_eq_false (by omega)) | exact r_eql rfl rfl rfl) rfl rfl rfl ?_
    -- R7.1 24 := wirelaw.go:26 assign
    refine WL.v (by first | exact r_assign (v := .bool _) rfl | exact r_assign rfl) rfl rfl rfl ?_
    refine WL.fin hK884 (fun _ _ h => h) ?_
    refine WC.condF rfl rfl ?_
    rcases hbo.form with ⟨rfl, rfl, rfl⟩ | ⟨ob, oc, fo, rfl, hoc, hoc2, rfl, hfo, hbb⟩
    · skip
      refine WC.seq fun K886 hK886 => ?_
      -- region 14
      refine WC.region ?_
      -- R14.0 45 := wirelaw.go:34 binOp
      refine WL.v (by first | exact r_eql rfl rfl (decide_eq_true (by omega)) | exact r_eql rfl rfl (decide_eq_false (by omega)) | exact r_eql rfl rfl rfl) rfl rfl rfl ?_
      -- R14.1 44 := wirelaw.go:34 assign
      refine WL.v (by first | exact r_assign (v := .bool _) rfl | exact r_assign rfl) rfl rfl rfl ?_
      refine WL.fin hK886 (fun _ _ h => h) ?_
      refine WC.condT rfl rfl ?_
      refine WC.seq fun K887 hK887 => ?_
      -- region 15
      refine WC.region ?_
      -- R15.0 46 := wirelaw.go:35 move
      refine WL.v (by first | exact r_move (v := .slice _ _ _) rfl | exact r_move rfl) rfl rfl rfl ?_
      -- R15.1 47 := wirelaw.go:35 call
      refine WL.v (by exact r_len ty_usl25 rfl) rfl rfl rfl ?_
      -- R15.2 48 := wirelaw.go:35 binOp
      refine WL.v (by first | exact r_gtr rfl rfl (decide_eq_true (by omega)) | exact r_gtr rfl rfl (decide_eq_false (by omega)) | exact r_gtr rfl rfl rfl) rfl rfl rfl ?_
      refine WL.fin hK887 (fun _ _ h => h) ?_
      refine WC.condF rfl rfl ?_
      refine WC.skipF hK881 (fun _ _ h => h) ?_
      refine WC.seq fun K888 hK888 => ?_
      -- region 26
      refine WC.region ?_
      -- R26.0 98 := wirelaw.go:48 move
      refine WL.v (by first | exact r_move (v := .slice _ _ _) rfl | exact r_move rfl) rfl rfl rfl ?_
      -- R26.1 4 := wirelaw.go:48 assign
      refine WL.v (by first | exact r_assign (v := .slice _ _ _) rfl | exact r_assign rfl) rfl rfl rfl ?_
      refine WL.fin hK888 (fun _ _ h => h) ?_
      refine WC.ret1 Tryd.results26 (fun _ _ h => h) rfl ?_
      exact ⟨_, rfl, _, _, hbo.bo, .inr (Nat.le_add_right _ _), st.drop⟩
    · have st : S0 w0 ((ob, Row 5 (oc * 1) fo) :: (b3, Row 45 68 (nth (opC kd f d.v off val))) :: (XI ++ L)) w := st
      by_cases hn : 0 < bs.length
      · have hml : o' % bs.length < bs.length := Nat.mod_lt _ hn
        refine WC.seq fun K889 hK889 => ?_
        -- region 14
        refine WC.region ?_
        -- R14.0 45 := wirelaw.go:34 binOp
        refine WL.v (by first | exact r_eql rfl rfl (decide_eq_true (by omega)) | exact r_eql rfl rfl (decide_eq_false (by omega)) | exact r_eql rfl rfl rfl) rfl rfl rfl ?_
        -- R14.1 44 := wirelaw.go:34 assign
        refine WL.v (by first | exact r_assign (v := .bool _) rfl | exact r_assign rfl) rfl rfl rfl ?_
        refine WL.fin hK889 (fun _ _ h => h) ?_
        refine WC.condT rfl rfl ?_
        refine WC.seq fun K890 hK890 => ?_
        -- region 15
        refine WC.region ?_
        -- R15.0 46 := wirelaw.go:35 move
        refine WL.v (by first | exact r_move (v := .slice _ _ _) rfl | exact r_move rfl) rfl rfl rfl ?_
        -- R15.1 47 := wirelaw.go:35 call
        refine WL.v (by exact r_len ty_usl25 rfl) rfl rfl rfl ?_
        -- R15.2 48 := wirelaw.go:35 binOp
        refine WL.v (by first | exact r_gtr rfl rfl (decide_eq_true (by omega)) | exact r_gtr rfl rfl (decide_eq_false (by omega)) | exact r_gtr rfl rfl rfl) rfl rfl rfl ?_
        refine WL.fin hK890 (fun _ _ h => h) ?_
        refine WC.condT rfl rfl ?_
        -- region 16 (draws)
        refine WC.heldS [9] [0, 1, 2, 3, 4, 5, 6, 7, 8] [9] st (st.drop) ty_mixed (by kernel_rfl) fun w st Kq hKq => ?_
        -- R16.0 49 := wirelaw.go:36 move
        refine HL.v (fun w st => by first | exact r_move (v := .slice _ _ _) rfl | exact r_move rfl) rfl rfl rfl ?_
        -- R16.1 50 := wirelaw.go:36 move
        refine HL.v (fun w st => by first | exact r_move (v := .int _ _) rfl | exact r_move rfl) rfl rfl rfl ?_
        -- R16.2 51 := wirelaw.go:36 move
        refine HL.v (fun w st => by first | exact r_move (v := .slice _ _ _) rfl | exact r_move rfl) rfl rfl rfl ?_
        -- R16.3 52 := wirelaw.go:36 call
        refine HL.v (fun w st => by exact r_len ty_usl25 rfl) rfl rfl rfl ?_
        -- R16.4 53 := wirelaw.go:36 binOp
        refine HL.v (fun w st => by exact r_rem (r := ((o' % bs.length : Nat) : Int)) rfl rfl (by omega) rfl) rfl rfl rfl ?_
        -- R16.5 54 := wirelaw.go:36 fieldAddr
        refine HL.v (fun w st => by exact r_field ty_fld45_4 rfl) rfl rfl rfl ?_
        -- R16.6 55 := wirelaw.go:36 load
        refine HL.v (fun w st => by first | exact r_load1 ty_one30 rfl (hcf [] _ st 67 (by decide)) | exact r_load1 ty_one30 rfl (hcf _ _ st 67 (by decide)) | exact r_load1 ty_one30 rfl (hcf [_] _ st 67 (by decide)) | exact r_load1 ty_one30 rfl (hcf [_, _] _ st 67 (by decide)) | exact r_load1 ty_one30 rfl (hcf [_, _, _] _ st 67 (by decide))) rfl rfl rfl ?_
        -- R16.7 56 := wirelaw.go:36 convert
        refine HL.v (fun w st => by exact r_conv (r := val % 256) ty_cv30_5 rfl (wrap8 _)) rfl rfl rfl ?_
        -- R16.8 57 := wirelaw.go:36 indexAddr
        refine HL.v (fun w st => by exact r_indexS (j := o' % bs.length) ty_sl25 rfl rfl (by omega) (by omega)) rfl rfl rfl ?_
        refine HL.fin hKq ?_
        refine TL.at ?_
        -- R16.9 None := wirelaw.go:36 store
        first | refine WL.store (v := .int _ _) st ty_one5 rfl rfl rfl (by first | decide | omega) rfl rfl ?_ | refine WL.store (v := _) st ty_one5 rfl rfl rfl (by first | decide | omega) rfl rfl ?_ | refine WL.store (v := .int _ _) st.front1 ty_one5 rfl rfl rfl (by first | decide | omega) rfl rfl ?_ | refine WL.store (v := _) st.front1 ty_one5 rfl rfl rfl (by first | decide | omega) rfl rfl ?_ | refine WL.store (v := .int _ _) st.front2 ty_one5 rfl rfl rfl (by first | decide | omega) rfl rfl ?_ | refine WL.store (v := _) st.front2 ty_one5 rfl rfl rfl (by first | decide | omega) rfl rfl ?_ | refine WL.store (v := .int _ _) st.front3 ty_one5 rfl rfl rfl (by first | decide | omega) rfl rfl ?_ | refine WL.store (v := _) st.front3 ty_one5 rfl rfl rfl (by first | decide | omega) rfl rfl ?_ | refine WL.store (v := .int _ _) st.front4 ty_one5 rfl rfl rfl (by first | decide | omega) rfl rfl ?_ | refine WL.store (v := _) st.front4 ty_one5 rfl rfl rfl (by first | decide | omega) rfl rfl ?_ | refine WL.store (v := .int _ _) st.front5 ty_one5 rfl rfl rfl (by first | decide | omega) rfl rfl ?_ | refine WL.store (v := _) st.front5 ty_one5 rfl rfl rfl (by first | decide | omega) rfl rfl ?_ | refine WL.store (v := .int _ _) st.front6 ty_one5 rfl rfl rfl (by first | decide | omega) rfl rfl ?_ | refine WL.store (v := _) st.front6 ty_one5 rfl rfl rfl (by first | decide | omega) rfl rfl ?_ | refine WL.store (v := .int _ _) st.front7 ty_one5 rfl rfl rfl (by first | decide | omega) rfl rfl ?_ | refine WL.store (v := _) st.front7 ty_one5 rfl rfl rfl (by first | decide | omega) rfl rfl ?_ | refine WL.store (v := .int _ _) st.front8 ty_one5 rfl rfl rfl (by first | decide | omega) rfl rfl ?_ | refine WL.store (v := _) st.front8 ty_one5 rfl rfl rfl (by first | decide | omega) rfl rfl ?_
        intro w st
        refine TL.nxt' rfl ?_
        refine TL.wl ?_
        refine WL.fin hK881 (fun _ _ h => h) ?_
        refine WC.seq fun K891 hK891 => ?_
        -- region 26
        refine WC.region ?_
        -- R26.0 98 := wirelaw.go:48 move
        refine WL.v (by first | exact r_move (v := .slice _ _ _) rfl | exact r_move rfl) rfl rfl rfl ?_
        -- R26.1 4 := wirelaw.go:48 assign
        refine WL.v (by first | exact r_assign (v := .slice _ _ _) rfl | exact r_assign rfl) rfl rfl rfl ?_
        refine WL.fin hK891 (fun _ _ h => h) ?_
        refine WC.ret1 Tryd.results26 (fun _ _ h => h) rfl ?_
        have hset := BR.set (el := 5) (b := ob) (c := oc) (j := o' % bs.length) (x := val % 256) hoc hoc2 hfo hbb (by omega)
        exact ⟨_, rfl, bs.set (o' % bs.length) (val % 256), [(ob, Row 5 (oc * 1) _)], ⟨_, .inl (.inr ⟨ob, oc, by rw [List.length_set]; rfl, by rw [List.length_set]; exact hoc, hoc2, rfl⟩), hset.1, hset.2⟩, .inr (by rw [List.length_set]; omega), st.drop1⟩
      · skip
        refine WC.seq fun K892 hK892 => ?_
        -- region 14
        refine WC.region ?_
        -- R14.0 45 := wirelaw.go:34 binOp
        refine WL.v (by first | exact r_eql rfl rfl (decide_eq_true (by omega)) | exact r_eql rfl rfl (decide_eq_false (by omega)) | exact r_eql rfl rfl rfl) rfl rfl rfl ?_
        -- R14.1 44 := wirelaw.go:34 assign
        refine WL.v (by first | exact r_assign (v := .bool _) rfl | exact r_assign rfl) rfl rfl rfl ?_
        refine WL.fin hK892 (fun _ _ h => h) ?_
        refine WC.condT rfl rfl ?_
        refine WC.seq fun K893 hK893 => ?_
        -- region 15
        refine WC.region ?_
        -- R15.0 46 := wirelaw.go:35 move
        refine WL.v (by first | exact r_move (v := .slice _ _ _) rfl | exact r_move rfl) rfl rfl rfl ?_
        -- R15.1 47 := wirelaw.go:35 call
        refine WL.v (by exact r_len ty_usl25 rfl) rfl rfl rfl ?_
        -- R15.2 48 := wirelaw.go:35 binOp
        refine WL.v (by first | exact r_gtr rfl rfl (decide_eq_true (by omega)) | exact r_gtr rfl rfl (decide_eq_false (by omega)) | exact r_gtr rfl rfl rfl) rfl rfl rfl ?_
        refine WL.fin hK893 (fun _ _ h => h) ?_
        refine WC.condF rfl rfl ?_
        refine WC.skipF hK881 (fun _ _ h => h) ?_
        refine WC.seq fun K894 hK894 => ?_
        -- region 26
        refine WC.region ?_
        -- R26.0 98 := wirelaw.go:48 move
        refine WL.v (by first | exact r_move (v := .slice _ _ _) rfl | exact r_move rfl) rfl rfl rfl ?_
        -- R26.1 4 := wirelaw.go:48 assign
        refine WL.v (by first | exact r_assign (v := .slice _ _ _) rfl | exact r_assign rfl) rfl rfl rfl ?_
        refine WL.fin hK894 (fun _ _ h => h) ?_
        refine WC.ret1 Tryd.results26 (fun _ _ h => h) rfl ?_
        exact ⟨_, rfl, _, _, hbo.bo, .inr (Nat.le_add_right _ _), st.drop1⟩
  by_cases k4 : kd = 4
  · have hml : o' % (bs.length + 1) ≤ bs.length := by have := Nat.mod_lt o' (show 0 < bs.length + 1 by omega); omega
    refine enter [v, .agg (opC kd f d.v off val).toArray] Tryd.func26 rfl Tryd.ntmps26 rfl ?_
    show WC _ _ _ 99 [] [(0, v), (1, .agg (opC kd f d.v off val).toArray)] _
    refine WC.seq fun K895 hK895 => ?_
    -- region 0
    refine WC.region ?_
    -- R0.0 3 := wirelaw.go:20 box
    refine WL.box (m := 68) (vs := opC kd f d.v off val) st rfl rfl rfl rfl rfl rfl ?_
    intro b3 w st
    have hcf : ∀ its w', S0 w0 (its ++ ((b3, Row 45 68 (nth (opC kd f d.v off val))) :: (XI ++ L))) w' → CF w' b3 0 68 (nth (opC kd f d.v off val)) := fun its w' q => cf_row (t := 45) q (by simp)
    -- R0.1 4 := wirelaw.go:20 assign
    refine WL.v (by first | exact r_assign (v := .slice _ _ _) rfl | exact r_assign rfl) rfl rfl rfl ?_
    refine WL.fin hK895 (fun _ _ h => h) ?_
    refine WC.seq fun K896 hK896 => ?_
    -- region 1
    refine WC.region ?_
    -- R1.0 12 := wirelaw.go:21 move
    refine WL.v (by first | exact r_move (v := .slice _ _ _) rfl | exact r_move rfl) rfl rfl rfl ?_
    -- R1.1 13 := wirelaw.go:21 call
    refine WL.appW (s := sb) (BR.nil _) hsok (hsrd st (fun x hx => by simp [hx])) (XI := []) st ty_mk25 ty_sl25 ty_zero5 rfl rfl hsv.symm (by rw [hsb]; simp; omega) (by rw [hsb]; simp; omega) rfl rfl rfl ?_
    intro vo XO w hbo st
    rw [List.nil_append, hsb] at hbo
    -- R1.2 5 := wirelaw.go:21 assign
    refine WL.v (by first | exact r_assign (v := .slice _ _ _) rfl | exact r_assign rfl) rfl rfl rfl ?_
    refine WL.fin hK896 (fun _ _ h => h) ?_
    refine WC.seq fun K897 hK897 => ?_
    -- region 2
    refine WC.region ?_
    -- R2.0 14 := wirelaw.go:22 fieldAddr
    refine WL.v (by exact r_field ty_fld45_3 rfl) rfl rfl rfl ?_
    -- R2.1 15 := wirelaw.go:22 load
    refine WL.v (by first | exact r_load1 ty_one37 rfl (hcf [] _ st 66 (by decide)) | exact r_load1 ty_one37 rfl (hcf _ _ st 66 (by decide)) | exact r_load1 ty_one37 rfl (hcf [_] _ st 66 (by decide)) | exact r_load1 ty_one37 rfl (hcf [_, _] _ st 66 (by decide)) | exact r_load1 ty_one37 rfl (hcf [_, _, _] _ st 66 (by decide))) rfl rfl rfl ?_
    -- R2.2 16 := wirelaw.go:22 convert
    refine WL.v (by exact r_conv (r := (o' : Int)) ty_cv37_3 rfl ((congrArg IntKind.i64.wrap ho').trans (wi64 (by omega) (by omega)))) rfl rfl rfl ?_
    -- R2.3 6 := wirelaw.go:22 assign
    refine WL.v (by first | exact r_assign (v := .int _ _) rfl | exact r_assign rfl) rfl rfl rfl ?_
    refine WL.fin hK897 (fun _ _ h => h) ?_
    refine WC.seq fun K898 hK898 => ?_
    refine WC.seq fun K899 hK899 => ?_
    -- region 3
    refine WC.region ?_
    -- R3.0 17 := wirelaw.go:23 fieldAddr
    refine WL.v (by exact r_field ty_fld45_0 rfl) rfl rfl rfl ?_
    -- R3.1 18 := wirelaw.go:23 load
    refine WL.v (by first | exact r_load1 ty_one26 rfl (hcf [] _ st 0 (by decide)) | exact r_load1 ty_one26 rfl (hcf _ _ st 0 (by decide)) | exact r_load1 ty_one26 rfl (hcf [_] _ st 0 (by decide)) | exact r_load1 ty_one26 rfl (hcf [_, _] _ st 0 (by decide)) | exact r_load1 ty_one26 rfl (hcf [_, _, _] _ st 0 (by decide))) rfl rfl rfl ?_
    refine WL.fin hK899 (fun _ _ h => h) ?_
    refine WC.block ?_
    refine WC.seq fun K900 hK900 => ?_
    -- region 4
    refine WC.region ?_
    -- R4.0 20 := wirelaw.go:24 binOp
    refine WL.v (by first | exact r_eql rfl rfl (decide_eq_true (by omega)) | exact r_eql rfl rfl (decide_eq_false (by omega)) | exact r_eql rfl rfl rfl) rfl rfl rfl ?_
    -- R4.1 19 := wirelaw.go:24 assign
    refine WL.v (by first | exact r_assign (v := .bool _) rfl | exact r_assign rfl) rfl rfl rfl ?_
    refine WL.fin hK900 (fun _ _ h => h) ?_
    refine WC.condF rfl rfl ?_
    refine WC.seq fun K901 hK901 => ?_
    refine WC.seq fun K902 hK902 => ?_
    -- region 6
    refine WC.region ?_
    -- R6.0 25 := wirelaw.go:26 binOp
    refine WL.v (by first | exact r_eql rfl rfl (decide_eq_true (by omega)) | exact r_eql rfl rfl (decide_eq_false (by omega)) | exact r_eql rfl rfl rfl) rfl rfl rfl ?_
    -- R6.1 24 := wirelaw.go:26 assign
    refine WL.v (by first | exact r_assign (v := .bool _) rfl | exact r_assign rfl) rfl rfl rfl ?_
    refine WL.fin hK902 (fun _ _ h => h) ?_
    refine WC.condF rfl rfl ?_
    -- region 7
    refine WC.region ?_
    -- R7.0 26 := wirelaw.go:26 binOp
    refine WL.v (by first | exact r_eql rfl rfl (decide_eq_true (by omega)) | exact r_eql rfl rfl (decide_eq_false (by omega)) | exact r_eql rfl rfl rfl) rfl rfl rfl ?_
    -- R7.1 24 := wirelaw.go:26 assign
    refine WL.v (by first | exact r_assign (v := .bool _) rfl | exact r_assign rfl) rfl rfl rfl ?_
    refine WL.fin hK901 (fun _ _ h => h) ?_
    refine WC.condF rfl rfl ?_
    rcases hbo.form with ⟨rfl, rfl, rfl⟩ | ⟨ob, oc, fo, rfl, hoc, hoc2, rfl, hfo, hbb⟩
    · skip
      refine WC.seq fun K903 hK903 => ?_
      -- region 14
      refine WC.region ?_
      -- R14.0 45 := wirelaw.go:34 binOp
      refine WL.v (by first | exact r_eql rfl rfl (decide_eq_true (by omega)) | exact r_eql rfl rfl (decide_eq_false (by omega)) | exact r_eql rfl rfl rfl) rfl rfl rfl ?_
      -- R14.1 44 := wirelaw.go:34 assign
      refine WL.v (by first | exact r_assign (v := .bool _) rfl | exact r_assign rfl) rfl rfl rfl ?_
      refine WL.fin hK903 (fun _ _ h => h) ?_
      refine WC.condF rfl rfl ?_
      refine WC.seq fun K904 hK904 => ?_
      -- region 17
      refine WC.region ?_
      -- R17.0 59 := wirelaw.go:38 binOp
      refine WL.v (by first | exact r_eql rfl rfl (decide_eq_true (by omega)) | exact r_eql rfl rfl (decide_eq_false (by omega)) | exact r_eql rfl rfl rfl) rfl rfl rfl ?_
      -- R17.1 58 := wirelaw.go:38 assign
      refine WL.v (by first | exact r_assign (v := .bool _) rfl | exact r_assign rfl) rfl rfl rfl ?_
      refine WL.fin hK904 (fun _ _ h => h) ?_
      refine WC.condT rfl rfl ?_
      -- region 18
      refine WC.region ?_
      -- R18.0 60 := wirelaw.go:39 move
      refine WL.v (by first | exact r_move (v := .slice _ _ _) rfl | exact r_move rfl) rfl rfl rfl ?_
      -- R18.1 61 := wirelaw.go:39 move
      refine WL.v (by first | exact r_move (v := .int _ _) rfl | exact r_move rfl) rfl rfl rfl ?_
      -- R18.2 62 := wirelaw.go:39 move
      refine WL.v (by first | exact r_move (v := .slice _ _ _) rfl | exact r_move rfl) rfl rfl rfl ?_
      -- R18.3 63 := wirelaw.go:39 call
      refine WL.v (by exact r_len ty_usl25 rfl) rfl rfl rfl ?_
      -- R18.4 64 := wirelaw.go:39 binOp
      refine WL.v (by exact r_add (r := 1) rfl rfl rfl) rfl rfl rfl ?_
      -- R18.5 65 := wirelaw.go:39 binOp
      refine WL.v (by exact r_rem (r := 0) rfl rfl (by omega) (Int.tmod_one _)) rfl rfl rfl ?_
      -- R18.6 66 := wirelaw.go:39 slice
      refine WL.v (by exact r_slice_hi (j := 0) ty_sl25 rfl rfl rfl (Nat.le_refl _)) rfl rfl rfl ?_
      -- R18.7 5 := wirelaw.go:39 assign
      refine WL.v (by first | exact r_assign (v := .slice _ _ _) rfl | exact r_assign rfl) rfl rfl rfl ?_
      refine WL.fin hK898 (fun _ _ h => h) ?_
      refine WC.seq fun K905 hK905 => ?_
      -- region 26
      refine WC.region ?_
      -- R26.0 98 := wirelaw.go:48 move
      refine WL.v (by first | exact r_move (v := .slice _ _ _) rfl | exact r_move rfl) rfl rfl rfl ?_
      -- R26.1 4 := wirelaw.go:48 assign
      refine WL.v (by first | exact r_assign (v := .slice _ _ _) rfl | exact r_assign rfl) rfl rfl rfl ?_
      refine WL.fin hK905 (fun _ _ h => h) ?_
      refine WC.ret1 Tryd.results26 (fun _ _ h => h) rfl ?_
      exact ⟨_, rfl, [], [], BO.nil _, .inl (by simp), st.drop⟩
    · have st : S0 w0 ((ob, Row 5 (oc * 1) fo) :: (b3, Row 45 68 (nth (opC kd f d.v off val))) :: (XI ++ L)) w := st
      refine WC.seq fun K906 hK906 => ?_
      -- region 14
      refine WC.region ?_
      -- R14.0 45 := wirelaw.go:34 binOp
      refine WL.v (by first | exact r_eql rfl rfl (decide_eq_true (by omega)) | exact r_eql rfl rfl (decide_eq_false (by omega)) | exact r_eql rfl rfl rfl) rfl rfl rfl ?_
      -- R14.1 44 := wirelaw.go:34 assign
      refine WL.v (by first | exact r_assign (v := .bool _) rfl | exact r_assign rfl) rfl rfl rfl ?_
      refine WL.fin hK906 (fun _ _ h => h) ?_
      refine WC.condF rfl rfl ?_
      refine WC.seq fun K907 hK907 => ?_
      -- region 17
      refine WC.region ?_
      -- R17.0 59 := wirelaw.go:38 binOp
      refine WL.v (by first | exact r_eql rfl rfl (decide_eq_true (by omega)) | exact r_eql rfl rfl (decide_eq_false (by omega)) | exact r_eql rfl rfl rfl) rfl rfl rfl ?_
      -- R17.1 58 := wirelaw.go:38 assign
      refine WL.v (by first | exact r_assign (v := .bool _) rfl | exact r_assign rfl) rfl rfl rfl ?_
      refine WL.fin hK907 (fun _ _ h => h) ?_
      refine WC.condT rfl rfl ?_
      -- region 18
      refine WC.region ?_
      -- R18.0 60 := wirelaw.go:39 move
      refine WL.v (by first | exact r_move (v := .slice _ _ _) rfl | exact r_move rfl) rfl rfl rfl ?_
      -- R18.1 61 := wirelaw.go:39 move
      refine WL.v (by first | exact r_move (v := .int _ _) rfl | exact r_move rfl) rfl rfl rfl ?_
      -- R18.2 62 := wirelaw.go:39 move
      refine WL.v (by first | exact r_move (v := .slice _ _ _) rfl | exact r_move rfl) rfl rfl rfl ?_
      -- R18.3 63 := wirelaw.go:39 call
      refine WL.v (by exact r_len ty_usl25 rfl) rfl rfl rfl ?_
      -- R18.4 64 := wirelaw.go:39 binOp
      refine WL.v (by exact r_add (r := ((bs.length + 1 : Nat) : Int)) rfl rfl ((wi64 (by omega) (by omega)).trans (by omega))) rfl rfl rfl ?_
      -- R18.5 65 := wirelaw.go:39 binOp
      refine WL.v (by exact r_rem (r := ((o' % (bs.length + 1) : Nat) : Int)) rfl rfl (by omega) rfl) rfl rfl rfl ?_
      -- R18.6 66 := wirelaw.go:39 slice
      refine WL.v (by exact r_slice_hi (j := o' % (bs.length + 1)) ty_sl25 rfl rfl rfl (by omega)) rfl rfl rfl ?_
      -- R18.7 5 := wirelaw.go:39 assign
      refine WL.v (by first | exact r_assign (v := .slice _ _ _) rfl | exact r_assign rfl) rfl rfl rfl ?_
      refine WL.fin hK898 (fun _ _ h => h) ?_
      refine WC.seq fun K908 hK908 => ?_
      -- region 26
      refine WC.region ?_
      -- R26.0 98 := wirelaw.go:48 move
      refine WL.v (by first | exact r_move (v := .slice _ _ _) rfl | exact r_move rfl) rfl rfl rfl ?_
      -- R26.1 4 := wirelaw.go:48 assign
      refine WL.v (by first | exact r_assign (v := .slice _ _ _) rfl | exact r_assign rfl) rfl rfl rfl ?_
      refine WL.fin hK908 (fun _ _ h => h) ?_
      refine WC.ret1 Tryd.results26 (fun _ _ h => h) rfl ?_
      have hlt : (bs.take (o' % (bs.length + 1))).length = o' % (bs.length + 1) := by simp; omega
      exact ⟨_, rfl, bs.take (o' % (bs.length + 1)), [(ob, Row 5 (oc * 1) fo)], ⟨fo, .inl (.inr ⟨ob, oc, by rw [hlt]; rfl, by omega, hoc2, rfl⟩), fun i hi => by rw [hlt] at hi; rw [hfo i (by omega), List.getD_eq_getElem?_getD, List.getD_eq_getElem?_getD, List.getElem?_take_of_lt hi], fun x hx => hbb x (List.mem_of_mem_take hx)⟩, .inr (by omega), st.drop1⟩
  by_cases k5 : kd = 5
  · skip
    refine enter [v, .agg (opC kd f d.v off val).toArray] Tryd.func26 rfl Tryd.ntmps26 rfl ?_
    show WC _ _ _ 99 [] [(0, v), (1, .agg (opC kd f d.v off val).toArray)] _
    refine WC.seq fun K909 hK909 => ?_
    -- region 0
    refine WC.region ?_
    -- R0.0 3 := wirelaw.go:20 box
    refine WL.box (m := 68) (vs := opC kd f d.v off val) st rfl rfl rfl rfl rfl rfl ?_
    intro b3 w st
    have hcf : ∀ its w', S0 w0 (its ++ ((b3, Row 45 68 (nth (opC kd f d.v off val))) :: (XI ++ L))) w' → CF w' b3 0 68 (nth (opC kd f d.v off val)) := fun its w' q => cf_row (t := 45) q (by simp)
    -- R0.1 4 := wirelaw.go:20 assign
    refine WL.v (by first | exact r_assign (v := .slice _ _ _) rfl | exact r_assign rfl) rfl rfl rfl ?_
    refine WL.fin hK909 (fun _ _ h => h) ?_
    refine WC.seq fun K910 hK910 => ?_
    -- region 1
    refine WC.region ?_
    -- R1.0 12 := wirelaw.go:21 move
    refine WL.v (by first | exact r_move (v := .slice _ _ _) rfl | exact r_move rfl) rfl rfl rfl ?_
    -- R1.1 13 := wirelaw.go:21 call
    refine WL.appW (s := sb) (BR.nil _) hsok (hsrd st (fun x hx => by simp [hx])) (XI := []) st ty_mk25 ty_sl25 ty_zero5 rfl rfl hsv.symm (by rw [hsb]; simp; omega) (by rw [hsb]; simp; omega) rfl rfl rfl ?_
    intro vo XO w hbo st
    rw [List.nil_append, hsb] at hbo
    -- R1.2 5 := wirelaw.go:21 assign
    refine WL.v (by first | exact r_assign (v := .slice _ _ _) rfl | exact r_assign rfl) rfl rfl rfl ?_
    refine WL.fin hK910 (fun _ _ h => h) ?_
    refine WC.seq fun K911 hK911 => ?_
    -- region 2
    refine WC.region ?_
    -- R2.0 14 := wirelaw.go:22 fieldAddr
    refine WL.v (by exact r_field ty_fld45_3 rfl) rfl rfl rfl ?_
    -- R2.1 15 := wirelaw.go:22 load
    refine WL.v (by first | exact r_load1 ty_one37 rfl (hcf [] _ st 66 (by decide)) | exact r_load1 ty_one37 rfl (hcf _ _ st 66 (by decide)) | exact r_load1 ty_one37 rfl (hcf [_] _ st 66 (by decide)) | exact r_load1 ty_one37 rfl (hcf [_, _] _ st 66 (by decide)) | exact r_load1 ty_one37 rfl (hcf [_, _, _] _ st 66 (by decide))) rfl rfl rfl ?_
    -- R2.2 16 := wirelaw.go:22 convert
    refine WL.v (by exact r_conv (r := (o' : Int)) ty_cv37_3 rfl ((congrArg IntKind.i64.wrap ho').trans (wi64 (by omega) (by omega)))) rfl rfl rfl ?_
    -- R2.3 6 := wirelaw.go:22 assign
    refine WL.v (by first | exact r_assign (v := .int _ _) rfl | exact r_assign rfl) rfl rfl rfl ?_
    refine WL.fin hK911 (fun _ _ h => h) ?_
    refine WC.seq fun K912 hK912 => ?_
    refine WC.seq fun K913 hK913 => ?_
    -- region 3
    refine WC.region ?_
    -- R3.0 17 := wirelaw.go:23 fieldAddr
    refine WL.v (by exact r_field ty_fld45_0 rfl) rfl rfl rfl ?_
    -- R3.1 18 := wirelaw.go:23 load
    refine WL.v (by first | exact r_load1 ty_one26 rfl (hcf [] _ st 0 (by decide)) | exact r_load1 ty_one26 rfl (hcf _ _ st 0 (by decide)) | exact r_load1 ty_one26 rfl (hcf [_] _ st 0 (by decide)) | exact r_load1 ty_one26 rfl (hcf [_, _] _ st 0 (by decide)) | exact r_load1 ty_one26 rfl (hcf [_, _, _] _ st 0 (by decide))) rfl rfl rfl ?_
    refine WL.fin hK913 (fun _ _ h => h) ?_
    refine WC.block ?_
    refine WC.seq fun K914 hK914 => ?_
    -- region 4
    refine WC.region ?_
    -- R4.0 20 := wirelaw.go:24 binOp
    refine WL.v (by first | exact r_eql rfl rfl (decide_eq_true (by omega)) | exact r_eql rfl rfl (decide_eq_false (by omega)) | exact r_eql rfl rfl rfl) rfl rfl rfl ?_
    -- R4.1 19 := wirelaw.go:24 assign
    refine WL.v (by first | exact r_assign (v := .bool _) rfl | exact r_assign rfl) rfl rfl rfl ?_
    refine WL.fin hK914 (fun _ _ h => h) ?_
    refine WC.condF rfl rfl ?_
    refine WC.seq fun K915 hK915 => ?_
    refine WC.seq fun K916 hK916 => ?_
    -- region 6
    refine WC.region ?_
    -- R6.0 25 := wirelaw.go:26 binOp
    refine WL.v (by first | exact r_eql rfl rfl (decide_eq_true (by omega)) | exact r_eql rfl rfl (decide_eq_false (by omega)) | exact r_eql rfl rfl rfl) rfl rfl rfl ?_
    -- R6.1 24 := wirelaw.go:26 assign
    refine WL.v (by first | exact r_assign (v := .bool _) rfl | exact r_assign rfl) rfl rfl rfl ?_
    refine WL.fin hK916 (fun _ _ h => h) ?_
    refine WC.condF rfl rfl ?_
    -- region 7
    refine WC.region ?_
    -- R7.0 26 := wirelaw.go:26 binOp
    refine WL.v (by first | exact r_eql rfl rfl (decide_eq_true (by omega)) | exact r_eql rfl rfl (decide_eq_false (by omega)) | exact r_eql rfl rfl rfl) rfl rfl rfl ?_
    -- R7.1 24 := wirelaw.go:26 assign
    refine WL.v (by first | exact r_assign (v := .bool _) rfl | exact r_assign rfl) rfl rfl rfl ?_
    refine WL.fin hK915 (fun _ _ h => h) ?_
    refine WC.condF rfl rfl ?_
    refine WC.seq fun K917 hK917 => ?_
    -- region 14
    refine WC.region ?_
    -- R14.0 45 := wirelaw.go:34 binOp
    refine WL.v (by first | exact r_eql rfl rfl (decide_eq_true (by omega)) | exact r_eql rfl rfl (decide_eq_false (by omega)) | exact r_eql rfl rfl rfl) rfl rfl rfl ?_
    -- R14.1 44 := wirelaw.go:34 assign
    refine WL.v (by first | exact r_assign (v := .bool _) rfl | exact r_assign rfl) rfl rfl rfl ?_
    refine WL.fin hK917 (fun _ _ h => h) ?_
    refine WC.condF rfl rfl ?_
    refine WC.seq fun K918 hK918 => ?_
    -- region 17
    refine WC.region ?_
    -- R17.0 59 := wirelaw.go:38 binOp
    refine WL.v (by first | exact r_eql rfl rfl (decide_eq_true (by omega)) | exact r_eql rfl rfl (decide_eq_false (by omega)) | exact r_eql rfl rfl rfl) rfl rfl rfl ?_
    -- R17.1 58 := wirelaw.go:38 assign
    refine WL.v (by first | exact r_assign (v := .bool _) rfl | exact r_assign rfl) rfl rfl rfl ?_
    refine WL.fin hK918 (fun _ _ h => h) ?_
    refine WC.condF rfl rfl ?_
    refine WC.seq fun K919 hK919 => ?_
    -- region 19
    refine WC.region ?_
    -- R19.0 68 := wirelaw.go:40 binOp
    refine WL.v (by first | exact r_eql rfl rfl (decide_eq_true (by omega)) | exact r_eql rfl rfl (decide_eq_false (by omega)) | exact r_eql rfl rfl rfl) rfl rfl rfl ?_
    -- R19.1 67 := wirelaw.go:40 assign
    refine WL.v (by first | exact r_assign (v := .bool _) rfl | exact r_assign rfl) rfl rfl rfl ?_
    refine WL.fin hK919 (fun _ _ h => h) ?_
    refine WC.condT rfl rfl ?_
    -- region 20
    refine WC.region ?_
    -- R20.0 69 := wirelaw.go:41 move
    refine WL.v (by first | exact r_move (v := .slice _ _ _) rfl | exact r_move rfl) rfl rfl rfl ?_
    -- R20.1 70 := wirelaw.go:41 fieldAddr
    refine WL.v (by exact r_field ty_fld45_2 rfl) rfl rfl rfl ?_
    -- R20.2 71 := wirelaw.go:41 load
    refine WL.v (by first | exact r_load1 ty_one25 rfl (hcf [] _ st 65 (by decide)) | exact r_load1 ty_one25 rfl (hcf _ _ st 65 (by decide)) | exact r_load1 ty_one25 rfl (hcf [_] _ st 65 (by decide)) | exact r_load1 ty_one25 rfl (hcf [_, _] _ st 65 (by decide)) | exact r_load1 ty_one25 rfl (hcf [_, _, _] _ st 65 (by decide))) rfl rfl rfl ?_
    -- R20.3 72 := wirelaw.go:41 call
    refine WL.appW (s := d) hbo hop.dok (hop.drd _ _ st) st ty_mk25 ty_sl25 ty_zero5 rfl rfl rfl (by omega) (by omega) rfl rfl rfl ?_
    intro vn XN w hbn st
    -- R20.4 5 := wirelaw.go:41 assign
    refine WL.v (by first | exact r_assign (v := .slice _ _ _) rfl | exact r_assign rfl) rfl rfl rfl ?_
    refine WL.fin hK912 (fun _ _ h => h) ?_
    refine WC.seq fun K920 hK920 => ?_
    -- region 26
    refine WC.region ?_
    -- R26.0 98 := wirelaw.go:48 move
    refine WL.v (by first | exact r_move (v := .slice _ _ _) rfl | exact r_move rfl) rfl rfl rfl ?_
    -- R26.1 4 := wirelaw.go:48 assign
    refine WL.v (by first | exact r_assign (v := .slice _ _ _) rfl | exact r_assign rfl) rfl rfl rfl ?_
    refine WL.fin hK920 (fun _ _ h => h) ?_
    refine WC.ret1 Tryd.results26 (fun _ _ h => h) rfl ?_
    exact ⟨_, rfl, _, XN, hbn.bo, .inr (by simp), st_cut1 st⟩
  by_cases k6 : kd = 6
  · skip
    refine enter [v, .agg (opC kd f d.v off val).toArray] Tryd.func26 rfl Tryd.ntmps26 rfl ?_
    show WC _ _ _ 99 [] [(0, v), (1, .agg (opC kd f d.v off val).toArray)] _
    refine WC.seq fun K921 hK921 => ?_
    -- region 0
    refine WC.region ?_
    -- R0.0 3 := wirelaw.go:20 box
    refine WL.box (m := 68) (vs := opC kd f d.v off val) st rfl rfl rfl rfl rfl rfl ?_
    intro b3 w st
    have hcf : ∀ its w', S0 w0 (its ++ ((b3, Row 45 68 (nth (opC kd f d.v off val))) :: (XI ++ L))) w' → CF w' b3 0 68 (nth (opC kd f d.v off val)) := fun its w' q => cf_row (t := 45) q (by simp)
    -- R0.1 4 := wirelaw.go:20 assign
    refine WL.v (by first | exact r_assign (v := .slice _ _ _) rfl | exact r_assign rfl) rfl rfl rfl ?_
    refine WL.fin hK921 (fun _ _ h => h) ?_
    refine WC.seq fun K922 hK922 => ?_
    -- region 1
    refine WC.region ?_
    -- R1.0 12 := wirelaw.go:21 move
    refine WL.v (by first | exact r_move (v := .slice _ _ _) rfl | exact r_move rfl) rfl rfl rfl ?_
    -- R1.1 13 := wirelaw.go:21 call
    refine WL.appW (s := sb) (BR.nil _) hsok (hsrd st (fun x hx => by simp [hx])) (XI := []) st ty_mk25 ty_sl25 ty_zero5 rfl rfl hsv.symm (by rw [hsb]; simp; omega) (by rw [hsb]; simp; omega) rfl rfl rfl ?_
    intro vo XO w hbo st
    rw [List.nil_append, hsb] at hbo
    -- R1.2 5 := wirelaw.go:21 assign
    refine WL.v (by first | exact r_assign (v := .slice _ _ _) rfl | exact r_assign rfl) rfl rfl rfl ?_
    refine WL.fin hK922 (fun _ _ h => h) ?_
    refine WC.seq fun K923 hK923 => ?_
    -- region 2
    refine WC.region ?_
    -- R2.0 14 := wirelaw.go:22 fieldAddr
    refine WL.v (by exact r_field ty_fld45_3 rfl) rfl rfl rfl ?_
    -- R2.1 15 := wirelaw.go:22 load
    refine WL.v (by first | exact r_load1 ty_one37 rfl (hcf [] _ st 66 (by decide)) | exact r_load1 ty_one37 rfl (hcf _ _ st 66 (by decide)) | exact r_load1 ty_one37 rfl (hcf [_] _ st 66 (by decide)) | exact r_load1 ty_one37 rfl (hcf [_, _] _ st 66 (by decide)) | exact r_load1 ty_one37 rfl (hcf [_, _, _] _ st 66 (by decide))) rfl rfl rfl ?_
    -- R2.2 16 := wirelaw.go:22 convert
    refine WL.v (by exact r_conv (r := (o' : Int)) ty_cv37_3 rfl ((congrArg IntKind.i64.wrap ho').trans (wi64 (by omega) (by omega)))) rfl rfl rfl ?_
    -- R2.3 6 := wirelaw.go:22 assign
    refine WL.v (by first | exact r_assign (v := .int _ _) rfl | exact r_assign rfl) rfl rfl rfl ?_
    refine WL.fin hK923 (fun _ _ h => h) ?_
    refine WC.seq fun K924 hK924 => ?_
    refine WC.seq fun K925 hK925 => ?_
    -- region 3
    refine WC.region ?_
    -- R3.0 17 := wirelaw.go:23 fieldAddr
    refine WL.v (by exact r_field ty_fld45_0 rfl) rfl rfl rfl ?_
    -- R3.1 18 := wirelaw.go:23 load
    refine WL.v (by first | exact r_load1 ty_one26 rfl (hcf [] _ st 0 (by decide)) | exact r_load1 ty_one26 rfl (hcf _ _ st 0 (by decide)) | exact r_load1 ty_one26 rfl (hcf [_] _ st 0 (by decide)) | exact r_load1 ty_one26 rfl (hcf [_, _] _ st 0 (by decide)) | exact r_load1 ty_one26 rfl (hcf [_, _, _] _ st 0 (by decide))) rfl rfl rfl ?_
    refine WL.fin hK925 (fun _ _ h => h) ?_
    refine WC.block ?_
    refine WC.seq fun K926 hK926 => ?_
    -- region 4
    refine WC.region ?_
    -- R4.0 20 := wirelaw.go:24 binOp
    refine WL.v (by first | exact r_eql rfl rfl (decide_eq_true (by omega)) | exact r_eql rfl rfl (decide_eq_false (by omega)) | exact r_eql rfl rfl rfl) rfl rfl rfl ?_
    -- R4.1 19 := wirelaw.go:24 assign
    refine WL.v (by first | exact r_assign (v := .bool _) rfl | exact r_assign rfl) rfl rfl rfl ?_
    refine WL.fin hK926 (fun _ _ h => h) ?_
    refine WC.condF rfl rfl ?_
    refine WC.seq fun K927 hK927 => ?_
    refine WC.seq fun K928 hK928 => ?_
    -- region 6
    refine WC.region ?_
    -- R6.0 25 := wirelaw.go:26 binOp
    refine WL.v (by first | exact r_eql rfl rfl (decide_eq_true (by omega)) | exact r_eql rfl rfl (decide_eq_false (by omega)) | exact r_eql rfl rfl rfl) rfl rfl rfl ?_
    -- R6.1 24 := wirelaw.go:26 assign
    refine WL.v (by first | exact r_assign (v := .bool _) rfl | exact r_assign rfl) rfl rfl rfl ?_
    refine WL.fin hK928 (fun _ _ h => h) ?_
    refine WC.condF rfl rfl ?_
    -- region 7
    refine WC.region ?_
    -- R7.0 26 := wirelaw.go:26 binOp
    refine WL.v (by first | exact r_eql rfl rfl (decide_eq_true (by omega)) | exact r_eql rfl rfl (decide_eq_false (by omega)) | exact r_eql rfl rfl rfl) rfl rfl rfl ?_
    -- R7.1 24 := wirelaw.go:26 assign
    refine WL.v (by first | exact r_assign (v := .bool _) rfl | exact r_assign rfl) rfl rfl rfl ?_
    refine WL.fin hK927 (fun _ _ h => h) ?_
    refine WC.condF rfl rfl ?_
    rcases hbo.form with ⟨rfl, rfl, rfl⟩ | ⟨ob, oc, fo, rfl, hoc, hoc2, rfl, hfo, hbb⟩
    · skip
      refine WC.seq fun K929 hK929 => ?_
      -- region 14
      refine WC.region ?_
      -- R14.0 45 := wirelaw.go:34 binOp
      refine WL.v (by first | exact r_eql rfl rfl (decide_eq_true (by omega)) | exact r_eql rfl rfl (decide_eq_false (by omega)) | exact r_eql rfl rfl rfl) rfl rfl rfl ?_
      -- R14.1 44 := wirelaw.go:34 assign
      refine WL.v (by first | exact r_assign (v := .bool _) rfl | exact r_assign rfl) rfl rfl rfl ?_
      refine WL.fin hK929 (fun _ _ h => h) ?_
      refine WC.condF rfl rfl ?_
      refine WC.seq fun K930 hK930 => ?_
      -- region 17
      refine WC.region ?_
      -- R17.0 59 := wirelaw.go:38 binOp
      refine WL.v (by first | exact r_eql rfl rfl (decide_eq_true (by omega)) | exact r_eql rfl rfl (decide_eq_false (by omega)) | exact r_eql rfl rfl rfl) rfl rfl rfl ?_
      -- R17.1 58 := wirelaw.go:38 assign
      refine WL.v (by first | exact r_assign (v := .bool _) rfl | exact r_assign rfl) rfl rfl rfl ?_
      refine WL.fin hK930 (fun _ _ h => h) ?_
      refine WC.condF rfl rfl ?_
      refine WC.seq fun K931 hK931 => ?_
      -- region 19
      refine WC.region ?_
      -- R19.0 68 := wirelaw.go:40 binOp
      refine WL.v (by first | exact r_eql rfl rfl (decide_eq_true (by omega)) | exact r_eql rfl rfl (decide_eq_false (by omega)) | exact r_eql rfl rfl rfl) rfl rfl rfl ?_
      -- R19.1 67 := wirelaw.go:40 assign
      refine WL.v (by first | exact r_assign (v := .bool _) rfl | exact r_assign rfl) rfl rfl rfl ?_
      refine WL.fin hK931 (fun _ _ h => h) ?_
      refine WC.condF rfl rfl ?_
      refine WC.seq fun K932 hK932 => ?_
      -- region 21
      refine WC.region ?_
      -- R21.0 74 := wirelaw.go:42 binOp
      refine WL.v (by first | exact r_eql rfl rfl (decide_eq_true (by omega)) | exact r_eql rfl rfl (decide_eq_false (by omega)) | exact r_eql rfl rfl rfl) rfl rfl rfl ?_
      -- R21.1 73 := wirelaw.go:42 assign
      refine WL.v (by first | exact r_assign (v := .bool _) rfl | exact r_assign rfl) rfl rfl rfl ?_
      refine WL.fin hK932 (fun _ _ h => h) ?_
      refine WC.condT rfl rfl ?_
      refine WC.seq fun K933 hK933 => ?_
      -- region 22
      refine WC.region ?_
      -- R22.0 75 := wirelaw.go:43 move
      refine WL.v (by first | exact r_move (v := .slice _ _ _) rfl | exact r_move rfl) rfl rfl rfl ?_
      -- R22.1 76 := wirelaw.go:43 call
      refine WL.v (by exact r_len ty_usl25 rfl) rfl rfl rfl ?_
      -- R22.2 77 := wirelaw.go:43 binOp
      refine WL.v (by exact r_quo (r := 0) rfl rfl (by omega) rfl) rfl rfl rfl ?_
      -- R22.3 10 := wirelaw.go:43 assign
      refine WL.v (by first | exact r_assign (v := .int _ _) rfl | exact r_assign rfl) rfl rfl rfl ?_
      refine WL.fin hK933 (fun _ _ h => h) ?_
      refine WC.seq fun K934 hK934 => ?_
      -- region 23
      refine WC.region ?_
      -- R23.0 78 := wirelaw.go:43 move
      refine WL.v (by first | exact r_move (v := .int _ _) rfl | exact r_move rfl) rfl rfl rfl ?_
      -- R23.1 79 := wirelaw.go:43 binOp
      refine WL.v (by first | exact r_gtr rfl rfl (decide_eq_true (by omega)) | exact r_gtr rfl rfl (decide_eq_false (by omega)) | exact r_gtr rfl rfl rfl) rfl rfl rfl ?_
      refine WL.fin hK934 (fun _ _ h => h) ?_
      refine WC.condF rfl rfl ?_
      refine WC.skipF hK924 (fun _ _ h => h) ?_
      refine WC.seq fun K935 hK935 => ?_
      -- region 26
      refine WC.region ?_
      -- R26.0 98 := wirelaw.go:48 move
      refine WL.v (by first | exact r_move (v := .slice _ _ _) rfl | exact r_move rfl) rfl rfl rfl ?_
      -- R26.1 4 := wirelaw.go:48 assign
      refine WL.v (by first | exact r_assign (v := .slice _ _ _) rfl | exact r_assign rfl) rfl rfl rfl ?_
      refine WL.fin hK935 (fun _ _ h => h) ?_
      refine WC.ret1 Tryd.results26 (fun _ _ h => h) rfl ?_
      exact ⟨_, rfl, _, _, hbo.bo, .inr (Nat.le_add_right _ _), st.drop⟩
    · have st : S0 w0 ((ob, Row 5 (oc * 1) fo) :: (b3, Row 45 68 (nth (opC kd f d.v off val))) :: (XI ++ L)) w := st
      by_cases hn : 0 < bs.length / 2
      · have hml : o' % (bs.length / 2) < bs.length / 2 := Nat.mod_lt _ hn
        obtain ⟨j, hj⟩ : ∃ j, j = o' % (bs.length / 2) * 2 := ⟨_, rfl⟩
        have hj2 : j + 1 < bs.length := by omega
        refine WC.seq fun K936 hK936 => ?_
        -- region 14
        refine WC.region ?_
        -- R14.0 45 := wirelaw.go:34 binOp
        refine WL.v (by first | exact r_eql rfl rfl (decide_eq_true (by omega)) | exact r_eql rfl rfl (decide_eq_false (by omega)) | exact r_eql rfl rfl rfl) rfl rfl rfl ?_
        -- R14.1 44 := wirelaw.go:34 assign
        refine WL.v (by first | exact r_assign (v := .bool _) rfl | exact r_assign rfl) rfl rfl rfl ?_
        refine WL.fin hK936 (fun _ _ h => h) ?_
        refine WC.condF rfl rfl ?_
        refine WC.seq fun K937 hK937 => ?_
        -- region 17
        refine WC.region ?_
        -- R17.0 59 := wirelaw.go:38 binOp
        refine WL.v (by first | exact r_eql rfl rfl (decide_eq_true (by omega)) | exact r_eql rfl rfl (decide_eq_false (by omega)) | exact r_eql rfl rfl rfl) rfl rfl rfl ?_
        -- R17.1 58 := wirelaw.go:38 assign
        refine WL.v (by first | exact r_assign (v := .bool _) rfl | exact r_assign rfl) rfl rfl rfl ?_
        refine WL.fin hK937 (fun _ _ h => h) ?_
        refine WC.condF rfl rfl ?_
        refine WC.seq fun K938 hK938 => ?_
        -- region 19
        refine WC.region ?_
        -- R19.0 68 := wirelaw.go:40 binOp
        refine WL.v (by first | exact r_eql rfl rfl (decide_eq_true (by omega)) | exact r_eql rfl rfl (decide_eq_false (by omega)) | exact r_eql rfl rfl rfl) rfl rfl rfl ?_
        -- R19.1 67 := wirelaw.go:40 assign
        refine WL.v (by first | exact r_assign (v := .bool _) rfl | exact r_assign rfl) rfl rfl rfl ?_
        refine WL.fin hK938 (fun _ _ h => h) ?_
        refine WC.condF rfl rfl ?_
        refine WC.seq fun K939 hK939 => ?_
        -- region 21
        refine WC.region ?_
        -- R21.0 74 := wirelaw.go:42 binOp
        refine WL.v (by first | exact r_eql rfl rfl (decide_eq_true (by omega)) | exact r_eql rfl rfl (decide_eq_false (by omega)) | exact r_eql rfl rfl rfl) rfl rfl rfl ?_
        -- R21.1 73 := wirelaw.go:42 assign
        refine WL.v (by first | exact r_assign (v := .bool _) rfl | exact r_assign rfl) rfl rfl rfl ?_
        refine WL.fin hK939 (fun _ _ h => h) ?_
        refine WC.condT rfl rfl ?_
        refine WC.seq fun K940 hK940 => ?_
        -- region 22
        refine WC.region ?_
        -- R22.0 75 := wirelaw.go:43 move
        refine WL.v (by first | exact r_move (v := .slice _ _ _) rfl | exact r_move rfl) rfl rfl rfl ?_
        -- R22.1 76 := wirelaw.go:43 call
        refine WL.v (by exact r_len ty_usl25 rfl) rfl rfl rfl ?_
        -- R22.2 77 := wirelaw.go:43 binOp
        refine WL.v (by exact r_quo (r := ((bs.length / 2 : Nat) : Int)) rfl rfl (by omega) (by rw [show ((bs.length : Nat) : Int).tdiv 2 = ((bs.length / 2 : Nat) : Int) from rfl, wi64 (by omega) (by omega)])) rfl rfl rfl ?_
        -- R22.3 10 := wirelaw.go:43 assign
        refine WL.v (by first | exact r_assign (v := .int _ _) rfl | exact r_assign rfl) rfl rfl rfl ?_
        refine WL.fin hK940 (fun _ _ h => h) ?_
        refine WC.seq fun K941 hK941 => ?_
        -- region 23
        refine WC.region ?_
        -- R23.0 78 := wirelaw.go:43 move
        refine WL.v (by first | exact r_move (v := .int _ _) rfl | exact r_move rfl) rfl rfl rfl ?_
        -- R23.1 79 := wirelaw.go:43 binOp
        refine WL.v (by first | exact r_gtr rfl rfl (decide_eq_true (by omega)) | exact r_gtr rfl rfl (decide_eq_false (by omega)) | exact r_gtr rfl rfl rfl) rfl rfl rfl ?_
        refine WL.fin hK941 (fun _ _ h => h) ?_
        refine WC.condT rfl rfl ?_
        refine WC.seq fun K942 hK942 => ?_
        -- region 24
        refine WC.region ?_
        -- R24.0 80 := wirelaw.go:44 move
        refine WL.v (by first | exact r_move (v := .int _ _) rfl | exact r_move rfl) rfl rfl rfl ?_
        -- R24.1 81 := wirelaw.go:44 move
        refine WL.v (by first | exact r_move (v := .int _ _) rfl | exact r_move rfl) rfl rfl rfl ?_
        -- R24.2 82 := wirelaw.go:44 binOp
        refine WL.v (by exact r_rem (r := ((o' % (bs.length / 2) : Nat) : Int)) rfl rfl (by omega) rfl) rfl rfl rfl ?_
        -- R24.3 83 := wirelaw.go:44 binOp
        refine WL.v (by exact r_mul (r := (j : Int)) rfl rfl ((wi64 (by omega) (by omega)).trans (by omega))) rfl rfl rfl ?_
        -- R24.4 11 := wirelaw.go:44 assign
        refine WL.v (by first | exact r_assign (v := .int _ _) rfl | exact r_assign rfl) rfl rfl rfl ?_
        refine WL.fin hK942 (fun _ _ h => h) ?_
        -- region 25 (draws)
        refine WC.heldS [14, 15] [0, 1, 2, 3, 4, 5, 6, 7, 8, 9, 10, 11, 12] [13, 14, 15] st (st.drop) ty_mixed (by kernel_rfl) fun w st Kq hKq => ?_
        -- R25.0 84 := wirelaw.go:45 move
        refine HL.v (fun w st => by first | exact r_move (v := .slice _ _ _) rfl | exact r_move rfl) rfl rfl rfl ?_
        -- R25.1 85 := wirelaw.go:45 move
        refine HL.v (fun w st => by first | exact r_move (v := .int _ _) rfl | exact r_move rfl) rfl rfl rfl ?_
        -- R25.2 86 := wirelaw.go:45 move
        refine HL.v (fun w st => by first | exact r_move (v := .slice _ _ _) rfl | exact r_move rfl) rfl rfl rfl ?_
        -- R25.3 87 := wirelaw.go:45 move
        refine HL.v (fun w st => by first | exact r_move (v := .int _ _) rfl | exact r_move rfl) rfl rfl rfl ?_
        -- R25.4 88 := wirelaw.go:45 binOp
        refine HL.v (fun w st => by exact r_add (r := ((j + 1 : Nat) : Int)) rfl rfl ((wi64 (by omega) (by omega)).trans (by omega))) rfl rfl rfl ?_
        -- R25.5 89 := wirelaw.go:45 fieldAddr
        refine HL.v (fun w st => by exact r_field ty_fld45_4 rfl) rfl rfl rfl ?_
        -- R25.6 90 := wirelaw.go:45 load
        refine HL.v (fun w st => by first | exact r_load1 ty_one30 rfl (hcf [] _ st 67 (by decide)) | exact r_load1 ty_one30 rfl (hcf _ _ st 67 (by decide)) | exact r_load1 ty_one30 rfl (hcf [_] _ st 67 (by decide)) | exact r_load1 ty_one30 rfl (hcf [_, _] _ st 67 (by decide)) | exact r_load1 ty_one30 rfl (hcf [_, _, _] _ st 67 (by decide))) rfl rfl rfl ?_
        -- R25.7 91 := wirelaw.go:45 binOp
        refine HL.v (fun w st => by exact r_shr (r := val / 256) rfl rfl (by omega) (shr_u 8)) rfl rfl rfl ?_
        -- R25.8 92 := wirelaw.go:45 convert
        refine HL.v (fun w st => by exact r_conv (r := val / 256 % 256) ty_cv30_5 rfl (wrap8 _)) rfl rfl rfl ?_
        -- R25.9 93 := wirelaw.go:45 fieldAddr
        refine HL.v (fun w st => by exact r_field ty_fld45_4 rfl) rfl rfl rfl ?_
        -- R25.10 94 := wirelaw.go:45 load
        refine HL.v (fun w st => by first | exact r_load1 ty_one30 rfl (hcf [] _ st 67 (by decide)) | exact r_load1 ty_one30 rfl (hcf _ _ st 67 (by decide)) | exact r_load1 ty_one30 rfl (hcf [_] _ st 67 (by decide)) | exact r_load1 ty_one30 rfl (hcf [_, _] _ st 67 (by decide)) | exact r_load1 ty_one30 rfl (hcf [_, _, _] _ st 67 (by decide))) rfl rfl rfl ?_
        -- R25.11 95 := wirelaw.go:45 convert
        refine HL.v (fun w st => by exact r_conv (r := val % 256) ty_cv30_5 rfl (wrap8 _)) rfl rfl rfl ?_
        -- R25.12 96 := wirelaw.go:45 indexAddr
        refine HL.v (fun w st => by exact r_indexS (j := j) ty_sl25 rfl rfl (by omega) (by omega)) rfl rfl rfl ?_
        refine HL.fin hKq ?_
        refine TL.at ?_
        -- R25.13 None := wirelaw.go:45 store
        first | refine WL.store (v := .int _ _) st ty_one5 rfl rfl rfl (by first | decide | omega) rfl rfl ?_ | refine WL.store (v := _) st ty_one5 rfl rfl rfl (by first | decide | omega) rfl rfl ?_ | refine WL.store (v := .int _ _) st.front1 ty_one5 rfl rfl rfl (by first | decide | omega) rfl rfl ?_ | refine WL.store (v := _) st.front1 ty_one5 rfl rfl rfl (by first | decide | omega) rfl rfl ?_ | refine WL.store (v := .int _ _) st.front2 ty_one5 rfl rfl rfl (by first | decide | omega) rfl rfl ?_ | refine WL.store (v := _) st.front2 ty_one5 rfl rfl rfl (by first | decide | omega) rfl rfl ?_ | refine WL.store (v := .int _ _) st.front3 ty_one5 rfl rfl rfl (by first | decide | omega) rfl rfl ?_ | refine WL.store (v := _) st.front3 ty_one5 rfl rfl rfl (by first | decide | omega) rfl rfl ?_ | refine WL.store (v := .int _ _) st.front4 ty_one5 rfl rfl rfl (by first | decide | omega) rfl rfl ?_ | refine WL.store (v := _) st.front4 ty_one5 rfl rfl rfl (by first | decide | omega) rfl rfl ?_ | refine WL.store (v := .int _ _) st.front5 ty_one5 rfl rfl rfl (by first | decide | omega) rfl rfl ?_ | refine WL.store (v := _) st.front5 ty_one5 rfl rfl rfl (by first | decide | omega) rfl rfl ?_ | refine WL.store (v := .int _ _) st.front6 ty_one5 rfl rfl rfl (by first | decide | omega) rfl rfl ?_ | refine WL.store (v := _) st.front6 ty_one5 rfl rfl rfl (by first | decide | omega) rfl rfl ?_ | refine WL.store (v := .int _ _) st.front7 ty_one5 rfl rfl rfl (by first | decide | omega) rfl rfl ?_ | refine WL.store (v := _) st.front7 ty_one5 rfl rfl rfl (by first | decide | omega) rfl rfl ?_ | refine WL.store (v := .int _ _) st.front8 ty_one5 rfl rfl rfl (by first | decide | omega) rfl rfl ?_ | refine WL.store (v := _) st.front8 ty_one5 rfl rfl rfl (by first | decide | omega) rfl rfl ?_
        intro w st
        refine TL.nxt (by first | exact st | exact st.drop | exact st.drop1 | exact st.drop2 | exact st.drop3 | exact st.drop4 | exact st.drop.drop | exact st.drop.drop1 | exact st.drop.drop2 | exact st.drop.drop3 | exact st.drop.drop4 | exact st.drop.drop.drop | exact st_dropL st | exact st_dropL st.drop | exact st_none st) ?_
        refine TL.at ?_
        -- R25.14 97 := wirelaw.go:45 indexAddr
        refine WL.v (by exact r_indexS (j := j + 1) ty_sl25 rfl rfl (by omega) (by omega)) rfl rfl rfl ?_
        refine TL.nxt' rfl ?_
        refine TL.at ?_
        -- R25.15 None := wirelaw.go:45 store
        first | refine WL.store (v := .int _ _) st ty_one5 rfl rfl rfl (by first | decide | omega) rfl rfl ?_ | refine WL.store (v := _) st ty_one5 rfl rfl rfl (by first | decide | omega) rfl rfl ?_ | refine WL.store (v := .int _ _) st.front1 ty_one5 rfl rfl rfl (by first | decide | omega) rfl rfl ?_ | refine WL.store (v := _) st.front1 ty_one5 rfl rfl rfl (by first | decide | omega) rfl rfl ?_ | refine WL.store (v := .int _ _) st.front2 ty_one5 rfl rfl rfl (by first | decide | omega) rfl rfl ?_ | refine WL.store (v := _) st.front2 ty_one5 rfl rfl rfl (by first | decide | omega) rfl rfl ?_ | refine WL.store (v := .int _ _) st.front3 ty_one5 rfl rfl rfl (by first | decide | omega) rfl rfl ?_ | refine WL.store (v := _) st.front3 ty_one5 rfl rfl rfl (by first | decide | omega) rfl rfl ?_ | refine WL.store (v := .int _ _) st.front4 ty_one5 rfl rfl rfl (by first | decide | omega) rfl rfl ?_ | refine WL.store (v := _) st.front4 ty_one5 rfl rfl rfl (by first | decide | omega) rfl rfl ?_ | refine WL.store (v := .int _ _) st.front5 ty_one5 rfl rfl rfl (by first | decide | omega) rfl rfl ?_ | refine WL.store (v := _) st.front5 ty_one5 rfl rfl rfl (by first | decide | omega) rfl rfl ?_ | refine WL.store (v := .int _ _) st.front6 ty_one5 rfl rfl rfl (by first | decide | omega) rfl rfl ?_ | refine WL.store (v := _) st.front6 ty_one5 rfl rfl rfl (by first | decide | omega) rfl rfl ?_ | refine WL.store (v := .int _ _) st.front7 ty_one5 rfl rfl rfl (by first | decide | omega) rfl rfl ?_ | refine WL.store (v := _) st.front7 ty_one5 rfl rfl rfl (by first | decide | omega) rfl rfl ?_ | refine WL.store (v := .int _ _) st.front8 ty_one5 rfl rfl rfl (by first | decide | omega) rfl rfl ?_ | refine WL.store (v := _) st.front8 ty_one5 rfl rfl rfl (by first | decide | omega) rfl rfl ?_
        intro w st
        refine TL.nxt' rfl ?_
        refine TL.wl ?_
        refine WL.fin hK924 (fun _ _ h => h) ?_
        refine WC.seq fun K943 hK943 => ?_
        -- region 26
        refine WC.region ?_
        -- R26.0 98 := wirelaw.go:48 move
        refine WL.v (by first | exact r_move (v := .slice _ _ _) rfl | exact r_move rfl) rfl rfl rfl ?_
        -- R26.1 4 := wirelaw.go:48 assign
        refine WL.v (by first | exact r_assign (v := .slice _ _ _) rfl | exact r_assign rfl) rfl rfl rfl ?_
        refine WL.fin hK943 (fun _ _ h => h) ?_
        refine WC.ret1 Tryd.results26 (fun _ _ h => h) rfl ?_
        have hset := BR.set (el := 5) (b := ob) (c := oc) (j := j) (x := val / 256 % 256) hoc hoc2 hfo hbb (by omega)
        have hset2 := BR.set (el := 5) (b := ob) (c := oc) (bs := bs.set j (val / 256 % 256)) (j := j + 1) (x := val % 256) (by rw [List.length_set]; exact hoc) hoc2 hset.1 hset.2 (by omega)
        exact ⟨_, rfl, (bs.set j (val / 256 % 256)).set (j + 1) (val % 256), [(ob, Row 5 (oc * 1) _)], ⟨_, .inl (.inr ⟨ob, oc, by rw [List.length_set, List.length_set]; rfl, by rw [List.length_set, List.length_set]; exact hoc, hoc2, rfl⟩), hset2.1, hset2.2⟩, .inr (by rw [List.length_set, List.length_set]; omega), st.drop1⟩
      · skip
        refine WC.seq fun K944 hK944 => ?_
        -- region 14
        refine WC.region ?_
        -- R14.0 45 := wirelaw.go:34 binOp
        refine WL.v (by first | exact r_eql rfl rfl (decide_eq_true (by omega)) | exact r_eql rfl rfl (decide_eq_false (by omega)) | exact r_eql rfl rfl rfl) rfl rfl rfl ?_
        -- R14.1 44 := wirelaw.go:34 assign
        refine WL.v (by first | exact r_assign (v := .bool _) rfl | exact r_assign rfl) rfl rfl rfl ?_
        refine WL.fin hK944 (fun _ _ h => h) ?_
        refine WC.condF rfl rfl ?_
        refine WC.seq fun K945 hK945 => ?_
        -- region 17
        refine WC.region ?_
        -- R17.0 59 := wirelaw.go:38 binOp
        refine WL.v (by first | exact r_eql rfl rfl (decide_eq_true (by omega)) | exact r_eql rfl rfl (decide_eq_false (by omega)) | exact r_eql rfl rfl rfl) rfl rfl rfl ?_
        -- R17.1 58 := wirelaw.go:38 assign
        refine WL.v (by first | exact r_assign (v := .bool _) rfl | exact r_assign rfl) rfl rfl rfl ?_
        refine WL.fin hK945 (fun _ _ h => h) ?_
        refine WC.condF rfl rfl ?_
        refine WC.seq fun K946 hK946 => ?_
        -- region 19
        refine WC.region ?_
        -- R19.0 68 := wirelaw.go:40 binOp
        refine WL.v (by first | exact r_eql rfl rfl (decide_eq_true (by omega)) | exact r_eql rfl rfl (decide_eq_false (by omega)) | exact r_eql rfl rfl rfl) rfl rfl rfl ?_
        -- R19.1 67 := wirelaw.go:40 assign
        refine WL.v (by first | exact r_assign (v := .bool _) rfl | exact r_assign rfl) rfl rfl rfl ?_
        refine WL.fin hK946 (fun _ _ h => h) ?_
        refine WC.condF rfl rfl ?_
        refine WC.seq fun K947 hK947 => ?_
        -- region 21
        refine WC.region ?_
        -- R21.0 74 := wirelaw.go:42 binOp
        refine WL.v (by first | exact r_eql rfl rfl (decide_eq_true (by omega)) | exact r_eql rfl rfl (decide_eq_false (by omega)) | exact r_eql rfl rfl rfl) rfl rfl rfl ?_
        -- R21.1 73 := wirelaw.go:42 assign
        refine WL.v (by first | exact r_assign (v := .bool _) rfl | exact r_assign rfl) rfl rfl rfl ?_
        refine WL.fin hK947 (fun _ _ h => h) ?_
        refine WC.condT rfl rfl ?_
        refine WC.seq fun K948 hK948 => ?_
        -- region 22
        refine WC.region ?_
        -- R22.0 75 := wirelaw.go:43 move
        refine WL.v (by first | exact r_move (v := .slice _ _ _) rfl | exact r_move rfl) rfl rfl rfl ?_
        -- R22.1 76 := wirelaw.go:43 call
        refine WL.v (by exact r_len ty_usl25 rfl) rfl rfl rfl ?_
        -- R22.2 77 := wirelaw.go:43 binOp
        refine WL.v (by exact r_quo (r := ((bs.length / 2 : Nat) : Int)) rfl rfl (by omega) (by rw [show ((bs.length : Nat) : Int).tdiv 2 = ((bs.length / 2 : Nat) : Int) from rfl, wi64 (by omega) (by omega)])) rfl rfl rfl ?_
        -- R22.3 10 := wirelaw.go:43 assign
        refine WL.v (by first | exact r_assign (v := .int _ _) rfl | exact r_assign rfl) rfl rfl rfl ?_
        refine WL.fin hK948 (fun _ _ h => h) ?_
        refine WC.seq fun K949 hK949 => ?_
        -- region 23
        refine WC.region ?_
        -- R23.0 78 := wirelaw.go:43 move
        refine WL.v (by first | exact r_move (v := .int _ _) rfl | exact r_move rfl) rfl rfl rfl ?_
        -- R23.1 79 := wirelaw.go:43 binOp
        refine WL.v (by first | exact r_gtr rfl rfl (decide_eq_true (by omega)) | exact r_gtr rfl rfl (decide_eq_false (by omega)) | exact r_gtr rfl rfl rfl) rfl rfl rfl ?_
        refine WL.fin hK949 (fun _ _ h => h) ?_
        refine WC.condF rfl rfl ?_
        refine WC.skipF hK924 (fun _ _ h => h) ?_
        refine WC.seq fun K950 hK950 => ?_
        -- region 26
        refine WC.region ?_
        -- R26.0 98 := wirelaw.go:48 move
        refine WL.v (by first | exact r_move (v := .slice _ _ _) rfl | exact r_move rfl) rfl rfl rfl ?_
        -- R26.1 4 := wirelaw.go:48 assign
        refine WL.v (by first | exact r_assign (v := .slice _ _ _) rfl | exact r_assign rfl) rfl rfl rfl ?_
        refine WL.fin hK950 (fun _ _ h => h) ?_
        refine WC.ret1 Tryd.results26 (fun _ _ h => h) rfl ?_
        exact ⟨_, rfl, _, _, hbo.bo, .inr (Nat.le_add_right _ _), st.drop1⟩
  refine enter [v, .agg (opC kd f d.v off val).toArray] Tryd.func26 rfl Tryd.ntmps26 rfl ?_
  show WC _ _ _ 99 [] [(0, v), (1, .agg (opC kd f d.v off val).toArray)] _
  refine WC.seq fun K951 hK951 => ?_
  -- region 0
  refine WC.region ?_
  -- R0.0 3 := wirelaw.go:20 box
  refine WL.box (m := 68) (vs := opC kd f d.v off val) st rfl rfl rfl rfl rfl rfl ?_
  intro b3 w st
  have hcf : ∀ its w', S0 w0 (its ++ ((b3, Row 45 68 (nth (opC kd f d.v off val))) :: (XI ++ L))) w' → CF w' b3 0 68 (nth (opC kd f d.v off val)) := fun its w' q => cf_row (t := 45) q (by simp)
  -- R0.1 4 := wirelaw.go:20 assign
  refine WL.v (by first | exact r_assign (v := .slice _ _ _) rfl | exact r_assign rfl) rfl rfl rfl ?_
  refine WL.fin hK951 (fun _ _ h => h) ?_
  refine WC.seq fun K952 hK952 => ?_
  -- region 1
  refine WC.region ?_
  -- R1.0 12 := wirelaw.go:21 move
  refine WL.v (by first | exact r_move (v := .slice _ _ _) rfl | exact r_move rfl) rfl rfl rfl ?_
  -- R1.1 13 := wirelaw.go:21 call
  refine WL.appW (s := sb) (BR.nil _) hsok (hsrd st (fun x hx => by simp [hx])) (XI := []) st ty_mk25 ty_sl25 ty_zero5 rfl rfl hsv.symm (by rw [hsb]; simp; omega) (by rw [hsb]; simp; omega) rfl rfl rfl ?_
  intro vo XO w hbo st
  rw [List.nil_append, hsb] at hbo
  -- R1.2 5 := wirelaw.go:21 assign
  refine WL.v (by first | exact r_assign (v := .slice _ _ _) rfl | exact r_assign rfl) rfl rfl rfl ?_
  refine WL.fin hK952 (fun _ _ h => h) ?_
  refine WC.seq fun K953 hK953 => ?_
  -- region 2
  refine WC.region ?_
  -- R2.0 14 := wirelaw.go:22 fieldAddr
  refine WL.v (by exact r_field ty_fld45_3 rfl) rfl rfl rfl ?_
  -- R2.1 15 := wirelaw.go:22 load
  refine WL.v (by first | exact r_load1 ty_one37 rfl (hcf [] _ st 66 (by decide)) | exact r_load1 ty_one37 rfl (hcf _ _ st 66 (by decide)) | exact r_load1 ty_one37 rfl (hcf [_] _ st 66 (by decide)) | exact r_load1 ty_one37 rfl (hcf [_, _] _ st 66 (by decide)) | exact r_load1 ty_one37 rfl (hcf [_, _, _] _ st 66 (by decide))) rfl rfl rfl ?_
  -- R2.2 16 := wirelaw.go:22 convert
  refine WL.v (by exact r_conv (r := (o' : Int)) ty_cv37_3 rfl ((congrArg IntKind.i64.wrap ho').trans (wi64 (by omega) (by omega)))) rfl rfl rfl ?_
  -- R2.3 6 := wirelaw.go:22 assign
  refine WL.v (by first | exact r_assign (v := .int _ _) rfl | exact r_assign rfl) rfl rfl rfl ?_
  refine WL.fin hK953 (fun _ _ h => h) ?_
  refine WC.seq fun K954 hK954 => ?_
  refine WC.seq fun K955 hK955 => ?_
  -- region 3
  refine WC.region ?_
  -- R3.0 17 := wirelaw.go:23 fieldAddr
  refine WL.v (by exact r_field ty_fld45_0 rfl) rfl rfl rfl ?_
  -- R3.1 18 := wirelaw.go:23 load
  refine WL.v (by first | exact r_load1 ty_one26 rfl (hcf [] _ st 0 (by decide)) | exact r_load1 ty_one26 rfl (hcf _ _ st 0 (by decide)) | exact r_load1 ty_one26 rfl (hcf [_] _ st 0 (by decide)) | exact r_load1 ty_one26 rfl (hcf [_, _] _ st 0 (by decide)) | exact r_load1 ty_one26 rfl (hcf [_, _, _] _ st 0 (by decide))) rfl rfl rfl ?_
  refine WL.fin hK955 (fun _ _ h => h) ?_
  refine WC.block ?_
  refine WC.seq fun K956 hK956 => ?_
  -- region 4
  refine WC.region ?_
  -- R4.0 20 := wirelaw.go:24 binOp
  refine WL.v (by first | exact r_eql rfl rfl (decide_eq_true (by omega)) | exact r_eql rfl rfl (decide_eq_false (by omega)) | exact r_eql rfl rfl rfl) rfl rfl rfl ?_
  -- R4.1 19 := wirelaw.go:24 assign
  refine WL.v (by first | exact r_assign (v := .bool _) rfl | exact r_assign rfl) rfl rfl rfl ?_
  refine WL.fin hK956 (fun _ _ h => h) ?_
  refine WC.condF rfl rfl ?_
  refine WC.seq fun K957 hK957 => ?_
  refine WC.seq fun K958 hK958 => ?_
  -- region 6
  refine WC.region ?_
  -- R6.0 25 := wirelaw.go:26 binOp
  refine WL.v (by first | exact r_eql rfl rfl (decide_eq_true (by omega)) | exact r_eql rfl rfl (decide_eq_false (by omega)) | exact r_eql rfl rfl rfl) rfl rfl rfl ?_
  -- R6.1 24 := wirelaw.go:26 assign
  refine WL.v (by first | exact r_assign (v := .bool _) rfl | exact r_assign rfl) rfl rfl rfl ?_
  refine WL.fin hK958 (fun _ _ h => h) ?_
  refine WC.condF rfl rfl ?_
  -- region 7
  refine WC.region ?_
  -- R7.0 26 := wirelaw.go:26 binOp
  refine WL.v (by first | exact r_eql rfl rfl (decide_eq_true (by omega)) | exact r_eql rfl rfl (decide_eq_false (by omega)) | exact r_eql rfl rfl rfl) rfl rfl rfl ?_
  -- R7.1 24 := wirelaw.go:26 assign
  refine WL.v (by first | exact r_assign (v := .bool _) rfl | exact r_assign rfl) rfl rfl rfl ?_
  refine WL.fin hK957 (fun _ _ h => h) ?_
  refine WC.condF rfl rfl ?_
  refine WC.seq fun K959 hK959 => ?_
  -- region 14
  refine WC.region ?_
  -- R14.0 45 := wirelaw.go:34 binOp
  refine WL.v (by first | exact r_eql rfl rfl (decide_eq_true (by omega)) | exact r_eql rfl rfl (decide_eq_false (by omega)) | exact r_eql rfl rfl rfl) rfl rfl rfl ?_
  -- R14.1 44 := wirelaw.go:34 assign
  refine WL.v (by first | exact r_assign (v := .bool _) rfl | exact r_assign rfl) rfl rfl rfl ?_
  refine WL.fin hK959 (fun _ _ h => h) ?_
  refine WC.condF rfl rfl ?_
  refine WC.seq fun K960 hK960 => ?_
  -- region 17
  refine WC.region ?_
  -- R17.0 59 := wirelaw.go:38 binOp
  refine WL.v (by first | exact r_eql rfl rfl (decide_eq_true (by omega)) | exact r_eql rfl rfl (decide_eq_false (by omega)) | exact r_eql rfl rfl rfl) rfl rfl rfl ?_
  -- R17.1 58 := wirelaw.go:38 assign
  refine WL.v (by first | exact r_assign (v := .bool _) rfl | exact r_assign rfl) rfl rfl rfl ?_
  refine WL.fin hK960 (fun _ _ h => h) ?_
  refine WC.condF rfl rfl ?_
  refine WC.seq fun K961 hK961 => ?_
  -- region 19
  refine WC.region ?_
  -- R19.0 68 := wirelaw.go:40 binOp
  refine WL.v (by first | exact r_eql rfl rfl (decide_eq_true (by omega)) | exact r_eql rfl rfl (decide_eq_false (by omega)) | exact r_eql rfl rfl rfl) rfl rfl rfl ?_
  -- R19.1 67 := wirelaw.go:40 assign
  refine WL.v (by first | exact r_assign (v := .bool _) rfl | exact r_assign rfl) rfl rfl rfl ?_
  refine WL.fin hK961 (fun _ _ h => h) ?_
  refine WC.condF rfl rfl ?_
  refine WC.seq fun K962 hK962 => ?_
  -- region 21
  refine WC.region ?_
  -- R21.0 74 := wirelaw.go:42 binOp
  refine WL.v (by first | exact r_eql rfl rfl (decide_eq_true (by omega)) | exact r_eql rfl rfl (decide_eq_false (by omega)) | exact r_eql rfl rfl rfl) rfl rfl rfl ?_
  -- R21.1 73 := wirelaw.go:42 assign
  refine WL.v (by first | exact r_assign (v := .bool _) rfl | exact r_assign rfl) rfl rfl rfl ?_
  refine WL.fin hK962 (fun _ _ h => h) ?_
  refine WC.condF rfl rfl ?_
  refine WC.skipF hK954 (fun _ _ h => h) ?_
  refine WC.seq fun K963 hK963 => ?_
  -- region 26
  refine WC.region ?_
  -- R26.0 98 := wirelaw.go:48 move
  refine WL.v (by first | exact r_move (v := .slice _ _ _) rfl | exact r_move rfl) rfl rfl rfl ?_
  -- R26.1 4 := wirelaw.go:48 assign
  refine WL.v (by first | exact r_assign (v := .slice _ _ _) rfl | exact r_assign rfl) rfl rfl rfl ?_
  refine WL.fin hK963 (fun _ _ h => h) ?_
  refine WC.ret1 Tryd.results26 (fun _ _ h => h) rfl ?_
  exact ⟨_, rfl, _, _, hbo.bo, .inr (Nat.le_add_right _ _), st_cut1 st⟩
end Go.Proofs.Qxb6500841aDoor

