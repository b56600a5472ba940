import Derived.Test.Qxb6500841aDoorX11
set_option linter.unusedVariables false
set_option linter.unusedSimpArgs false
set_option maxRecDepth 20000
namespace Go.Proofs.Qxb6500841aDoor
open Go.RowKit Go.E1 Go.Wire
variable {w0 : World} {L : List HI} {w : World} {ET : Nat → TypeId} {EU : Nat → Value}

theorem ethB_len (e : Nat → Int) : (ethB e).length = 14 := rfl
theorem ipB_len (x : Nat → Int) (o : List Int) : (ipB x o).length = 20 + o.length := by simp [ipB, be16]; omega
theorem tcpB_len (x : Nat → Int) (o : List Int) : (tcpB x o).length = 20 + o.length := by simp [tcpB, be16, be32]; omega
theorem icB_len (y x : Nat → Int) (o : List Int) : (icB y x o).length = 28 + o.length := by simp [icB, ipB_len, be16, be32]; omega

/-- A frame's bytes. -/
def frB (f : FD) : List Int := ethB f.e ++ (if f.k = 0 then [] else ipB f.x f.s1.bs) ++ (if f.k = 2 then tcpB f.t f.s2.bs else if f.k = 3 then icB f.y f.z f.s3.bs else []) ++ f.s4.bs ++ f.s5.bs

set_option maxHeartbeats 4000000 in
theorem apFr_ok {v : Value} {bs : List Int} {XI : List HI} (b o : Nat) (f : FD) (hf : f.ok) (hP : checkP f) (ho : BO 5 v bs XI) (hb : bs.length ≤ 1000000000) (hr : ∀ its w', S0 w0 (its ++ L) w' → FrAt w' b o f) (st : S0 w0 (XI ++ L) w) :
    Calls Tryd.prog 34 #[v, .pointer (some ⟨b, o, none⟩)] w (Ret fun v' w' => ∃ XI', BO 5 v' (bs ++ frB f) XI' ∧ S0 w0 (XI' ++ L) w') := by
  have hrc := fun its w' q => (hr its w' q).c
  have l1 := hf.l1
  have l2 := hf.l2
  have l3 := hf.l3
  have l4 := hf.l4
  have l5 := hf.l5
  have kr := hf.kr
  obtain ⟨k4, _, hP2⟩ := hP
  have hip : f.k ≠ 0 → ipP f.x f.s1.bs.length := fun h => hP2.elim (fun q => absurd q.1 h) (fun q => q.2.2.1)
  have htcp : f.k = 2 → tcpP f.t f.s2.bs.length := fun h => hP2.elim (fun q => by omega) (fun q => q.2.2.2.1.elim (fun r => by omega) (fun r => r.2.2.elim (fun r => r.2.2) (fun r => absurd h r.1)))
  have hic : f.k = 3 → ipP f.z f.s3.bs.length := fun h => hP2.elim (fun q => by omega) (fun q => q.2.2.2.1.elim (fun r => by omega) (fun r => r.2.2.elim (fun r => by omega) (fun r => r.2.2.2.1)))
  by_cases k0 : f.k = 0
  · skip
    refine enter [v, .pointer (some ⟨b, o, none⟩)] Tryd.func34 rfl Tryd.ntmps34 rfl ?_
    show WC _ _ _ 50 [] [(0, v), (1, .pointer (some ⟨b, o, none⟩))] _
    refine WC.seq fun K720 hK720 => ?_
    -- region 0
    refine WC.region ?_
    -- R0.0 4 := frame.go:179 assign
    refine WL.v (by first | exact r_assign (v := .slice _ _ _) rfl | exact r_assign rfl) rfl rfl rfl ?_
    refine WL.fin hK720 (fun _ _ h => h) ?_
    refine WC.seq fun K721 hK721 => ?_
    -- region 1
    refine WC.region ?_
    -- R1.0 5 := frame.go:180 move
    refine WL.v (by first | exact r_move (v := .slice _ _ _) rfl | exact r_move rfl) rfl rfl rfl ?_
    -- R1.1 6 := frame.go:180 move
    refine WL.v (by first | exact r_move (v := .pointer _) rfl | exact r_move rfl) rfl rfl rfl ?_
    -- R1.2 7 := frame.go:180 nilCheck
    refine WL.v (by exact r_nilCheck rfl) rfl rfl rfl ?_
    -- R1.3 8 := frame.go:180 fieldAddr
    refine WL.v (by exact r_field ty_fld43_1 rfl) rfl rfl rfl ?_
    -- R1.4 9 := frame.go:180 call
    refine WL.call (r_call ty_call53 rfl) rfl rfl rfl (apEth_ok b (o + 1) f.e hf.eb hf.e12 ho (by omega) (fun its w' q => (hr its w' q).eth) st) ?_
    rintro v w ⟨XI, ho, st⟩
    -- R1.5 0 := frame.go:180 assign
    refine WL.v (by first | exact r_assign (v := .slice _ _ _) rfl | exact r_assign rfl) rfl rfl rfl ?_
    refine WL.fin hK721 (fun _ _ h => h) ?_
    refine WC.seq fun K722 hK722 => ?_
    refine WC.seq fun K723 hK723 => ?_
    -- region 2
    refine WC.region ?_
    -- R2.0 10 := frame.go:181 move
    refine WL.v (by first | exact r_move (v := .pointer _) rfl | exact r_move rfl) rfl rfl rfl ?_
    -- R2.1 11 := frame.go:181 nilCheck
    refine WL.v (by exact r_nilCheck rfl) rfl rfl rfl ?_
    -- R2.2 12 := frame.go:181 fieldAddr
    refine WL.v (by exact r_field ty_fld43_0 rfl) rfl rfl rfl ?_
    -- R2.3 13 := frame.go:181 load
    refine WL.v (by first | exact r_load1 ty_one27 rfl (hrc [] _ st 0 (by decide)) | exact r_load1 ty_one27 rfl (hrc _ _ st 0 (by decide)) | exact r_load1 ty_one27 rfl (hrc [_] _ st 0 (by decide)) | exact r_load1 ty_one27 rfl (hrc [_, _] _ st 0 (by decide)) | exact r_load1 ty_one27 rfl (hrc [_, _, _] _ st 0 (by decide))) rfl rfl rfl ?_
    -- R2.4 14 := frame.go:181 binOp
    refine WL.v (by first | exact r_neq rfl rfl (decide_eq_true (by omega)) | exact r_neq rfl rfl (decide_eq_false (by omega)) | exact r_neq rfl rfl rfl) rfl rfl rfl ?_
    refine WL.fin hK723 (fun _ _ h => h) ?_
    refine WC.condF rfl rfl ?_
    refine WC.skipF hK722 (fun _ _ h => h) ?_
    refine WC.seq fun K724 hK724 => ?_
    refine WC.seq fun K725 hK725 => ?_
    -- region 4
    refine WC.region ?_
    -- R4.0 20 := frame.go:184 move
    refine WL.v (by first | exact r_move (v := .pointer _) rfl | exact r_move rfl) rfl rfl rfl ?_
    -- R4.1 21 := frame.go:184 nilCheck
    refine WL.v (by exact r_nilCheck rfl) rfl rfl rfl ?_
    -- R4.2 22 := frame.go:184 fieldAddr
    refine WL.v (by exact r_field ty_fld43_0 rfl) rfl rfl rfl ?_
    -- R4.3 23 := frame.go:184 load
    refine WL.v (by first | exact r_load1 ty_one27 rfl (hrc [] _ st 0 (by decide)) | exact r_load1 ty_one27 rfl (hrc _ _ st 0 (by decide)) | exact r_load1 ty_one27 rfl (hrc [_] _ st 0 (by decide)) | exact r_load1 ty_one27 rfl (hrc [_, _] _ st 0 (by decide)) | exact r_load1 ty_one27 rfl (hrc [_, _, _] _ st 0 (by decide))) rfl rfl rfl ?_
    refine WL.fin hK725 (fun _ _ h => h) ?_
    refine WC.block ?_
    refine WC.seq fun K726 hK726 => ?_
    -- region 5
    refine WC.region ?_
    -- R5.0 25 := frame.go:185 binOp
    refine WL.v (by first | exact r_eql rfl rfl (decide_eq_true (by omega)) | exact r_eql rfl rfl (decide_eq_false (by omega)) | exact r_eql rfl rfl rfl) rfl rfl rfl ?_
    -- R5.1 24 := frame.go:185 assign
    refine WL.v (by first | exact r_assign (v := .bool _) rfl | exact r_assign rfl) rfl rfl rfl ?_
    refine WL.fin hK726 (fun _ _ h => h) ?_
    refine WC.condF rfl rfl ?_
    refine WC.seq fun K727 hK727 => ?_
    -- region 7
    refine WC.region ?_
    -- R7.0 32 := frame.go:187 binOp
    refine WL.v (by first | exact r_eql rfl rfl (decide_eq_true (by omega)) | exact r_eql rfl rfl (decide_eq_false (by omega)) | exact r_eql rfl rfl rfl) rfl rfl rfl ?_
    -- R7.1 31 := frame.go:187 assign
    refine WL.v (by first | exact r_assign (v := .bool _) rfl | exact r_assign rfl) rfl rfl rfl ?_
    refine WL.fin hK727 (fun _ _ h => h) ?_
    refine WC.condF rfl rfl ?_
    refine WC.skipF hK724 (fun _ _ h => h) ?_
    refine WC.seq fun K728 hK728 => ?_
    -- region 9
    refine WC.region ?_
    -- R9.0 38 := frame.go:190 move
    refine WL.v (by first | exact r_move (v := .slice _ _ _) rfl | exact r_move rfl) rfl rfl rfl ?_
    -- R9.1 39 := frame.go:190 move
    refine WL.v (by first | exact r_move (v := .pointer _) rfl | exact r_move rfl) rfl rfl rfl ?_
    -- R9.2 40 := frame.go:190 nilCheck
    refine WL.v (by exact r_nilCheck rfl) rfl rfl rfl ?_
    -- R9.3 41 := frame.go:190 fieldAddr
    refine WL.v (by exact r_field ty_fld43_5 rfl) rfl rfl rfl ?_
    -- R9.4 42 := frame.go:190 load
    refine WL.v (by first | exact r_load1 ty_one25 rfl (hrc [] _ st 62 (by decide)) | exact r_load1 ty_one25 rfl (hrc _ _ st 62 (by decide)) | exact r_load1 ty_one25 rfl (hrc [_] _ st 62 (by decide)) | exact r_load1 ty_one25 rfl (hrc [_, _] _ st 62 (by decide)) | exact r_load1 ty_one25 rfl (hrc [_, _, _] _ st 62 (by decide))) rfl rfl rfl ?_
    -- R9.5 43 := frame.go:190 call
    refine WL.appB (s := f.s4) ho hf.o4 (hr XI w st).rd.d4 st ty_mk25 ty_sl25 ty_zero5 rfl rfl rfl (by simp only [List.length_append, ethB_len, ipB_len, tcpB_len, icB_len]; omega) (by simp only [List.length_append, ethB_len, ipB_len, tcpB_len, icB_len]; omega) rfl rfl rfl ?_
    intro v XI w ho st
    -- R9.6 0 := frame.go:190 assign
    refine WL.v (by first | exact r_assign (v := .slice _ _ _) rfl | exact r_assign rfl) rfl rfl rfl ?_
    refine WL.fin hK728 (fun _ _ h => h) ?_
    refine WC.seq fun K729 hK729 => ?_
    -- region 10
    refine WC.region ?_
    -- R10.0 44 := frame.go:191 move
    refine WL.v (by first | exact r_move (v := .slice _ _ _) rfl | exact r_move rfl) rfl rfl rfl ?_
    -- R10.1 45 := frame.go:191 move
    refine WL.v (by first | exact r_move (v := .pointer _) rfl | exact r_move rfl) rfl rfl rfl ?_
    -- R10.2 46 := frame.go:191 nilCheck
    refine WL.v (by exact r_nilCheck rfl) rfl rfl rfl ?_
    -- R10.3 47 := frame.go:191 fieldAddr
    refine WL.v (by exact r_field ty_fld43_6 rfl) rfl rfl rfl ?_
    -- R10.4 48 := frame.go:191 load
    refine WL.v (by first | exact r_load1 ty_one25 rfl (hrc [] _ st 63 (by decide)) | exact r_load1 ty_one25 rfl (hrc _ _ st 63 (by decide)) | exact r_load1 ty_one25 rfl (hrc [_] _ st 63 (by decide)) | exact r_load1 ty_one25 rfl (hrc [_, _] _ st 63 (by decide)) | exact r_load1 ty_one25 rfl (hrc [_, _, _] _ st 63 (by decide))) rfl rfl rfl ?_
    -- R10.5 49 := frame.go:191 call
    refine WL.appB (s := f.s5) ho hf.o5 (hr XI w st).rd.d5 st ty_mk25 ty_sl25 ty_zero5 rfl rfl rfl (by simp only [List.length_append, ethB_len, ipB_len, tcpB_len, icB_len]; omega) (by simp only [List.length_append, ethB_len, ipB_len, tcpB_len, icB_len]; omega) rfl rfl rfl ?_
    intro v XI w ho st
    -- R10.6 4 := frame.go:191 assign
    refine WL.v (by first | exact r_assign (v := .slice _ _ _) rfl | exact r_assign rfl) rfl rfl rfl ?_
    refine WL.fin hK729 (fun _ _ h => h) ?_
    refine WC.ret1 Tryd.results34 (fun _ _ h => h) rfl ?_
    exact ⟨_, rfl, XI, BO.cast ho (by simp only [frB, if_pos k0, if_neg (show ¬ f.k = 2 by omega), if_neg (show ¬ f.k = 3 by omega), List.append_assoc, List.nil_append]), st⟩
  by_cases k2 : f.k = 2
  · skip
    refine enter [v, .pointer (some ⟨b, o, none⟩)] Tryd.func34 rfl Tryd.ntmps34 rfl ?_
    show WC _ _ _ 50 [] [(0, v), (1, .pointer (some ⟨b, o, none⟩))] _
    refine WC.seq fun K730 hK730 => ?_
    -- region 0
    refine WC.region ?_
    -- R0.0 4 := frame.go:179 assign
    refine WL.v (by first | exact r_assign (v := .slice _ _ _) rfl | exact r_assign rfl) rfl rfl rfl ?_
    refine WL.fin hK730 (fun _ _ h => h) ?_
    refine WC.seq fun K731 hK731 => ?_
    -- region 1
    refine WC.region ?_
    -- R1.0 5 := frame.go:180 move
    refine WL.v (by first | exact r_move (v := .slice _ _ _) rfl | exact r_move rfl) rfl rfl rfl ?_
    -- R1.1 6 := frame.go:180 move
    refine WL.v (by first | exact r_move (v := .pointer _) rfl | exact r_move rfl) rfl rfl rfl ?_
    -- R1.2 7 := frame.go:180 nilCheck
    refine WL.v (by exact r_nilCheck rfl) rfl rfl rfl ?_
    -- R1.3 8 := frame.go:180 fieldAddr
    refine WL.v (by exact r_field ty_fld43_1 rfl) rfl rfl rfl ?_
    -- R1.4 9 := frame.go:180 call
    refine WL.call (r_call ty_call53 rfl) rfl rfl rfl (apEth_ok b (o + 1) f.e hf.eb hf.e12 ho (by omega) (fun its w' q => (hr its w' q).eth) st) ?_
    rintro v w ⟨XI, ho, st⟩
    -- R1.5 0 := frame.go:180 assign
    refine WL.v (by first | exact r_assign (v := .slice _ _ _) rfl | exact r_assign rfl) rfl rfl rfl ?_
    refine WL.fin hK731 (fun _ _ h => h) ?_
    refine WC.seq fun K732 hK732 => ?_
    refine WC.seq fun K733 hK733 => ?_
    -- region 2
    refine WC.region ?_
    -- R2.0 10 := frame.go:181 move
    refine WL.v (by first | exact r_move (v := .pointer _) rfl | exact r_move rfl) rfl rfl rfl ?_
    -- R2.1 11 := frame.go:181 nilCheck
    refine WL.v (by exact r_nilCheck rfl) rfl rfl rfl ?_
    -- R2.2 12 := frame.go:181 fieldAddr
    refine WL.v (by exact r_field ty_fld43_0 rfl) rfl rfl rfl ?_
    -- R2.3 13 := frame.go:181 load
    refine WL.v (by first | exact r_load1 ty_one27 rfl (hrc [] _ st 0 (by decide)) | exact r_load1 ty_one27 rfl (hrc _ _ st 0 (by decide)) | exact r_load1 ty_one27 rfl (hrc [_] _ st 0 (by decide)) | exact r_load1 ty_one27 rfl (hrc [_, _] _ st 0 (by decide)) | exact r_load1 ty_one27 rfl (hrc [_, _, _] _ st 0 (by decide))) rfl rfl rfl ?_
    -- R2.4 14 := frame.go:181 binOp
    refine WL.v (by first | exact r_neq rfl rfl (decide_eq_true (by omega)) | exact r_neq rfl rfl (decide_eq_false (by omega)) | exact r_neq rfl rfl rfl) rfl rfl rfl ?_
    refine WL.fin hK733 (fun _ _ h => h) ?_
    refine WC.condT rfl rfl ?_
    -- region 3
    refine WC.region ?_
    -- R3.0 15 := frame.go:182 move
    refine WL.v (by first | exact r_move (v := .slice _ _ _) rfl | exact r_move rfl) rfl rfl rfl ?_
    -- R3.1 16 := frame.go:182 move
    refine WL.v (by first | exact r_move (v := .pointer _) rfl | exact r_move rfl) rfl rfl rfl ?_
    -- R3.2 17 := frame.go:182 nilCheck
    refine WL.v (by exact r_nilCheck rfl) rfl rfl rfl ?_
    -- R3.3 18 := frame.go:182 fieldAddr
    refine WL.v (by exact r_field ty_fld43_2 rfl) rfl rfl rfl ?_
    -- R3.4 19 := frame.go:182 call
    refine WL.call (r_call ty_call54 rfl) rfl rfl rfl (apIp_ok b (o + 14) f.x f.s1 hf.xr hf.o1 (hip k0) ho (by simp only [List.length_append, ethB_len]; omega) (fun its w' q => (hr its w' q).ip) (fun its w' q => (hr its w' q).rd.d1) st) ?_
    rintro v w ⟨XI, ho, st⟩
    -- R3.5 0 := frame.go:182 assign
    refine WL.v (by first | exact r_assign (v := .slice _ _ _) rfl | exact r_assign rfl) rfl rfl rfl ?_
    refine WL.fin hK732 (fun _ _ h => h) ?_
    refine WC.seq fun K734 hK734 => ?_
    refine WC.seq fun K735 hK735 => ?_
    -- region 4
    refine WC.region ?_
    -- R4.0 20 := frame.go:184 move
    refine WL.v (by first | exact r_move (v := .pointer _) rfl | exact r_move rfl) rfl rfl rfl ?_
    -- R4.1 21 := frame.go:184 nilCheck
    refine WL.v (by exact r_nilCheck rfl) rfl rfl rfl ?_
    -- R4.2 22 := frame.go:184 fieldAddr
    refine WL.v (by exact r_field ty_fld43_0 rfl) rfl rfl rfl ?_
    -- R4.3 23 := frame.go:184 load
    refine WL.v (by first | exact r_load1 ty_one27 rfl (hrc [] _ st 0 (by decide)) | exact r_load1 ty_one27 rfl (hrc _ _ st 0 (by decide)) | exact r_load1 ty_one27 rfl (hrc [_] _ st 0 (by decide)) | exact r_load1 ty_one27 rfl (hrc [_, _] _ st 0 (by decide)) | exact r_load1 ty_one27 rfl (hrc [_, _, _] _ st 0 (by decide))) rfl rfl rfl ?_
    refine WL.fin hK735 (fun _ _ h => h) ?_
    refine WC.block ?_
    refine WC.seq fun K736 hK736 => ?_
    -- region 5
    refine WC.region ?_
    -- R5.0 25 := frame.go:185 binOp
    refine WL.v (by first | exact r_eql rfl rfl (decide_eq_true (by omega)) | exact r_eql rfl rfl (decide_eq_false (by omega)) | exact r_eql rfl rfl rfl) rfl rfl rfl ?_
    -- R5.1 24 := frame.go:185 assign
    refine WL.v (by first | exact r_assign (v := .bool _) rfl | exact r_assign rfl) rfl rfl rfl ?_
    refine WL.fin hK736 (fun _ _ h => h) ?_
    refine WC.condT rfl rfl ?_
    -- region 6
    refine WC.region ?_
    -- R6.0 26 := frame.go:186 move
    refine WL.v (by first | exact r_move (v := .slice _ _ _) rfl | exact r_move rfl) rfl rfl rfl ?_
    -- R6.1 27 := frame.go:186 move
    refine WL.v (by first | exact r_move (v := .pointer _) rfl | exact r_move rfl) rfl rfl rfl ?_
    -- R6.2 28 := frame.go:186 nilCheck
    refine WL.v (by exact r_nilCheck rfl) rfl rfl rfl ?_
    -- R6.3 29 := frame.go:186 fieldAddr
    refine WL.v (by exact r_field ty_fld43_3 rfl) rfl rfl rfl ?_
    -- R6.4 30 := frame.go:186 call
    refine WL.call (r_call ty_call55 rfl) rfl rfl rfl (apTcp_ok b (o + 31) f.t f.s2 hf.tr hf.o2 (htcp k2) ho (by simp only [List.length_append, ethB_len, ipB_len]; omega) (fun its w' q => (hr its w' q).tcp) (fun its w' q => (hr its w' q).rd.d2) st) ?_
    rintro v w ⟨XI, ho, st⟩
    -- R6.5 0 := frame.go:186 assign
    refine WL.v (by first | exact r_assign (v := .slice _ _ _) rfl | exact r_assign rfl) rfl rfl rfl ?_
    refine WL.fin hK734 (fun _ _ h => h) ?_
    refine WC.seq fun K737 hK737 => ?_
    -- region 9
    refine WC.region ?_
    -- R9.0 38 := frame.go:190 move
    refine WL.v (by first | exact r_move (v := .slice _ _ _) rfl | exact r_move rfl) rfl rfl rfl ?_
    -- R9.1 39 := frame.go:190 move
    refine WL.v (by first | exact r_move (v := .pointer _) rfl | exact r_move rfl) rfl rfl rfl ?_
    -- R9.2 40 := frame.go:190 nilCheck
    refine WL.v (by exact r_nilCheck rfl) rfl rfl rfl ?_
    -- R9.3 41 := frame.go:190 fieldAddr
    refine WL.v (by exact r_field ty_fld43_5 rfl) rfl rfl rfl ?_
    -- R9.4 42 := frame.go:190 load
    refine WL.v (by first | exact r_load1 ty_one25 rfl (hrc [] _ st 62 (by decide)) | exact r_load1 ty_one25 rfl (hrc _ _ st 62 (by decide)) | exact r_load1 ty_one25 rfl (hrc [_] _ st 62 (by decide)) | exact r_load1 ty_one25 rfl (hrc [_, _] _ st 62 (by decide)) | exact r_load1 ty_one25 rfl (hrc [_, _, _] _ st 62 (by decide))) rfl rfl rfl ?_
    -- R9.5 43 := frame.go:190 call
    refine WL.appB (s := f.s4) ho hf.o4 (hr XI w st).rd.d4 st ty_mk25 ty_sl25 ty_zero5 rfl rfl rfl (by simp only [List.length_append, ethB_len, ipB_len, tcpB_len, icB_len]; omega) (by simp only [List.length_append, ethB_len, ipB_len, tcpB_len, icB_len]; omega) rfl rfl rfl ?_
    intro v XI w ho st
    -- R9.6 0 := frame.go:190 assign
    refine WL.v (by first | exact r_assign (v := .slice _ _ _) rfl | exact r_assign rfl) rfl rfl rfl ?_
    refine WL.fin hK737 (fun _ _ h => h) ?_
    refine WC.seq fun K738 hK738 => ?_
    -- region 10
    refine WC.region ?_
    -- R10.0 44 := frame.go:191 move
    refine WL.v (by first | exact r_move (v := .slice _ _ _) rfl | exact r_move rfl) rfl rfl rfl ?_
    -- R10.1 45 := frame.go:191 move
    refine WL.v (by first | exact r_move (v := .pointer _) rfl | exact r_move rfl) rfl rfl rfl ?_
    -- R10.2 46 := frame.go:191 nilCheck
    refine WL.v (by exact r_nilCheck rfl) rfl rfl rfl ?_
    -- R10.3 47 := frame.go:191 fieldAddr
    refine WL.v (by exact r_field ty_fld43_6 rfl) rfl rfl rfl ?_
    -- R10.4 48 := frame.go:191 load
    refine WL.v (by first | exact r_load1 ty_one25 rfl (hrc [] _ st 63 (by decide)) | exact r_load1 ty_one25 rfl (hrc _ _ st 63 (by decide)) | exact r_load1 ty_one25 rfl (hrc [_] _ st 63 (by decide)) | exact r_load1 ty_one25 rfl (hrc [_, _] _ st 63 (by decide)) | exact r_load1 ty_one25 rfl (hrc [_, _, _] _ st 63 (by decide))) rfl rfl rfl ?_
    -- R10.5 49 := frame.go:191 call
    refine WL.appB (s := f.s5) ho hf.o5 (hr XI w st).rd.d5 st ty_mk25 ty_sl25 ty_zero5 rfl rfl rfl (by simp only [List.length_append, ethB_len, ipB_len, tcpB_len, icB_len]; omega) (by simp only [List.length_append, ethB_len, ipB_len, tcpB_len, icB_len]; omega) rfl rfl rfl ?_
    intro v XI w ho st
    -- R10.6 4 := frame.go:191 assign
    refine WL.v (by first | exact r_assign (v := .slice _ _ _) rfl | exact r_assign rfl) rfl rfl rfl ?_
    refine WL.fin hK738 (fun _ _ h => h) ?_
    refine WC.ret1 Tryd.results34 (fun _ _ h => h) rfl ?_
    exact ⟨_, rfl, XI, BO.cast ho (by simp only [frB, if_neg k0, if_pos k2, List.append_assoc]), st⟩
  by_cases k3 : f.k = 3
  · skip
    refine enter [v, .pointer (some ⟨b, o, none⟩)] Tryd.func34 rfl Tryd.ntmps34 rfl ?_
    show WC _ _ _ 50 [] [(0, v), (1, .pointer (some ⟨b, o, none⟩))] _
    refine WC.seq fun K739 hK739 => ?_
    -- region 0
    refine WC.region ?_
    -- R0.0 4 := frame.go:179 assign
    refine WL.v (by first | exact r_assign (v := .slice _ _ _) rfl | exact r_assign rfl) rfl rfl rfl ?_
    refine WL.fin hK739 (fun _ _ h => h) ?_
    refine WC.seq fun K740 hK740 => ?_
    -- region 1
    refine WC.region ?_
    -- R1.0 5 := frame.go:180 move
    refine WL.v (by first | exact r_move (v := .slice _ _ _) rfl | exact r_move rfl) rfl rfl rfl ?_
    -- R1.1 6 := frame.go:180 move
    refine WL.v (by first | exact r_move (v := .pointer _) rfl | exact r_move rfl) rfl rfl rfl ?_
    -- R1.2 7 := frame.go:180 nilCheck
    refine WL.v (by exact r_nilCheck rfl) rfl rfl rfl ?_
    -- R1.3 8 := frame.go:180 fieldAddr
    refine WL.v (by exact r_field ty_fld43_1 rfl) rfl rfl rfl ?_
    -- R1.4 9 := frame.go:180 call
    refine WL.call (r_call ty_call53 rfl) rfl rfl rfl (apEth_ok b (o + 1) f.e hf.eb hf.e12 ho (by omega) (fun its w' q => (hr its w' q).eth) st) ?_
    rintro v w ⟨XI, ho, st⟩
    -- R1.5 0 := frame.go:180 assign
    refine WL.v (by first | exact r_assign (v := .slice _ _ _) rfl | exact r_assign rfl) rfl rfl rfl ?_
    refine WL.fin hK740 (fun _ _ h => h) ?_
    refine WC.seq fun K741 hK741 => ?_
    refine WC.seq fun K742 hK742 => ?_
    -- region 2
    refine WC.region ?_
    -- R2.0 10 := frame.go:181 move
    refine WL.v (by first | exact r_move (v := .pointer _) rfl | exact r_move rfl) rfl rfl rfl ?_
    -- R2.1 11 := frame.go:181 nilCheck
    refine WL.v (by exact r_nilCheck rfl) rfl rfl rfl ?_
    -- R2.2 12 := frame.go:181 fieldAddr
    refine WL.v (by exact r_field ty_fld43_0 rfl) rfl rfl rfl ?_
    -- R2.3 13 := frame.go:181 load
    refine WL.v (by first | exact r_load1 ty_one27 rfl (hrc [] _ st 0 (by decide)) | exact r_load1 ty_one27 rfl (hrc _ _ st 0 (by decide)) | exact r_load1 ty_one27 rfl (hrc [_] _ st 0 (by decide)) | exact r_load1 ty_one27 rfl (hrc [_, _] _ st 0 (by decide)) | exact r_load1 ty_one27 rfl (hrc [_, _, _] _ st 0 (by decide))) rfl rfl rfl ?_
    -- R2.4 14 := frame.go:181 binOp
    refine WL.v (by first | exact r_neq rfl rfl (decide_eq_true (by omega)) | exact r_neq rfl rfl (decide_eq_false (by omega)) | exact r_neq rfl rfl rfl) rfl rfl rfl ?_
    refine WL.fin hK742 (fun _ _ h => h) ?_
    refine WC.condT rfl rfl ?_
    -- region 3
    refine WC.region ?_
    -- R3.0 15 := frame.go:182 move
    refine WL.v (by first | exact r_move (v := .slice _ _ _) rfl | exact r_move rfl) rfl rfl rfl ?_
    -- R3.1 16 := frame.go:182 move
    refine WL.v (by first | exact r_move (v := .pointer _) rfl | exact r_move rfl) rfl rfl rfl ?_
    -- R3.2 17 := frame.go:182 nilCheck
    refine WL.v (by exact r_nilCheck rfl) rfl rfl rfl ?_
    -- R3.3 18 := frame.go:182 fieldAddr
    refine WL.v (by exact r_field ty_fld43_2 rfl) rfl rfl rfl ?_
    -- R3.4 19 := frame.go:182 call
    refine WL.call (r_call ty_call54 rfl) rfl rfl rfl (apIp_ok b (o + 14) f.x f.s1 hf.xr hf.o1 (hip k0) ho (by simp only [List.length_append, ethB_len]; omega) (fun its w' q => (hr its w' q).ip) (fun its w' q => (hr its w' q).rd.d1) st) ?_
    rintro v w ⟨XI, ho, st⟩
    -- R3.5 0 := frame.go:182 assign
    refine WL.v (by first | exact r_assign (v := .slice _ _ _) rfl | exact r_assign rfl) rfl rfl rfl ?_
    refine WL.fin hK741 (fun _ _ h => h) ?_
    refine WC.seq fun K743 hK743 => ?_
    refine WC.seq fun K744 hK744 => ?_
    -- region 4
    refine WC.region ?_
    -- R4.0 20 := frame.go:184 move
    refine WL.v (by first | exact r_move (v := .pointer _) rfl | exact r_move rfl) rfl rfl rfl ?_
    -- R4.1 21 := frame.go:184 nilCheck
    refine WL.v (by exact r_nilCheck rfl) rfl rfl rfl ?_
    -- R4.2 22 := frame.go:184 fieldAddr
    refine WL.v (by exact r_field ty_fld43_0 rfl) rfl rfl rfl ?_
    -- R4.3 23 := frame.go:184 load
    refine WL.v (by first | exact r_load1 ty_one27 rfl (hrc [] _ st 0 (by decide)) | exact r_load1 ty_one27 rfl (hrc _ _ st 0 (by decide)) | exact r_load1 ty_one27 rfl (hrc [_] _ st 0 (by decide)) | exact r_load1 ty_one27 rfl (hrc [_, _] _ st 0 (by decide)) | exact r_load1 ty_one27 rfl (hrc [_, _, _] _ st 0 (by decide))) rfl rfl rfl ?_
    refine WL.fin hK744 (fun _ _ h => h) ?_
    refine WC.block ?_
    refine WC.seq fun K745 hK745 => ?_
    -- region 5
    refine WC.region ?_
    -- R5.0 25 := frame.go:185 binOp
    refine WL.v (by first | exact r_eql rfl rfl (decide_eq_true (by omega)) | exact r_eql rfl rfl (decide_eq_false (by omega)) | exact r_eql rfl rfl rfl) rfl rfl rfl ?_
    -- R5.1 24 := frame.go:185 assign
    refine WL.v (by first | exact r_assign (v := .bool _) rfl | exact r_assign rfl) rfl rfl rfl ?_
    refine WL.fin hK745 (fun _ _ h => h) ?_
    refine WC.condF rfl rfl ?_
    refine WC.seq fun K746 hK746 => ?_
    -- region 7
    refine WC.region ?_
    -- R7.0 32 := frame.go:187 binOp
    refine WL.v (by first | exact r_eql rfl rfl (decide_eq_true (by omega)) | exact r_eql rfl rfl (decide_eq_false (by omega)) | exact r_eql rfl rfl rfl) rfl rfl rfl ?_
    -- R7.1 31 := frame.go:187 assign
    refine WL.v (by first | exact r_assign (v := .bool _) rfl | exact r_assign rfl) rfl rfl rfl ?_
    refine WL.fin hK746 (fun _ _ h => h) ?_
    refine WC.condT rfl rfl ?_
    -- region 8
    refine WC.region ?_
    -- R8.0 33 := frame.go:188 move
    refine WL.v (by first | exact r_move (v := .slice _ _ _) rfl | exact r_move rfl) rfl rfl rfl ?_
    -- R8.1 34 := frame.go:188 move
    refine WL.v (by first | exact r_move (v := .pointer _) rfl | exact r_move rfl) rfl rfl rfl ?_
    -- R8.2 35 := frame.go:188 nilCheck
    refine WL.v (by exact r_nilCheck rfl) rfl rfl rfl ?_
    -- R8.3 36 := frame.go:188 fieldAddr
    refine WL.v (by exact r_field ty_fld43_4 rfl) rfl rfl rfl ?_
    -- R8.4 37 := frame.go:188 call
    refine WL.call (r_call ty_call56 rfl) rfl rfl rfl (apIc_ok b (o + 41) f.y f.z f.s3 hf.yr hf.zr hf.o3 (hic k3) ho (by simp only [List.length_append, ethB_len, ipB_len]; omega) (fun its w' q => (hr its w' q).ic) (fun its w' q => (hr its w' q).rd.d3) st) ?_
    rintro v w ⟨XI, ho, st⟩
    -- R8.5 0 := frame.go:188 assign
    refine WL.v (by first | exact r_assign (v := .slice _ _ _) rfl | exact r_assign rfl) rfl rfl rfl ?_
    refine WL.fin hK743 (fun _ _ h => h) ?_
    refine WC.seq fun K747 hK747 => ?_
    -- region 9
    refine WC.region ?_
    -- R9.0 38 := frame.go:190 move
    refine WL.v (by first | exact r_move (v := .slice _ _ _) rfl | exact r_move rfl) rfl rfl rfl ?_
    -- R9.1 39 := frame.go:190 move
    refine WL.v (by first | exact r_move (v := .pointer _) rfl | exact r_move rfl) rfl rfl rfl ?_
    -- R9.2 40 := frame.go:190 nilCheck
    refine WL.v (by exact r_nilCheck rfl) rfl rfl rfl ?_
    -- R9.3 41 := frame.go:190 fieldAddr
    refine WL.v (by exact r_field ty_fld43_5 rfl) rfl rfl rfl ?_
    -- R9.4 42 := frame.go:190 load
    refine WL.v (by first | exact r_load1 ty_one25 rfl (hrc [] _ st 62 (by decide)) | exact r_load1 ty_one25 rfl (hrc _ _ st 62 (by decide)) | exact r_load1 ty_one25 rfl (hrc [_] _ st 62 (by decide)) | exact r_load1 ty_one25 rfl (hrc [_, _] _ st 62 (by decide)) | exact r_load1 ty_one25 rfl (hrc [_, _, _] _ st 62 (by decide))) rfl rfl rfl ?_
    -- R9.5 43 := frame.go:190 call
    refine WL.appB (s := f.s4) ho hf.o4 (hr XI w st).rd.d4 st ty_mk25 ty_sl25 ty_zero5 rfl rfl rfl (by simp only [List.length_append, ethB_len, ipB_len, tcpB_len, icB_len]; omega) (by simp only [List.length_append, ethB_len, ipB_len, tcpB_len, icB_len]; omega) rfl rfl rfl ?_
    intro v XI w ho st
    -- R9.6 0 := frame.go:190 assign
    refine WL.v (by first | exact r_assign (v := .slice _ _ _) rfl | exact r_assign rfl) rfl rfl rfl ?_
    refine WL.fin hK747 (fun _ _ h => h) ?_
    refine WC.seq fun K748 hK748 => ?_
    -- region 10
    refine WC.region ?_
    -- R10.0 44 := frame.go:191 move
    refine WL.v (by first | exact r_move (v := .slice _ _ _) rfl | exact r_move rfl) rfl rfl rfl ?_
    -- R10.1 45 := frame.go:191 move
    refine WL.v (by first | exact r_move (v := .pointer _) rfl | exact r_move rfl) rfl rfl rfl ?_
    -- R10.2 46 := frame.go:191 nilCheck
    refine WL.v (by exact r_nilCheck rfl) rfl rfl rfl ?_
    -- R10.3 47 := frame.go:191 fieldAddr
    refine WL.v (by exact r_field ty_fld43_6 rfl) rfl rfl rfl ?_
    -- R10.4 48 := frame.go:191 load
    refine WL.v (by first | exact r_load1 ty_one25 rfl (hrc [] _ st 63 (by decide)) | exact r_load1 ty_one25 rfl (hrc _ _ st 63 (by decide)) | exact r_load1 ty_one25 rfl (hrc [_] _ st 63 (by decide)) | exact r_load1 ty_one25 rfl (hrc [_, _] _ st 63 (by decide)) | exact r_load1 ty_one25 rfl (hrc [_, _, _] _ st 63 (by decide))) rfl rfl rfl ?_
    -- R10.5 49 := frame.go:191 call
    refine WL.appB (s := f.s5) ho hf.o5 (hr XI w st).rd.d5 st ty_mk25 ty_sl25 ty_zero5 rfl rfl rfl (by simp only [List.length_append, ethB_len, ipB_len, tcpB_len, icB_len]; omega) (by simp only [List.length_append, ethB_len, ipB_len, tcpB_len, icB_len]; omega) rfl rfl rfl ?_
    intro v XI w ho st
    -- R10.6 4 := frame.go:191 assign
    refine WL.v (by first | exact r_assign (v := .slice _ _ _) rfl | exact r_assign rfl) rfl rfl rfl ?_
    refine WL.fin hK748 (fun _ _ h => h) ?_
    refine WC.ret1 Tryd.results34 (fun _ _ h => h) rfl ?_
    exact ⟨_, rfl, XI, BO.cast ho (by simp only [frB, if_neg k0, if_neg k2, if_pos k3, List.append_assoc]), st⟩
  refine enter [v, .pointer (some ⟨b, o, none⟩)] Tryd.func34 rfl Tryd.ntmps34 rfl ?_
  show WC _ _ _ 50 [] [(0, v), (1, .pointer (some ⟨b, o, none⟩))] _
  refine WC.seq fun K749 hK749 => ?_
  -- region 0
  refine WC.region ?_
  -- R0.0 4 := frame.go:179 assign
  refine WL.v (by first | exact r_assign (v := .slice _ _ _) rfl | exact r_assign rfl) rfl rfl rfl ?_
  refine WL.fin hK749 (fun _ _ h => h) ?_
  refine WC.seq fun K750 hK750 => ?_
  -- region 1
  refine WC.region ?_
  -- R1.0 5 := frame.go:180 move
  refine WL.v (by first | exact r_move (v := .slice _ _ _) rfl | exact r_move rfl) rfl rfl rfl ?_
  -- R1.1 6 := frame.go:180 move
  refine WL.v (by first | exact r_move (v := .pointer _) rfl | exact r_move rfl) rfl rfl rfl ?_
  -- R1.2 7 := frame.go:180 nilCheck
  refine WL.v (by exact r_nilCheck rfl) rfl rfl rfl ?_
  -- R1.3 8 := frame.go:180 fieldAddr
  refine WL.v (by exact r_field ty_fld43_1 rfl) rfl rfl rfl ?_
  -- R1.4 9 := frame.go:180 call
  refine WL.call (r_call ty_call53 rfl) rfl rfl rfl (apEth_ok b (o + 1) f.e hf.eb hf.e12 ho (by omega) (fun its w' q => (hr its w' q).eth) st) ?_
  rintro v w ⟨XI, ho, st⟩
  -- R1.5 0 := frame.go:180 assign
  refine WL.v (by first | exact r_assign (v := .slice _ _ _) rfl | exact r_assign rfl) rfl rfl rfl ?_
  refine WL.fin hK750 (fun _ _ h => h) ?_
  refine WC.seq fun K751 hK751 => ?_
  refine WC.seq fun K752 hK752 => ?_
  -- region 2
  refine WC.region ?_
  -- R2.0 10 := frame.go:181 move
  refine WL.v (by first | exact r_move (v := .pointer _) rfl | exact r_move rfl) rfl rfl rfl ?_
  -- R2.1 11 := frame.go:181 nilCheck
  refine WL.v (by exact r_nilCheck rfl) rfl rfl rfl ?_
  -- R2.2 12 := frame.go:181 fieldAddr
  refine WL.v (by exact r_field ty_fld43_0 rfl) rfl rfl rfl ?_
  -- R2.3 13 := frame.go:181 load
  refine WL.v (by first | exact r_load1 ty_one27 rfl (hrc [] _ st 0 (by decide)) | exact r_load1 ty_one27 rfl (hrc _ _ st 0 (by decide)) | exact r_load1 ty_one27 rfl (hrc [_] _ st 0 (by decide)) | exact r_load1 ty_one27 rfl (hrc [_, _] _ st 0 (by decide)) | exact r_load1 ty_one27 rfl (hrc [_, _, _] _ st 0 (by decide))) rfl rfl rfl ?_
  -- R2.4 14 := frame.go:181 binOp
  refine WL.v (by first | exact r_neq rfl rfl (decide_eq_true (by omega)) | exact r_neq rfl rfl (decide_eq_false (by omega)) | exact r_neq rfl rfl rfl) rfl rfl rfl ?_
  refine WL.fin hK752 (fun _ _ h => h) ?_
  refine WC.condT rfl rfl ?_
  -- region 3
  refine WC.region ?_
  -- R3.0 15 := frame.go:182 move
  refine WL.v (by first | exact r_move (v := .slice _ _ _) rfl | exact r_move rfl) rfl rfl rfl ?_
  -- R3.1 16 := frame.go:182 move
  refine WL.v (by first | exact r_move (v := .pointer _) rfl | exact r_move rfl) rfl rfl rfl ?_
  -- R3.2 17 := frame.go:182 nilCheck
  refine WL.v (by exact r_nilCheck rfl) rfl rfl rfl ?_
  -- R3.3 18 := frame.go:182 fieldAddr
  refine WL.v (by exact r_field ty_fld43_2 rfl) rfl rfl rfl ?_
  -- R3.4 19 := frame.go:182 call
  refine WL.call (r_call ty_call54 rfl) rfl rfl rfl (apIp_ok b (o + 14) f.x f.s1 hf.xr hf.o1 (hip k0) ho (by simp only [List.length_append, ethB_len]; omega) (fun its w' q => (hr its w' q).ip) (fun its w' q => (hr its w' q).rd.d1) st) ?_
  rintro v w ⟨XI, ho, st⟩
  -- R3.5 0 := frame.go:182 assign
  refine WL.v (by first | exact r_assign (v := .slice _ _ _) rfl | exact r_assign rfl) rfl rfl rfl ?_
  refine WL.fin hK751 (fun _ _ h => h) ?_
  refine WC.seq fun K753 hK753 => ?_
  refine WC.seq fun K754 hK754 => ?_
  -- region 4
  refine WC.region ?_
  -- R4.0 20 := frame.go:184 move
  refine WL.v (by first | exact r_move (v := .pointer _) rfl | exact r_move rfl) rfl rfl rfl ?_
  -- R4.1 21 := frame.go:184 nilCheck
  refine WL.v (by exact r_nilCheck rfl) rfl rfl rfl ?_
  -- R4.2 22 := frame.go:184 fieldAddr
  refine WL.v (by exact r_field ty_fld43_0 rfl) rfl rfl rfl ?_
  -- R4.3 23 := frame.go:184 load
  refine WL.v (by first | exact r_load1 ty_one27 rfl (hrc [] _ st 0 (by decide)) | exact r_load1 ty_one27 rfl (hrc _ _ st 0 (by decide)) | exact r_load1 ty_one27 rfl (hrc [_] _ st 0 (by decide)) | exact r_load1 ty_one27 rfl (hrc [_, _] _ st 0 (by decide)) | exact r_load1 ty_one27 rfl (hrc [_, _, _] _ st 0 (by decide))) rfl rfl rfl ?_
  refine WL.fin hK754 (fun _ _ h => h) ?_
  refine WC.block ?_
  refine WC.seq fun K755 hK755 => ?_
  -- region 5
  refine WC.region ?_
  -- R5.0 25 := frame.go:185 binOp
  refine WL.v (by first | exact r_eql rfl rfl (decide_eq_true (by omega)) | exact r_eql rfl rfl (decide_eq_false (by omega)) | exact r_eql rfl rfl rfl) rfl rfl rfl ?_
  -- R5.1 24 := frame.go:185 assign
  refine WL.v (by first | exact r_assign (v := .bool _) rfl | exact r_assign rfl) rfl rfl rfl ?_
  refine WL.fin hK755 (fun _ _ h => h) ?_
  refine WC.condF rfl rfl ?_
  refine WC.seq fun K756 hK756 => ?_
  -- region 7
  refine WC.region ?_
  -- R7.0 32 := frame.go:187 binOp
  refine WL.v (by first | exact r_eql rfl rfl (decide_eq_true (by omega)) | exact r_eql rfl rfl (decide_eq_false (by omega)) | exact r_eql rfl rfl rfl) rfl rfl rfl ?_
  -- R7.1 31 := frame.go:187 assign
  refine WL.v (by first | exact r_assign (v := .bool _) rfl | exact r_assign rfl) rfl rfl rfl ?_
  refine WL.fin hK756 (fun _ _ h => h) ?_
  refine WC.condF rfl rfl ?_
  refine WC.skipF hK753 (fun _ _ h => h) ?_
  refine WC.seq fun K757 hK757 => ?_
  -- region 9
  refine WC.region ?_
  -- R9.0 38 := frame.go:190 move
  refine WL.v (by first | exact r_move (v := .slice _ _ _) rfl | exact r_move rfl) rfl rfl rfl ?_
  -- R9.1 39 := frame.go:190 move
  refine WL.v (by first | exact r_move (v := .pointer _) rfl | exact r_move rfl) rfl rfl rfl ?_
  -- R9.2 40 := frame.go:190 nilCheck
  refine WL.v (by exact r_nilCheck rfl) rfl rfl rfl ?_
  -- R9.3 41 := frame.go:190 fieldAddr
  refine WL.v (by exact r_field ty_fld43_5 rfl) rfl rfl rfl ?_
  -- R9.4 42 := frame.go:190 load
  refine WL.v (by first | exact r_load1 ty_one25 rfl (hrc [] _ st 62 (by decide)) | exact r_load1 ty_one25 rfl (hrc _ _ st 62 (by decide)) | exact r_load1 ty_one25 rfl (hrc [_] _ st 62 (by decide)) | exact r_load1 ty_one25 rfl (hrc [_, _] _ st 62 (by decide)) | exact r_load1 ty_one25 rfl (hrc [_, _, _] _ st 62 (by decide))) rfl rfl rfl ?_
  -- R9.5 43 := frame.go:190 call
  refine WL.appB (s := f.s4) ho hf.o4 (hr XI w st).rd.d4 st ty_mk25 ty_sl25 ty_zero5 rfl rfl rfl (by simp only [List.length_append, ethB_len, ipB_len, tcpB_len, icB_len]; omega) (by simp only [List.length_append, ethB_len, ipB_len, tcpB_len, icB_len]; omega) rfl rfl rfl ?_
  intro v XI w ho st
  -- R9.6 0 := frame.go:190 assign
  refine WL.v (by first | exact r_assign (v := .slice _ _ _) rfl | exact r_assign rfl) rfl rfl rfl ?_
  refine WL.fin hK757 (fun _ _ h => h) ?_
  refine WC.seq fun K758 hK758 => ?_
  -- region 10
  refine WC.region ?_
  -- R10.0 44 := frame.go:191 move
  refine WL.v (by first | exact r_move (v := .slice _ _ _) rfl | exact r_move rfl) rfl rfl rfl ?_
  -- R10.1 45 := frame.go:191 move
  refine WL.v (by first | exact r_move (v := .pointer _) rfl | exact r_move rfl) rfl rfl rfl ?_
  -- R10.2 46 := frame.go:191 nilCheck
  refine WL.v (by exact r_nilCheck rfl) rfl rfl rfl ?_
  -- R10.3 47 := frame.go:191 fieldAddr
  refine WL.v (by exact r_field ty_fld43_6 rfl) rfl rfl rfl ?_
  -- R10.4 48 := frame.go:191 load
  refine WL.v (by first | exact r_load1 ty_one25 rfl (hrc [] _ st 63 (by decide)) | exact r_load1 ty_one25 rfl (hrc _ _ st 63 (by decide)) | exact r_load1 ty_one25 rfl (hrc [_] _ st 63 (by decide)) | exact r_load1 ty_one25 rfl (hrc [_, _] _ st 63 (by decide)) | exact r_load1 ty_one25 rfl (hrc [_, _, _] _ st 63 (by decide))) rfl rfl rfl ?_
  -- R10.5 49 := frame.go:191 call
  refine WL.appB (s := f.s5) ho hf.o5 (hr XI w st).rd.d5 st ty_mk25 ty_sl25 ty_zero5 rfl rfl rfl (by simp only [List.length_append, ethB_len, ipB_len, tcpB_len, icB_len]; omega) (by simp only [List.length_append, ethB_len, ipB_len, tcpB_len, icB_len]; omega) rfl rfl rfl ?_
  intro v XI w ho st
  -- R10.6 4 := frame.go:191 assign
  refine WL.v (by first | exact r_assign (v := .slice _ _ _) rfl | exact r_assign rfl) rfl rfl rfl ?_
  refine WL.fin hK758 (fun _ _ h => h) ?_
  refine WC.ret1 Tryd.results34 (fun _ _ h => h) rfl ?_
  exact ⟨_, rfl, XI, BO.cast ho (by simp only [frB, if_neg k0, if_neg k2, if_neg k3, List.append_assoc, List.nil_append]), st⟩

set_option maxHeartbeats 4000000 in
theorem ser_ok (hE : ErrOk w0 ET EU) (b o : Nat) (f : FD) (hf : f.ok) (hr : ∀ its w', S0 w0 (its ++ L) w' → FrAt w' b o f) (st : S0 w0 L w) :
    Calls Tryd.prog 11 #[.pointer (some ⟨b, o, none⟩)] w (Ret fun v w' => ∃ v' er XI, v = .tuple #[v', er] ∧ S0 w0 (XI ++ L) w' ∧ ((¬ checkP f ∧ (∃ T u, er = .iface T u) ∧ BO 5 v' [] XI) ∨ (checkP f ∧ er = .nilIface ∧ BO 5 v' (frB f) XI))) := by
  have l4 := hf.l4
  have l5 := hf.l5
  have h1 := hf.xr.r1
  have hfl : frLenN f ≤ 2000000000 := by unfold frLenN; split <;> omega
  refine enter [.pointer (some ⟨b, o, none⟩)] Tryd.func11 rfl Tryd.ntmps11 rfl ?_
  show WC _ _ _ 15 [] [(0, .pointer (some ⟨b, o, none⟩))] _
  refine WC.seq fun K759 hK759 => ?_
  -- region 0
  refine WC.region ?_
  -- R0.0 2 := frame.go:195 assign
  refine WL.v (by first | exact r_assign (v := .slice _ _ _) rfl | exact r_assign rfl) rfl rfl rfl ?_
  -- R0.1 3 := frame.go:195 assign
  refine WL.v (by first | exact r_assign (v := .nilIface) rfl | exact r_assign (v := .iface _ _) rfl | exact r_assign rfl) rfl rfl rfl ?_
  refine WL.fin hK759 (fun _ _ h => h) ?_
  refine WC.seq fun K760 hK760 => ?_
  refine WC.seq fun K761 hK761 => ?_
  -- region 1
  refine WC.region ?_
  -- R1.0 5 := frame.go:196 move
  refine WL.v (by first | exact r_move (v := .pointer _) rfl | exact r_move rfl) rfl rfl rfl ?_
  -- R1.1 6 := frame.go:196 call
  refine WL.call (r_call ty_call33 rfl) rfl rfl rfl (check_ok hE b o f hf hr st) ?_
  rintro ev w ⟨hev, st⟩
  -- R1.2 4 := frame.go:196 assign
  refine WL.v (by first | exact r_assign (v := .nilIface) rfl | exact r_assign (v := .iface _ _) rfl | exact r_assign rfl) rfl rfl rfl ?_
  refine WL.fin hK761 (fun _ _ h => h) ?_
  rcases hev with ⟨rfl, hP⟩ | ⟨⟨T, u, rfl⟩, hP⟩
  · skip
    refine WC.seq fun K762 hK762 => ?_
    -- region 2
    refine WC.region ?_
    -- R2.0 7 := frame.go:196 move
    refine WL.v (by first | exact r_move (v := .nilIface) rfl | exact r_move (v := .iface _ _) rfl | exact r_move rfl) rfl rfl rfl ?_
    -- R2.1 8 := frame.go:196 binOp
    refine WL.v (by first | exact r_nil_neq ty_ifc47 rfl | exact r_some_neq ty_ifc47 rfl) rfl rfl rfl ?_
    refine WL.fin hK762 (fun _ _ h => h) ?_
    refine WC.condF rfl rfl ?_
    refine WC.skipF hK760 (fun _ _ h => h) ?_
    refine WC.seq fun K763 hK763 => ?_
    -- region 4
    refine WC.region ?_
    -- R4.0 10 := frame.go:199 move
    refine WL.v (by first | exact r_move (v := .pointer _) rfl | exact r_move rfl) rfl rfl rfl ?_
    -- R4.1 11 := frame.go:199 call
    refine WL.call (r_call ty_call35 rfl) rfl rfl rfl (frLen_ok b o f hf hr st) ?_
    rintro _ w ⟨rfl, st⟩
    -- R4.2 12 := frame.go:199 makeSlice
    refine WL.make (len := 0) st ty_mk25 ty_zero5 rfl rfl (by first | rfl | omega) (by first | rfl | omega) (by omega) (by omega) (by omega) rfl rfl rfl rfl ?_
    intro b12 w st
    -- R4.3 13 := frame.go:199 move
    refine WL.v (by first | exact r_move (v := .pointer _) rfl | exact r_move rfl) rfl rfl rfl ?_
    -- R4.4 14 := frame.go:199 call
    refine WL.call (r_call ty_call34 rfl) rfl rfl rfl (apFr_ok (bs := []) (XI := [_]) b o f hf hP ⟨_, .inl (.inr ⟨b12, frLenN f, rfl, Nat.zero_le _, by omega, rfl⟩), fun i hi => absurd hi (Nat.not_lt_zero _), fun x hx => by simp at hx⟩ (by simp) hr st) ?_
    rintro v w ⟨XI, ho, st⟩
    -- R4.5 2 := frame.go:199 assign
    refine WL.v (by first | exact r_assign (v := .slice _ _ _) rfl | exact r_assign rfl) rfl rfl rfl ?_
    -- R4.6 3 := frame.go:199 assign
    refine WL.v (by first | exact r_assign (v := .nilIface) rfl | exact r_assign (v := .iface _ _) rfl | exact r_assign rfl) rfl rfl rfl ?_
    refine WL.fin hK763 (fun _ _ h => h) ?_
    refine WC.ret2 Tryd.results11 (fun _ _ h => h) rfl ?_
    exact ⟨_, rfl, v, .nilIface, XI, rfl, st, .inr ⟨hP, rfl, BO.cast ho (List.nil_append _)⟩⟩
  · skip
    refine WC.seq fun K764 hK764 => ?_
    -- region 2
    refine WC.region ?_
    -- R2.0 7 := frame.go:196 move
    refine WL.v (by first | exact r_move (v := .nilIface) rfl | exact r_move (v := .iface _ _) rfl | exact r_move rfl) rfl rfl rfl ?_
    -- R2.1 8 := frame.go:196 binOp
    refine WL.v (by first | exact r_nil_neq ty_ifc47 rfl | exact r_some_neq ty_ifc47 rfl) rfl rfl rfl ?_
    refine WL.fin hK764 (fun _ _ h => h) ?_
    refine WC.condT rfl rfl ?_
    refine WC.seq fun K765 hK765 => ?_
    -- region 3
    refine WC.region ?_
    -- R3.0 9 := frame.go:197 move
    refine WL.v (by first | exact r_move (v := .nilIface) rfl | exact r_move (v := .iface _ _) rfl | exact r_move rfl) rfl rfl rfl ?_
    -- R3.1 2 := frame.go:197 assign
    refine WL.v (by first | exact r_assign (v := .slice _ _ _) rfl | exact r_assign rfl) rfl rfl rfl ?_
    -- R3.2 3 := frame.go:197 assign
    refine WL.v (by first | exact r_assign (v := .nilIface) rfl | exact r_assign (v := .iface _ _) rfl | exact r_assign rfl) rfl rfl rfl ?_
    refine WL.fin hK765 (fun _ _ h => h) ?_
    refine WC.ret2 Tryd.results11 (fun _ _ h => h) rfl ?_
    exact ⟨_, rfl, _, _, [], rfl, st, .inl ⟨hP, ⟨T, u, rfl⟩, BO.nil _⟩⟩

set_option maxHeartbeats 4000000 in
theorem apFrame_ok (hE : ErrOk w0 ET EU) {v : Value} {bs : List Int} {XI : List HI} (b o : Nat) (f : FD) (hf : f.ok) (hP : checkP f) (ho : BO 5 v bs XI) (hb : bs.length ≤ 1000000000) (hr : ∀ its w', S0 w0 (its ++ L) w' → FrAt w' b o f) (st : S0 w0 (XI ++ L) w) :
    Calls Tryd.prog 13 #[v, .pointer (some ⟨b, o, none⟩)] w (Ret fun v w' => ∃ v' XI, v = .tuple #[v', .nilIface] ∧ BO 5 v' (bs ++ frB f) XI ∧ S0 w0 (XI ++ L) w') := by
  refine enter [v, .pointer (some ⟨b, o, none⟩)] Tryd.func13 rfl Tryd.ntmps13 rfl ?_
  show WC _ _ _ 16 [] [(0, v), (1, .pointer (some ⟨b, o, none⟩))] _
  refine WC.seq fun K766 hK766 => ?_
  -- region 0
  refine WC.region ?_
  -- R0.0 4 := frame.go:171 assign
  refine WL.v (by first | exact r_assign (v := .slice _ _ _) rfl | exact r_assign rfl) rfl rfl rfl ?_
  -- R0.1 5 := frame.go:171 assign
  refine WL.v (by first | exact r_assign (v := .nilIface) rfl | exact r_assign (v := .iface _ _) rfl | exact r_assign rfl) rfl rfl rfl ?_
  refine WL.fin hK766 (fun _ _ h => h) ?_
  refine WC.seq fun K767 hK767 => ?_
  refine WC.seq fun K768 hK768 => ?_
  -- region 1
  refine WC.region ?_
  -- R1.0 7 := frame.go:172 move
  refine WL.v (by first | exact r_move (v := .pointer _) rfl | exact r_move rfl) rfl rfl rfl ?_
  -- R1.1 8 := frame.go:172 call
  refine WL.call (r_call ty_call33 rfl) rfl rfl rfl (check_ok hE b o f hf (moreL hr XI) st) ?_
  rintro ev w ⟨hev, st⟩
  obtain rfl := hev.ok hP
  -- R1.2 6 := frame.go:172 assign
  refine WL.v (by first | exact r_assign (v := .nilIface) rfl | exact r_assign (v := .iface _ _) rfl | exact r_assign rfl) rfl rfl rfl ?_
  refine WL.fin hK768 (fun _ _ h => h) ?_
  refine WC.seq fun K769 hK769 => ?_
  -- region 2
  refine WC.region ?_
  -- R2.0 9 := frame.go:172 move
  refine WL.v (by first | exact r_move (v := .nilIface) rfl | exact r_move (v := .iface _ _) rfl | exact r_move rfl) rfl rfl rfl ?_
  -- R2.1 10 := frame.go:172 binOp
  refine WL.v (by first | exact r_nil_neq ty_ifc47 rfl | exact r_some_neq ty_ifc47 rfl) rfl rfl rfl ?_
  refine WL.fin hK769 (fun _ _ h => h) ?_
  refine WC.condF rfl rfl ?_
  refine WC.skipF hK767 (fun _ _ h => h) ?_
  refine WC.seq fun K770 hK770 => ?_
  -- region 4
  refine WC.region ?_
  -- R4.0 13 := frame.go:175 move
  refine WL.v (by first | exact r_move (v := .slice _ _ _) rfl | exact r_move rfl) rfl rfl rfl ?_
  -- R4.1 14 := frame.go:175 move
  refine WL.v (by first | exact r_move (v := .pointer _) rfl | exact r_move rfl) rfl rfl rfl ?_
  -- R4.2 15 := frame.go:175 call
  refine WL.call (r_call ty_call34 rfl) rfl rfl rfl (apFr_ok b o f hf hP ho hb hr st) ?_
  rintro v w ⟨XI, ho, st⟩
  -- R4.3 4 := frame.go:175 assign
  refine WL.v (by first | exact r_assign (v := .slice _ _ _) rfl | exact r_assign rfl) rfl rfl rfl ?_
  -- R4.4 5 := frame.go:175 assign
  refine WL.v (by first | exact r_assign (v := .nilIface) rfl | exact r_assign (v := .iface _ _) rfl | exact r_assign rfl) rfl rfl rfl ?_
  refine WL.fin hK770 (fun _ _ h => h) ?_
  refine WC.ret2 Tryd.results13 (fun _ _ h => h) rfl ?_
  exact ⟨_, rfl, v, XI, rfl, ho, st⟩
end Go.Proofs.Qxb6500841aDoor

