import Derived.Test.Qxb6500841aDoorX10
set_option linter.unusedVariables false
set_option linter.unusedSimpArgs false
set_option maxRecDepth 20000
namespace Go.Proofs.Qxb6500841aDoor
open Go.RowKit Go.E1 Go.Wire
variable {w0 : World} {L : List HI} {w : World} {ET : Nat → TypeId} {EU : Nat → Value}

theorem byt_of {l : List Int} (h : (l.all fun x => decide (0 ≤ x ∧ x < 256)) = true) : ∀ x, x ∈ l → 0 ≤ x ∧ x < 256 := fun x hx => of_decide_eq_true (List.all_eq_true.1 h x hx)
theorem cf_ba {w : World} {b o n k : Nat} {f : Nat → Value} {bs : List Int} (h : CF w b o n f) (hk : k + bs.length ≤ n) (he : (List.range bs.length).map (fun i => f (k + i)) = bs.map (.int .u8)) : BA w b (o + k) bs := fun i hi => by
  have := h (k + i) (by omega)
  rw [show o + k + i = o + (k + i) by omega, this]
  have e := congrArg (fun l => l[i]?) he
  simp only [List.getElem?_map, List.getElem?_range hi, Option.map_some, List.getElem?_eq_getElem hi] at e
  rw [List.getD_eq_getElem?_getD, List.getElem?_eq_getElem hi]
  exact e

theorem BO.cast {el : Nat} {v : Value} {l l' : List Int} {XI : List HI} (h : BO el v l XI) (e : l = l') : BO el v l' XI := e ▸ h

def ethB (e : Nat → Int) : List Int := [e 0, e 1, e 2, e 3, e 4, e 5] ++ [e 6, e 7, e 8, e 9, e 10, e 11] ++ be16 (e 12)
def ipB (x : Nat → Int) (o : List Int) : List Int := be16 (16384 + ((20 + o.length) / 4 : Nat) * 256 + x 0) ++ be16 (x 1) ++ be16 (x 2) ++ be16 (x 3 * 8192 + x 4) ++ [x 5, x 6] ++ be16 (x 7) ++ [x 8, x 9, x 10, x 11] ++ [x 12, x 13, x 14, x 15] ++ o
def tcpB (x : Nat → Int) (o : List Int) : List Int := be16 (x 0) ++ be16 (x 1) ++ be32 (x 2) ++ be32 (x 3) ++ be16 (((20 + o.length) / 4 : Nat) * 4096 + x 4 * 256 + x 5) ++ be16 (x 6) ++ be16 (x 7) ++ be16 (x 8) ++ o
def icB (y x : Nat → Int) (o : List Int) : List Int := [y 0, y 1] ++ be16 (y 2) ++ be32 (y 3) ++ ipB x o

set_option maxHeartbeats 4000000 in
theorem apEth_ok {v : Value} {bs : List Int} {XI : List HI} (b o : Nat) (e : Nat → Int) (he : ∀ i, i < 12 → 0 ≤ e i ∧ e i < 256) (h12 : 0 ≤ e 12 ∧ e 12 < 65536) (ho : BO 5 v bs XI) (hb : bs.length ≤ 10000000000) (hr : ∀ its w', S0 w0 (its ++ L) w' → CF w' b o 13 (nth (ethL e))) (st : S0 w0 (XI ++ L) w) :
    Calls Tryd.prog 53 #[v, .pointer (some ⟨b, o, none⟩)] w (Ret fun v' w' => ∃ XI', BO 5 v' (bs ++ ethB e) XI' ∧ S0 w0 (XI' ++ L) w') := by
  have h0 := he 0 (by omega)
  have h1 := he 1 (by omega)
  have h2 := he 2 (by omega)
  have h3 := he 3 (by omega)
  have h4 := he 4 (by omega)
  have h5 := he 5 (by omega)
  have h6 := he 6 (by omega)
  have h7 := he 7 (by omega)
  have h8 := he 8 (by omega)
  have h9 := he 9 (by omega)
  have h10 := he 10 (by omega)
  have h11 := he 11 (by omega)
  refine enter [v, .pointer (some ⟨b, o, none⟩)] Tryd.func53 rfl Tryd.ntmps53 rfl ?_
  show WC _ _ _ 24 [] [(0, v), (1, .pointer (some ⟨b, o, none⟩))] _
  refine WC.seq fun K690 hK690 => ?_
  -- region 0
  refine WC.region ?_
  -- R0.0 4 := eth.go:22 assign
  refine WL.v (by first | exact r_assign (v := .slice _ _ _) rfl | exact r_assign rfl) rfl rfl rfl ?_
  refine WL.fin hK690 (fun _ _ h => h) ?_
  refine WC.seq fun K691 hK691 => ?_
  -- region 1
  refine WC.region ?_
  -- R1.0 5 := eth.go:23 move
  refine WL.v (by first | exact r_move (v := .slice _ _ _) rfl | exact r_move rfl) rfl rfl rfl ?_
  -- R1.1 6 := eth.go:23 move
  refine WL.v (by first | exact r_move (v := .pointer _) rfl | exact r_move rfl) rfl rfl rfl ?_
  -- R1.2 7 := eth.go:23 nilCheck
  refine WL.v (by exact r_nilCheck rfl) rfl rfl rfl ?_
  -- R1.3 8 := eth.go:23 fieldAddr
  refine WL.v (by exact r_field ty_fld32_0 rfl) rfl rfl rfl ?_
  -- R1.4 9 := eth.go:23 slice
  refine WL.v (by exact r_slAr ty_ar29 rfl) rfl rfl rfl ?_
  -- R1.5 10 := eth.go:23 call
  refine WL.appB (s := ⟨some ⟨b, o + 0, none⟩, 6, b, o + 0, [e 0, e 1, e 2, e 3, e 4, e 5]⟩) ho ⟨Nat.le_refl _, by simp, fun _ => rfl, byt_of (by simp only [List.all_cons, List.all_nil, Bool.and_true, Bool.and_eq_true, decide_eq_true_eq]; exact ⟨h0, h1, h2, h3, h4, h5⟩)⟩ (cf_ba (k := 0) (hr XI w st) (by simp) rfl) st ty_mk25 ty_sl25 ty_zero5 rfl rfl rfl (by first | omega | (simp only [List.length_append, be16, be32, List.length_cons, List.length_nil]; omega)) (by first | omega | (simp only [List.length_append, be16, be32, List.length_cons, List.length_nil]; omega)) rfl rfl rfl ?_
  intro v XI w ho st
  -- R1.6 0 := eth.go:23 assign
  refine WL.v (by first | exact r_assign (v := .slice _ _ _) rfl | exact r_assign rfl) rfl rfl rfl ?_
  refine WL.fin hK691 (fun _ _ h => h) ?_
  refine WC.seq fun K692 hK692 => ?_
  -- region 2
  refine WC.region ?_
  -- R2.0 11 := eth.go:24 move
  refine WL.v (by first | exact r_move (v := .slice _ _ _) rfl | exact r_move rfl) rfl rfl rfl ?_
  -- R2.1 12 := eth.go:24 move
  refine WL.v (by first | exact r_move (v := .pointer _) rfl | exact r_move rfl) rfl rfl rfl ?_
  -- R2.2 13 := eth.go:24 nilCheck
  refine WL.v (by exact r_nilCheck rfl) rfl rfl rfl ?_
  -- R2.3 14 := eth.go:24 fieldAddr
  refine WL.v (by exact r_field ty_fld32_1 rfl) rfl rfl rfl ?_
  -- R2.4 15 := eth.go:24 slice
  refine WL.v (by exact r_slAr ty_ar29 rfl) rfl rfl rfl ?_
  -- R2.5 16 := eth.go:24 call
  refine WL.appB (s := ⟨some ⟨b, o + 6, none⟩, 6, b, o + 6, [e 6, e 7, e 8, e 9, e 10, e 11]⟩) ho ⟨Nat.le_refl _, by simp, fun _ => rfl, byt_of (by simp only [List.all_cons, List.all_nil, Bool.and_true, Bool.and_eq_true, decide_eq_true_eq]; exact ⟨h6, h7, h8, h9, h10, h11⟩)⟩ (cf_ba (k := 6) (hr XI w st) (by simp) rfl) st ty_mk25 ty_sl25 ty_zero5 rfl rfl rfl (by first | omega | (simp only [List.length_append, be16, be32, List.length_cons, List.length_nil]; omega)) (by first | omega | (simp only [List.length_append, be16, be32, List.length_cons, List.length_nil]; omega)) rfl rfl rfl ?_
  intro v XI w ho st
  -- R2.6 0 := eth.go:24 assign
  refine WL.v (by first | exact r_assign (v := .slice _ _ _) rfl | exact r_assign rfl) rfl rfl rfl ?_
  refine WL.fin hK692 (fun _ _ h => h) ?_
  refine WC.seq fun K693 hK693 => ?_
  -- region 3 (draws)
  refine WC.tailS 6 st ty_mixed (by kernel_rfl) fun w st Kq hKq => ?_
  -- R3.0 17 := eth.go:25 load
  refine SL.v (by exact r_loadL (vs := []) ty_agg83 rfl trivial) rfl rfl rfl ?_
  -- R3.1 18 := eth.go:25 move
  refine SL.v (by first | exact r_move (v := .slice _ _ _) rfl | exact r_move rfl) rfl rfl rfl ?_
  -- R3.2 19 := eth.go:25 move
  refine SL.v (by first | exact r_move (v := .pointer _) rfl | exact r_move rfl) rfl rfl rfl ?_
  -- R3.3 20 := eth.go:25 nilCheck
  refine SL.v (by exact r_nilCheck rfl) rfl rfl rfl ?_
  -- R3.4 21 := eth.go:25 fieldAddr
  refine SL.v (by exact r_field ty_fld32_2 rfl) rfl rfl rfl ?_
  -- R3.5 22 := eth.go:25 load
  refine SL.v (by first | exact r_load1 ty_one30 rfl (hr [] _ st 12 (by decide)) | exact r_load1 ty_one30 rfl (hr _ _ st 12 (by decide)) | exact r_load1 ty_one30 rfl (hr [_] _ st 12 (by decide)) | exact r_load1 ty_one30 rfl (hr [_, _] _ st 12 (by decide)) | exact r_load1 ty_one30 rfl (hr [_, _, _] _ st 12 (by decide))) rfl rfl rfl ?_
  refine SL.fin hKq ?_
  -- R3.6 23 := eth.go:25 call
  refine WL.call (r_call ty_call77 rfl) rfl rfl rfl (ap16_ok (e 12) (h12) ho (by first | omega | (simp only [List.length_append, be16, be32, List.length_cons, List.length_nil]; omega)) st) ?_
  rintro v w ⟨XI, ho, st⟩
  -- R3.7 4 := eth.go:25 assign
  refine WL.v (by first | exact r_assign (v := .slice _ _ _) rfl | exact r_assign rfl) rfl rfl rfl ?_
  refine WL.fin hK693 (fun _ _ h => h) ?_
  refine WC.ret1 Tryd.results53 (fun _ _ h => h) rfl ?_
  exact ⟨_, rfl, XI, BO.cast ho (by simp only [ethB, List.append_assoc]), st⟩

set_option maxHeartbeats 4000000 in
theorem apIp_ok {v : Value} {bs : List Int} {XI : List HI} (b o : Nat) (x : Nat → Int) (s : SV) (hx : IpR x) (hs : s.ok) (hP : ipP x s.bs.length) (ho : BO 5 v bs XI) (hb : bs.length ≤ 10000000000) (hr : ∀ its w', S0 w0 (its ++ L) w' → CF w' b o 17 (nth (ipL x s.v))) (hsr : ∀ its w', S0 w0 (its ++ L) w' → s.rd w') (st : S0 w0 (XI ++ L) w) :
    Calls Tryd.prog 54 #[v, .pointer (some ⟨b, o, none⟩)] w (Ret fun v' w' => ∃ XI', BO 5 v' (bs ++ ipB x s.bs) XI' ∧ S0 w0 (XI' ++ L) w') := by
  have hP' := hP
  obtain ⟨p3, p4, ⟨pm, p40⟩, p1⟩ := hP'
  have h0 := hx.r0
  have h3 := hx.r3
  have h4 := hx.r4
  refine enter [v, .pointer (some ⟨b, o, none⟩)] Tryd.func54 rfl Tryd.ntmps54 rfl ?_
  show WC _ _ _ 70 [] [(0, v), (1, .pointer (some ⟨b, o, none⟩))] _
  refine WC.seq fun K694 hK694 => ?_
  -- region 0
  refine WC.region ?_
  -- R0.0 4 := ipv4.go:95 assign
  refine WL.v (by first | exact r_assign (v := .slice _ _ _) rfl | exact r_assign rfl) rfl rfl rfl ?_
  refine WL.fin hK694 (fun _ _ h => h) ?_
  refine WC.seq fun K695 hK695 => ?_
  -- region 1
  refine WC.region ?_
  -- R1.0 8 := ipv4.go:96 move
  refine WL.v (by first | exact r_move (v := .pointer _) rfl | exact r_move rfl) rfl rfl rfl ?_
  -- R1.1 9 := ipv4.go:96 call
  refine WL.call (r_call ty_call78 rfl) rfl rfl rfl (ipWords_ok b o x s hx hP (moreL hr XI) st) ?_
  rintro _ w ⟨rfl, st⟩
  -- R1.2 7 := ipv4.go:96 move
  refine WL.v (by first | exact r_move (v := .tuple _) rfl | exact r_move rfl) rfl rfl rfl ?_
  -- R1.3 10 := ipv4.go:96 extract
  refine WL.v (by first | exact r_extract (v := .int _ _) rfl rfl | exact r_extract rfl rfl) rfl rfl rfl ?_
  -- R1.4 11 := ipv4.go:96 extract
  refine WL.v (by first | exact r_extract (v := .int _ _) rfl rfl | exact r_extract rfl rfl) rfl rfl rfl ?_
  -- R1.5 5 := ipv4.go:96 assign
  refine WL.v (by first | exact r_assign (v := .int _ _) rfl | exact r_assign rfl) rfl rfl rfl ?_
  -- R1.6 6 := ipv4.go:96 assign
  refine WL.v (by first | exact r_assign (v := .int _ _) rfl | exact r_assign rfl) rfl rfl rfl ?_
  refine WL.fin hK695 (fun _ _ h => h) ?_
  refine WC.seq fun K696 hK696 => ?_
  -- region 2
  refine WC.region ?_
  -- R2.0 12 := ipv4.go:97 load
  refine WL.v (by exact r_loadL (vs := []) ty_agg83 rfl trivial) rfl rfl rfl ?_
  -- R2.1 13 := ipv4.go:97 move
  refine WL.v (by first | exact r_move (v := .slice _ _ _) rfl | exact r_move rfl) rfl rfl rfl ?_
  -- R2.2 14 := ipv4.go:97 move
  refine WL.v (by first | exact r_move (v := .int _ _) rfl | exact r_move rfl) rfl rfl rfl ?_
  -- R2.3 15 := ipv4.go:97 call
  refine WL.call (r_call ty_call77 rfl) rfl rfl rfl (ap16_ok (16384 + ((20 + s.bs.length) / 4 : Nat) * 256 + x 0) (⟨by omega, by omega⟩) ho (by first | omega | (simp only [List.length_append, be16, be32, List.length_cons, List.length_nil]; omega)) st) ?_
  rintro v w ⟨XI, ho, st⟩
  -- R2.4 0 := ipv4.go:97 assign
  refine WL.v (by first | exact r_assign (v := .slice _ _ _) rfl | exact r_assign rfl) rfl rfl rfl ?_
  refine WL.fin hK696 (fun _ _ h => h) ?_
  refine WC.seq fun K697 hK697 => ?_
  -- region 3 (draws)
  refine WC.tailS 6 st ty_mixed (by kernel_rfl) fun w st Kq hKq => ?_
  -- R3.0 16 := ipv4.go:98 load
  refine SL.v (by exact r_loadL (vs := []) ty_agg83 rfl trivial) rfl rfl rfl ?_
  -- R3.1 17 := ipv4.go:98 move
  refine SL.v (by first | exact r_move (v := .slice _ _ _) rfl | exact r_move rfl) rfl rfl rfl ?_
  -- R3.2 18 := ipv4.go:98 move
  refine SL.v (by first | exact r_move (v := .pointer _) rfl | exact r_move rfl) rfl rfl rfl ?_
  -- R3.3 19 := ipv4.go:98 nilCheck
  refine SL.v (by exact r_nilCheck rfl) rfl rfl rfl ?_
  -- R3.4 20 := ipv4.go:98 fieldAddr
  refine SL.v (by exact r_field ty_fld36_1 rfl) rfl rfl rfl ?_
  -- R3.5 21 := ipv4.go:98 load
  refine SL.v (by first | exact r_load1 ty_one30 rfl (hr [] _ st 1 (by decide)) | exact r_load1 ty_one30 rfl (hr _ _ st 1 (by decide)) | exact r_load1 ty_one30 rfl (hr [_] _ st 1 (by decide)) | exact r_load1 ty_one30 rfl (hr [_, _] _ st 1 (by decide)) | exact r_load1 ty_one30 rfl (hr [_, _, _] _ st 1 (by decide))) rfl rfl rfl ?_
  refine SL.fin hKq ?_
  -- R3.6 22 := ipv4.go:98 call
  refine WL.call (r_call ty_call77 rfl) rfl rfl rfl (ap16_ok (x 1) (hx.r1) ho (by first | omega | (simp only [List.length_append, be16, be32, List.length_cons, List.length_nil]; omega)) st) ?_
  rintro v w ⟨XI, ho, st⟩
  -- R3.7 0 := ipv4.go:98 assign
  refine WL.v (by first | exact r_assign (v := .slice _ _ _) rfl | exact r_assign rfl) rfl rfl rfl ?_
  refine WL.fin hK697 (fun _ _ h => h) ?_
  refine WC.seq fun K698 hK698 => ?_
  -- region 4 (draws)
  refine WC.tailS 6 st ty_mixed (by kernel_rfl) fun w st Kq hKq => ?_
  -- R4.0 23 := ipv4.go:99 load
  refine SL.v (by exact r_loadL (vs := []) ty_agg83 rfl trivial) rfl rfl rfl ?_
  -- R4.1 24 := ipv4.go:99 move
  refine SL.v (by first | exact r_move (v := .slice _ _ _) rfl | exact r_move rfl) rfl rfl rfl ?_
  -- R4.2 25 := ipv4.go:99 move
  refine SL.v (by first | exact r_move (v := .pointer _) rfl | exact r_move rfl) rfl rfl rfl ?_
  -- R4.3 26 := ipv4.go:99 nilCheck
  refine SL.v (by exact r_nilCheck rfl) rfl rfl rfl ?_
  -- R4.4 27 := ipv4.go:99 fieldAddr
  refine SL.v (by exact r_field ty_fld36_2 rfl) rfl rfl rfl ?_
  -- R4.5 28 := ipv4.go:99 load
  refine SL.v (by first | exact r_load1 ty_one30 rfl (hr [] _ st 2 (by decide)) | exact r_load1 ty_one30 rfl (hr _ _ st 2 (by decide)) | exact r_load1 ty_one30 rfl (hr [_] _ st 2 (by decide)) | exact r_load1 ty_one30 rfl (hr [_, _] _ st 2 (by decide)) | exact r_load1 ty_one30 rfl (hr [_, _, _] _ st 2 (by decide))) rfl rfl rfl ?_
  refine SL.fin hKq ?_
  -- R4.6 29 := ipv4.go:99 call
  refine WL.call (r_call ty_call77 rfl) rfl rfl rfl (ap16_ok (x 2) (hx.r2) ho (by first | omega | (simp only [List.length_append, be16, be32, List.length_cons, List.length_nil]; omega)) st) ?_
  rintro v w ⟨XI, ho, st⟩
  -- R4.7 0 := ipv4.go:99 assign
  refine WL.v (by first | exact r_assign (v := .slice _ _ _) rfl | exact r_assign rfl) rfl rfl rfl ?_
  refine WL.fin hK698 (fun _ _ h => h) ?_
  refine WC.seq fun K699 hK699 => ?_
  -- region 5
  refine WC.region ?_
  -- R5.0 30 := ipv4.go:100 load
  refine WL.v (by exact r_loadL (vs := []) ty_agg83 rfl trivial) rfl rfl rfl ?_
  -- R5.1 31 := ipv4.go:100 move
  refine WL.v (by first | exact r_move (v := .slice _ _ _) rfl | exact r_move rfl) rfl rfl rfl ?_
  -- R5.2 32 := ipv4.go:100 move
  refine WL.v (by first | exact r_move (v := .int _ _) rfl | exact r_move rfl) rfl rfl rfl ?_
  -- R5.3 33 := ipv4.go:100 call
  refine WL.call (r_call ty_call77 rfl) rfl rfl rfl (ap16_ok (x 3 * 8192 + x 4) (⟨by omega, by omega⟩) ho (by first | omega | (simp only [List.length_append, be16, be32, List.length_cons, List.length_nil]; omega)) st) ?_
  rintro v w ⟨XI, ho, st⟩
  -- R5.4 0 := ipv4.go:100 assign
  refine WL.v (by first | exact r_assign (v := .slice _ _ _) rfl | exact r_assign rfl) rfl rfl rfl ?_
  refine WL.fin hK699 (fun _ _ h => h) ?_
  refine WC.seq fun K700 hK700 => ?_
  -- region 6 (draws)
  refine WC.heldS2 [9, 10, 11] [1, 2, 3, 4, 5, 6, 7, 8] [0] [9, 10, 11] st (st_dropL (P := XI) st) ty_mixed (by kernel_rfl) fun w st Kq Kq2 hKq hKq2 => ?_
  -- R6.1 35 := ipv4.go:101 move
  refine HL.v (fun w st => by first | exact r_move (v := .pointer _) rfl | exact r_move rfl) rfl rfl rfl ?_
  -- R6.2 36 := ipv4.go:101 nilCheck
  refine HL.v (fun w st => by exact r_nilCheck rfl) rfl rfl rfl ?_
  -- R6.3 37 := ipv4.go:101 fieldAddr
  refine HL.v (fun w st => by exact r_field ty_fld36_5 rfl) rfl rfl rfl ?_
  -- R6.4 38 := ipv4.go:101 load
  refine HL.v (fun w st => by first | exact r_load1 ty_one5 rfl (hr [] _ st 5 (by decide)) | exact r_load1 ty_one5 rfl (hr _ _ st 5 (by decide)) | exact r_load1 ty_one5 rfl (hr [_] _ st 5 (by decide)) | exact r_load1 ty_one5 rfl (hr [_, _] _ st 5 (by decide)) | exact r_load1 ty_one5 rfl (hr [_, _, _] _ st 5 (by decide))) rfl rfl rfl ?_
  -- R6.5 39 := ipv4.go:101 move
  refine HL.v (fun w st => by first | exact r_move (v := .pointer _) rfl | exact r_move rfl) rfl rfl rfl ?_
  -- R6.6 40 := ipv4.go:101 nilCheck
  refine HL.v (fun w st => by exact r_nilCheck rfl) rfl rfl rfl ?_
  -- R6.7 41 := ipv4.go:101 fieldAddr
  refine HL.v (fun w st => by exact r_field ty_fld36_6 rfl) rfl rfl rfl ?_
  -- R6.8 42 := ipv4.go:101 load
  refine HL.v (fun w st => by first | exact r_load1 ty_one5 rfl (hr [] _ st 6 (by decide)) | exact r_load1 ty_one5 rfl (hr _ _ st 6 (by decide)) | exact r_load1 ty_one5 rfl (hr [_] _ st 6 (by decide)) | exact r_load1 ty_one5 rfl (hr [_, _] _ st 6 (by decide)) | exact r_load1 ty_one5 rfl (hr [_, _, _] _ st 6 (by decide))) rfl rfl rfl ?_
  refine HL.pure hKq ?_
  -- R6.0 34 := ipv4.go:101 move
  refine HL.v (fun w _ => by first | exact r_move (v := .slice _ _ _) rfl | exact r_move rfl) rfl rfl rfl ?_
  refine HL.fin hKq2 ?_
  refine TL.at ?_
  -- R6.9 43 := ipv4.go:101 buildSlice
  first | refine WL.mkslice (m := 2) (vs := [.int _ _, .int _ _]) st ty_sl25 ty_zero5 rfl rfl rfl rfl rfl rfl ?_ | refine WL.mkslice (m := 2) (vs := [_, _]) st ty_sl25 ty_zero5 rfl rfl rfl rfl rfl rfl ?_ | refine WL.mkslice st ty_sl25 ty_zero5 rfl rfl rfl rfl rfl rfl ?_
  intro b43 w st
  refine TL.nxt' rfl ?_
  refine TL.at ?_
  -- R6.10 44 := ipv4.go:101 call
  refine WL.appB (s := ⟨some ⟨b43, 0, none⟩, 2, b43, 0, [x 5, x 6]⟩) ho ⟨Nat.le_refl _, by simp, fun _ => rfl, byt_of (by simp only [List.all_cons, List.all_nil, Bool.and_true, Bool.and_eq_true, decide_eq_true_eq]; exact ⟨hx.r5, hx.r6⟩)⟩ (fun i hi => ?_) (st_pull (P := [_]) (Q := XI) st) ty_mk25 ty_sl25 ty_zero5 rfl rfl rfl (by first | omega | (simp only [List.length_append, be16, be32, List.length_cons, List.length_nil]; omega)) (by first | omega | (simp only [List.length_append, be16, be32, List.length_cons, List.length_nil]; omega)) rfl rfl rfl ?_
  · match i, hi with
    | 0, _ => exact st.c0 (show (0 : Nat) + 0 < 2 by decide)
    | 1, _ => exact st.c0 (show (0 : Nat) + 1 < 2 by decide)
  intro v XI w ho st
  have st := st_cut (P := [_]) st
  refine TL.nxt' rfl ?_
  refine TL.at ?_
  -- R6.11 0 := ipv4.go:101 assign
  refine WL.v (by first | exact r_assign (v := .slice _ _ _) rfl | exact r_assign rfl) rfl rfl rfl ?_
  refine TL.nxt' rfl ?_
  refine TL.wl ?_
  refine WL.fin hK700 (fun _ _ h => h) ?_
  refine WC.seq fun K701 hK701 => ?_
  -- region 7 (draws)
  refine WC.tailS 6 st ty_mixed (by kernel_rfl) fun w st Kq hKq => ?_
  -- R7.0 45 := ipv4.go:102 load
  refine SL.v (by exact r_loadL (vs := []) ty_agg83 rfl trivial) rfl rfl rfl ?_
  -- R7.1 46 := ipv4.go:102 move
  refine SL.v (by first | exact r_move (v := .slice _ _ _) rfl | exact r_move rfl) rfl rfl rfl ?_
  -- R7.2 47 := ipv4.go:102 move
  refine SL.v (by first | exact r_move (v := .pointer _) rfl | exact r_move rfl) rfl rfl rfl ?_
  -- R7.3 48 := ipv4.go:102 nilCheck
  refine SL.v (by exact r_nilCheck rfl) rfl rfl rfl ?_
  -- R7.4 49 := ipv4.go:102 fieldAddr
  refine SL.v (by exact r_field ty_fld36_7 rfl) rfl rfl rfl ?_
  -- R7.5 50 := ipv4.go:102 load
  refine SL.v (by first | exact r_load1 ty_one30 rfl (hr [] _ st 7 (by decide)) | exact r_load1 ty_one30 rfl (hr _ _ st 7 (by decide)) | exact r_load1 ty_one30 rfl (hr [_] _ st 7 (by decide)) | exact r_load1 ty_one30 rfl (hr [_, _] _ st 7 (by decide)) | exact r_load1 ty_one30 rfl (hr [_, _, _] _ st 7 (by decide))) rfl rfl rfl ?_
  refine SL.fin hKq ?_
  -- R7.6 51 := ipv4.go:102 call
  refine WL.call (r_call ty_call77 rfl) rfl rfl rfl (ap16_ok (x 7) (hx.r7) ho (by first | omega | (simp only [List.length_append, be16, be32, List.length_cons, List.length_nil]; omega)) st) ?_
  rintro v w ⟨XI, ho, st⟩
  -- R7.7 0 := ipv4.go:102 assign
  refine WL.v (by first | exact r_assign (v := .slice _ _ _) rfl | exact r_assign rfl) rfl rfl rfl ?_
  refine WL.fin hK701 (fun _ _ h => h) ?_
  refine WC.seq fun K702 hK702 => ?_
  -- region 8
  refine WC.region ?_
  -- R8.0 52 := ipv4.go:103 move
  refine WL.v (by first | exact r_move (v := .slice _ _ _) rfl | exact r_move rfl) rfl rfl rfl ?_
  -- R8.1 53 := ipv4.go:103 move
  refine WL.v (by first | exact r_move (v := .pointer _) rfl | exact r_move rfl) rfl rfl rfl ?_
  -- R8.2 54 := ipv4.go:103 nilCheck
  refine WL.v (by exact r_nilCheck rfl) rfl rfl rfl ?_
  -- R8.3 55 := ipv4.go:103 fieldAddr
  refine WL.v (by exact r_field ty_fld36_8 rfl) rfl rfl rfl ?_
  -- R8.4 56 := ipv4.go:103 slice
  refine WL.v (by exact r_slAr ty_ar34 rfl) rfl rfl rfl ?_
  -- R8.5 57 := ipv4.go:103 call
  refine WL.appB (s := ⟨some ⟨b, o + 8, none⟩, 4, b, o + 8, [x 8, x 9, x 10, x 11]⟩) ho ⟨Nat.le_refl _, by simp, fun _ => rfl, byt_of (by simp only [List.all_cons, List.all_nil, Bool.and_true, Bool.and_eq_true, decide_eq_true_eq]; exact ⟨hx.r8, hx.r9, hx.r10, hx.r11⟩)⟩ (cf_ba (k := 8) (hr XI w st) (by simp) rfl) st ty_mk25 ty_sl25 ty_zero5 rfl rfl rfl (by first | omega | (simp only [List.length_append, be16, be32, List.length_cons, List.length_nil]; omega)) (by first | omega | (simp only [List.length_append, be16, be32, List.length_cons, List.length_nil]; omega)) rfl rfl rfl ?_
  intro v XI w ho st
  -- R8.6 0 := ipv4.go:103 assign
  refine WL.v (by first | exact r_assign (v := .slice _ _ _) rfl | exact r_assign rfl) rfl rfl rfl ?_
  refine WL.fin hK702 (fun _ _ h => h) ?_
  refine WC.seq fun K703 hK703 => ?_
  -- region 9
  refine WC.region ?_
  -- R9.0 58 := ipv4.go:104 move
  refine WL.v (by first | exact r_move (v := .slice _ _ _) rfl | exact r_move rfl) rfl rfl rfl ?_
  -- R9.1 59 := ipv4.go:104 move
  refine WL.v (by first | exact r_move (v := .pointer _) rfl | exact r_move rfl) rfl rfl rfl ?_
  -- R9.2 60 := ipv4.go:104 nilCheck
  refine WL.v (by exact r_nilCheck rfl) rfl rfl rfl ?_
  -- R9.3 61 := ipv4.go:104 fieldAddr
  refine WL.v (by exact r_field ty_fld36_9 rfl) rfl rfl rfl ?_
  -- R9.4 62 := ipv4.go:104 slice
  refine WL.v (by exact r_slAr ty_ar34 rfl) rfl rfl rfl ?_
  -- R9.5 63 := ipv4.go:104 call
  refine WL.appB (s := ⟨some ⟨b, o + 12, none⟩, 4, b, o + 12, [x 12, x 13, x 14, x 15]⟩) ho ⟨Nat.le_refl _, by simp, fun _ => rfl, byt_of (by simp only [List.all_cons, List.all_nil, Bool.and_true, Bool.and_eq_true, decide_eq_true_eq]; exact ⟨hx.r12, hx.r13, hx.r14, hx.r15⟩)⟩ (cf_ba (k := 12) (hr XI w st) (by simp) rfl) st ty_mk25 ty_sl25 ty_zero5 rfl rfl rfl (by first | omega | (simp only [List.length_append, be16, be32, List.length_cons, List.length_nil]; omega)) (by first | omega | (simp only [List.length_append, be16, be32, List.length_cons, List.length_nil]; omega)) rfl rfl rfl ?_
  intro v XI w ho st
  -- R9.6 0 := ipv4.go:104 assign
  refine WL.v (by first | exact r_assign (v := .slice _ _ _) rfl | exact r_assign rfl) rfl rfl rfl ?_
  refine WL.fin hK703 (fun _ _ h => h) ?_
  refine WC.seq fun K704 hK704 => ?_
  -- region 10
  refine WC.region ?_
  -- R10.0 64 := ipv4.go:105 move
  refine WL.v (by first | exact r_move (v := .slice _ _ _) rfl | exact r_move rfl) rfl rfl rfl ?_
  -- R10.1 65 := ipv4.go:105 move
  refine WL.v (by first | exact r_move (v := .pointer _) rfl | exact r_move rfl) rfl rfl rfl ?_
  -- R10.2 66 := ipv4.go:105 nilCheck
  refine WL.v (by exact r_nilCheck rfl) rfl rfl rfl ?_
  -- R10.3 67 := ipv4.go:105 fieldAddr
  refine WL.v (by exact r_field ty_fld36_10 rfl) rfl rfl rfl ?_
  -- R10.4 68 := ipv4.go:105 load
  refine WL.v (by first | exact r_load1 ty_one25 rfl (hr [] _ st 16 (by decide)) | exact r_load1 ty_one25 rfl (hr _ _ st 16 (by decide)) | exact r_load1 ty_one25 rfl (hr [_] _ st 16 (by decide)) | exact r_load1 ty_one25 rfl (hr [_, _] _ st 16 (by decide)) | exact r_load1 ty_one25 rfl (hr [_, _, _] _ st 16 (by decide))) rfl rfl rfl ?_
  -- R10.5 69 := ipv4.go:105 call
  refine WL.appB (s := s) ho hs (hsr XI w st) st ty_mk25 ty_sl25 ty_zero5 rfl rfl rfl (by first | omega | (simp only [List.length_append, be16, be32, List.length_cons, List.length_nil]; omega)) (by first | omega | (simp only [List.length_append, be16, be32, List.length_cons, List.length_nil]; omega)) rfl rfl rfl ?_
  intro v XI w ho st
  -- R10.6 4 := ipv4.go:105 assign
  refine WL.v (by first | exact r_assign (v := .slice _ _ _) rfl | exact r_assign rfl) rfl rfl rfl ?_
  refine WL.fin hK704 (fun _ _ h => h) ?_
  refine WC.ret1 Tryd.results54 (fun _ _ h => h) rfl ?_
  exact ⟨_, rfl, XI, BO.cast ho (by simp only [ipB, List.append_assoc]), st⟩

set_option maxHeartbeats 4000000 in
theorem apTcp_ok {v : Value} {bs : List Int} {XI : List HI} (b o : Nat) (x : Nat → Int) (s : SV) (hx : TcpR x) (hs : s.ok) (hP : tcpP x s.bs.length) (ho : BO 5 v bs XI) (hb : bs.length ≤ 10000000000) (hr : ∀ its w', S0 w0 (its ++ L) w' → CF w' b o 10 (nth (tcpL x s.v))) (hsr : ∀ its w', S0 w0 (its ++ L) w' → s.rd w') (st : S0 w0 (XI ++ L) w) :
    Calls Tryd.prog 55 #[v, .pointer (some ⟨b, o, none⟩)] w (Ret fun v' w' => ∃ XI', BO 5 v' (bs ++ tcpB x s.bs) XI' ∧ S0 w0 (XI' ++ L) w') := by
  have hP' := hP
  obtain ⟨p4, pm, p40⟩ := hP'
  have h4 := hx.r4
  have h5 := hx.r5
  refine enter [v, .pointer (some ⟨b, o, none⟩)] Tryd.func55 rfl Tryd.ntmps55 rfl ?_
  show WC _ _ _ 65 [] [(0, v), (1, .pointer (some ⟨b, o, none⟩))] _
  refine WC.seq fun K705 hK705 => ?_
  -- region 0
  refine WC.region ?_
  -- R0.0 4 := tcp.go:56 assign
  refine WL.v (by first | exact r_assign (v := .slice _ _ _) rfl | exact r_assign rfl) rfl rfl rfl ?_
  refine WL.fin hK705 (fun _ _ h => h) ?_
  refine WC.seq fun K706 hK706 => ?_
  -- region 1 (draws)
  refine WC.tailS 6 st ty_mixed (by kernel_rfl) fun w st Kq hKq => ?_
  -- R1.0 5 := tcp.go:57 load
  refine SL.v (by exact r_loadL (vs := []) ty_agg83 rfl trivial) rfl rfl rfl ?_
  -- R1.1 6 := tcp.go:57 move
  refine SL.v (by first | exact r_move (v := .slice _ _ _) rfl | exact r_move rfl) rfl rfl rfl ?_
  -- R1.2 7 := tcp.go:57 move
  refine SL.v (by first | exact r_move (v := .pointer _) rfl | exact r_move rfl) rfl rfl rfl ?_
  -- R1.3 8 := tcp.go:57 nilCheck
  refine SL.v (by exact r_nilCheck rfl) rfl rfl rfl ?_
  -- R1.4 9 := tcp.go:57 fieldAddr
  refine SL.v (by exact r_field ty_fld39_0 rfl) rfl rfl rfl ?_
  -- R1.5 10 := tcp.go:57 load
  refine SL.v (by first | exact r_load1 ty_one30 rfl (hr [] _ st 0 (by decide)) | exact r_load1 ty_one30 rfl (hr _ _ st 0 (by decide)) | exact r_load1 ty_one30 rfl (hr [_] _ st 0 (by decide)) | exact r_load1 ty_one30 rfl (hr [_, _] _ st 0 (by decide)) | exact r_load1 ty_one30 rfl (hr [_, _, _] _ st 0 (by decide))) rfl rfl rfl ?_
  refine SL.fin hKq ?_
  -- R1.6 11 := tcp.go:57 call
  refine WL.call (r_call ty_call77 rfl) rfl rfl rfl (ap16_ok (x 0) (hx.r0) ho (by first | omega | (simp only [List.length_append, be16, be32, List.length_cons, List.length_nil]; omega)) st) ?_
  rintro v w ⟨XI, ho, st⟩
  -- R1.7 0 := tcp.go:57 assign
  refine WL.v (by first | exact r_assign (v := .slice _ _ _) rfl | exact r_assign rfl) rfl rfl rfl ?_
  refine WL.fin hK706 (fun _ _ h => h) ?_
  refine WC.seq fun K707 hK707 => ?_
  -- region 2 (draws)
  refine WC.tailS 6 st ty_mixed (by kernel_rfl) fun w st Kq hKq => ?_
  -- R2.0 12 := tcp.go:58 load
  refine SL.v (by exact r_loadL (vs := []) ty_agg83 rfl trivial) rfl rfl rfl ?_
  -- R2.1 13 := tcp.go:58 move
  refine SL.v (by first | exact r_move (v := .slice _ _ _) rfl | exact r_move rfl) rfl rfl rfl ?_
  -- R2.2 14 := tcp.go:58 move
  refine SL.v (by first | exact r_move (v := .pointer _) rfl | exact r_move rfl) rfl rfl rfl ?_
  -- R2.3 15 := tcp.go:58 nilCheck
  refine SL.v (by exact r_nilCheck rfl) rfl rfl rfl ?_
  -- R2.4 16 := tcp.go:58 fieldAddr
  refine SL.v (by exact r_field ty_fld39_1 rfl) rfl rfl rfl ?_
  -- R2.5 17 := tcp.go:58 load
  refine SL.v (by first | exact r_load1 ty_one30 rfl (hr [] _ st 1 (by decide)) | exact r_load1 ty_one30 rfl (hr _ _ st 1 (by decide)) | exact r_load1 ty_one30 rfl (hr [_] _ st 1 (by decide)) | exact r_load1 ty_one30 rfl (hr [_, _] _ st 1 (by decide)) | exact r_load1 ty_one30 rfl (hr [_, _, _] _ st 1 (by decide))) rfl rfl rfl ?_
  refine SL.fin hKq ?_
  -- R2.6 18 := tcp.go:58 call
  refine WL.call (r_call ty_call77 rfl) rfl rfl rfl (ap16_ok (x 1) (hx.r1) ho (by first | omega | (simp only [List.length_append, be16, be32, List.length_cons, List.length_nil]; omega)) st) ?_
  rintro v w ⟨XI, ho, st⟩
  -- R2.7 0 := tcp.go:58 assign
  refine WL.v (by first | exact r_assign (v := .slice _ _ _) rfl | exact r_assign rfl) rfl rfl rfl ?_
  refine WL.fin hK707 (fun _ _ h => h) ?_
  refine WC.seq fun K708 hK708 => ?_
  -- region 3 (draws)
  refine WC.tailS 6 st ty_mixed (by kernel_rfl) fun w st Kq hKq => ?_
  -- R3.0 19 := tcp.go:59 load
  refine SL.v (by exact r_loadL (vs := []) ty_agg83 rfl trivial) rfl rfl rfl ?_
  -- R3.1 20 := tcp.go:59 move
  refine SL.v (by first | exact r_move (v := .slice _ _ _) rfl | exact r_move rfl) rfl rfl rfl ?_
  -- R3.2 21 := tcp.go:59 move
  refine SL.v (by first | exact r_move (v := .pointer _) rfl | exact r_move rfl) rfl rfl rfl ?_
  -- R3.3 22 := tcp.go:59 nilCheck
  refine SL.v (by exact r_nilCheck rfl) rfl rfl rfl ?_
  -- R3.4 23 := tcp.go:59 fieldAddr
  refine SL.v (by exact r_field ty_fld39_2 rfl) rfl rfl rfl ?_
  -- R3.5 24 := tcp.go:59 load
  refine SL.v (by first | exact r_load1 ty_one37 rfl (hr [] _ st 2 (by decide)) | exact r_load1 ty_one37 rfl (hr _ _ st 2 (by decide)) | exact r_load1 ty_one37 rfl (hr [_] _ st 2 (by decide)) | exact r_load1 ty_one37 rfl (hr [_, _] _ st 2 (by decide)) | exact r_load1 ty_one37 rfl (hr [_, _, _] _ st 2 (by decide))) rfl rfl rfl ?_
  refine SL.fin hKq ?_
  -- R3.6 25 := tcp.go:59 call
  refine WL.call (r_call ty_call79 rfl) rfl rfl rfl (ap32_ok (x 2) (hx.r2) ho (by first | omega | (simp only [List.length_append, be16, be32, List.length_cons, List.length_nil]; omega)) st) ?_
  rintro v w ⟨XI, ho, st⟩
  -- R3.7 0 := tcp.go:59 assign
  refine WL.v (by first | exact r_assign (v := .slice _ _ _) rfl | exact r_assign rfl) rfl rfl rfl ?_
  refine WL.fin hK708 (fun _ _ h => h) ?_
  refine WC.seq fun K709 hK709 => ?_
  -- region 4 (draws)
  refine WC.tailS 6 st ty_mixed (by kernel_rfl) fun w st Kq hKq => ?_
  -- R4.0 26 := tcp.go:60 load
  refine SL.v (by exact r_loadL (vs := []) ty_agg83 rfl trivial) rfl rfl rfl ?_
  -- R4.1 27 := tcp.go:60 move
  refine SL.v (by first | exact r_move (v := .slice _ _ _) rfl | exact r_move rfl) rfl rfl rfl ?_
  -- R4.2 28 := tcp.go:60 move
  refine SL.v (by first | exact r_move (v := .pointer _) rfl | exact r_move rfl) rfl rfl rfl ?_
  -- R4.3 29 := tcp.go:60 nilCheck
  refine SL.v (by exact r_nilCheck rfl) rfl rfl rfl ?_
  -- R4.4 30 := tcp.go:60 fieldAddr
  refine SL.v (by exact r_field ty_fld39_3 rfl) rfl rfl rfl ?_
  -- R4.5 31 := tcp.go:60 load
  refine SL.v (by first | exact r_load1 ty_one37 rfl (hr [] _ st 3 (by decide)) | exact r_load1 ty_one37 rfl (hr _ _ st 3 (by decide)) | exact r_load1 ty_one37 rfl (hr [_] _ st 3 (by decide)) | exact r_load1 ty_one37 rfl (hr [_, _] _ st 3 (by decide)) | exact r_load1 ty_one37 rfl (hr [_, _, _] _ st 3 (by decide))) rfl rfl rfl ?_
  refine SL.fin hKq ?_
  -- R4.6 32 := tcp.go:60 call
  refine WL.call (r_call ty_call79 rfl) rfl rfl rfl (ap32_ok (x 3) (hx.r3) ho (by first | omega | (simp only [List.length_append, be16, be32, List.length_cons, List.length_nil]; omega)) st) ?_
  rintro v w ⟨XI, ho, st⟩
  -- R4.7 0 := tcp.go:60 assign
  refine WL.v (by first | exact r_assign (v := .slice _ _ _) rfl | exact r_assign rfl) rfl rfl rfl ?_
  refine WL.fin hK709 (fun _ _ h => h) ?_
  refine WC.seq fun K710 hK710 => ?_
  -- region 5 (draws)
  refine WC.heldS2 [4, 5] [0] [1, 2] [3, 4, 5] st (st) ty_mixed (by kernel_rfl) fun w st Kq Kq2 hKq hKq2 => ?_
  -- R5.0 33 := tcp.go:61 load
  refine HL.v (fun w st => by exact r_loadL (vs := []) ty_agg83 rfl trivial) rfl rfl rfl ?_
  refine HL.pure hKq ?_
  -- R5.1 34 := tcp.go:61 move
  refine HL.v (fun w _ => by first | exact r_move (v := .slice _ _ _) rfl | exact r_move rfl) rfl rfl rfl ?_
  -- R5.2 35 := tcp.go:61 move
  refine HL.v (fun w _ => by first | exact r_move (v := .pointer _) rfl | exact r_move rfl) rfl rfl rfl ?_
  refine HL.fin hKq2 ?_
  refine TL.at ?_
  -- R5.3 36 := tcp.go:61 call
  refine WL.call (r_call ty_call59 rfl) rfl rfl rfl (tcpWord_ok b o x s hx hP (moreL hr XI) st) ?_
  rintro _ w ⟨rfl, st⟩
  refine TL.nxt (by first | exact st | exact st.drop | exact st.drop1 | exact st.drop2 | exact st.drop3 | exact st.drop4 | exact st.drop.drop | exact st.drop.drop1 | exact st.drop.drop2 | exact st.drop.drop3 | exact st.drop.drop4 | exact st.drop.drop.drop | exact st_dropL st | exact st_dropL st.drop | exact st_none st) ?_
  refine TL.at ?_
  -- R5.4 37 := tcp.go:61 call
  refine WL.call (r_call ty_call77 rfl) rfl rfl rfl (ap16_ok (((20 + s.bs.length) / 4 : Nat) * 4096 + x 4 * 256 + x 5) (⟨by omega, by omega⟩) ho (by first | omega | (simp only [List.length_append, be16, be32, List.length_cons, List.length_nil]; omega)) st) ?_
  rintro v w ⟨XI, ho, st⟩
  refine TL.nxt' rfl ?_
  refine TL.at ?_
  -- R5.5 0 := tcp.go:61 assign
  refine WL.v (by first | exact r_assign (v := .slice _ _ _) rfl | exact r_assign rfl) rfl rfl rfl ?_
  refine TL.nxt' rfl ?_
  refine TL.wl ?_
  refine WL.fin hK710 (fun _ _ h => h) ?_
  refine WC.seq fun K711 hK711 => ?_
  -- region 6 (draws)
  refine WC.tailS 6 st ty_mixed (by kernel_rfl) fun w st Kq hKq => ?_
  -- R6.0 38 := tcp.go:62 load
  refine SL.v (by exact r_loadL (vs := []) ty_agg83 rfl trivial) rfl rfl rfl ?_
  -- R6.1 39 := tcp.go:62 move
  refine SL.v (by first | exact r_move (v := .slice _ _ _) rfl | exact r_move rfl) rfl rfl rfl ?_
  -- R6.2 40 := tcp.go:62 move
  refine SL.v (by first | exact r_move (v := .pointer _) rfl | exact r_move rfl) rfl rfl rfl ?_
  -- R6.3 41 := tcp.go:62 nilCheck
  refine SL.v (by exact r_nilCheck rfl) rfl rfl rfl ?_
  -- R6.4 42 := tcp.go:62 fieldAddr
  refine SL.v (by exact r_field ty_fld39_6 rfl) rfl rfl rfl ?_
  -- R6.5 43 := tcp.go:62 load
  refine SL.v (by first | exact r_load1 ty_one30 rfl (hr [] _ st 6 (by decide)) | exact r_load1 ty_one30 rfl (hr _ _ st 6 (by decide)) | exact r_load1 ty_one30 rfl (hr [_] _ st 6 (by decide)) | exact r_load1 ty_one30 rfl (hr [_, _] _ st 6 (by decide)) | exact r_load1 ty_one30 rfl (hr [_, _, _] _ st 6 (by decide))) rfl rfl rfl ?_
  refine SL.fin hKq ?_
  -- R6.6 44 := tcp.go:62 call
  refine WL.call (r_call ty_call77 rfl) rfl rfl rfl (ap16_ok (x 6) (hx.r6) ho (by first | omega | (simp only [List.length_append, be16, be32, List.length_cons, List.length_nil]; omega)) st) ?_
  rintro v w ⟨XI, ho, st⟩
  -- R6.7 0 := tcp.go:62 assign
  refine WL.v (by first | exact r_assign (v := .slice _ _ _) rfl | exact r_assign rfl) rfl rfl rfl ?_
  refine WL.fin hK711 (fun _ _ h => h) ?_
  refine WC.seq fun K712 hK712 => ?_
  -- region 7 (draws)
  refine WC.tailS 6 st ty_mixed (by kernel_rfl) fun w st Kq hKq => ?_
  -- R7.0 45 := tcp.go:63 load
  refine SL.v (by exact r_loadL (vs := []) ty_agg83 rfl trivial) rfl rfl rfl ?_
  -- R7.1 46 := tcp.go:63 move
  refine SL.v (by first | exact r_move (v := .slice _ _ _) rfl | exact r_move rfl) rfl rfl rfl ?_
  -- R7.2 47 := tcp.go:63 move
  refine SL.v (by first | exact r_move (v := .pointer _) rfl | exact r_move rfl) rfl rfl rfl ?_
  -- R7.3 48 := tcp.go:63 nilCheck
  refine SL.v (by exact r_nilCheck rfl) rfl rfl rfl ?_
  -- R7.4 49 := tcp.go:63 fieldAddr
  refine SL.v (by exact r_field ty_fld39_7 rfl) rfl rfl rfl ?_
  -- R7.5 50 := tcp.go:63 load
  refine SL.v (by first | exact r_load1 ty_one30 rfl (hr [] _ st 7 (by decide)) | exact r_load1 ty_one30 rfl (hr _ _ st 7 (by decide)) | exact r_load1 ty_one30 rfl (hr [_] _ st 7 (by decide)) | exact r_load1 ty_one30 rfl (hr [_, _] _ st 7 (by decide)) | exact r_load1 ty_one30 rfl (hr [_, _, _] _ st 7 (by decide))) rfl rfl rfl ?_
  refine SL.fin hKq ?_
  -- R7.6 51 := tcp.go:63 call
  refine WL.call (r_call ty_call77 rfl) rfl rfl rfl (ap16_ok (x 7) (hx.r7) ho (by first | omega | (simp only [List.length_append, be16, be32, List.length_cons, List.length_nil]; omega)) st) ?_
  rintro v w ⟨XI, ho, st⟩
  -- R7.7 0 := tcp.go:63 assign
  refine WL.v (by first | exact r_assign (v := .slice _ _ _) rfl | exact r_assign rfl) rfl rfl rfl ?_
  refine WL.fin hK712 (fun _ _ h => h) ?_
  refine WC.seq fun K713 hK713 => ?_
  -- region 8 (draws)
  refine WC.tailS 6 st ty_mixed (by kernel_rfl) fun w st Kq hKq => ?_
  -- R8.0 52 := tcp.go:64 load
  refine SL.v (by exact r_loadL (vs := []) ty_agg83 rfl trivial) rfl rfl rfl ?_
  -- R8.1 53 := tcp.go:64 move
  refine SL.v (by first | exact r_move (v := .slice _ _ _) rfl | exact r_move rfl) rfl rfl rfl ?_
  -- R8.2 54 := tcp.go:64 move
  refine SL.v (by first | exact r_move (v := .pointer _) rfl | exact r_move rfl) rfl rfl rfl ?_
  -- R8.3 55 := tcp.go:64 nilCheck
  refine SL.v (by exact r_nilCheck rfl) rfl rfl rfl ?_
  -- R8.4 56 := tcp.go:64 fieldAddr
  refine SL.v (by exact r_field ty_fld39_8 rfl) rfl rfl rfl ?_
  -- R8.5 57 := tcp.go:64 load
  refine SL.v (by first | exact r_load1 ty_one30 rfl (hr [] _ st 8 (by decide)) | exact r_load1 ty_one30 rfl (hr _ _ st 8 (by decide)) | exact r_load1 ty_one30 rfl (hr [_] _ st 8 (by decide)) | exact r_load1 ty_one30 rfl (hr [_, _] _ st 8 (by decide)) | exact r_load1 ty_one30 rfl (hr [_, _, _] _ st 8 (by decide))) rfl rfl rfl ?_
  refine SL.fin hKq ?_
  -- R8.6 58 := tcp.go:64 call
  refine WL.call (r_call ty_call77 rfl) rfl rfl rfl (ap16_ok (x 8) (hx.r8) ho (by first | omega | (simp only [List.length_append, be16, be32, List.length_cons, List.length_nil]; omega)) st) ?_
  rintro v w ⟨XI, ho, st⟩
  -- R8.7 0 := tcp.go:64 assign
  refine WL.v (by first | exact r_assign (v := .slice _ _ _) rfl | exact r_assign rfl) rfl rfl rfl ?_
  refine WL.fin hK713 (fun _ _ h => h) ?_
  refine WC.seq fun K714 hK714 => ?_
  -- region 9
  refine WC.region ?_
  -- R9.0 59 := tcp.go:65 move
  refine WL.v (by first | exact r_move (v := .slice _ _ _) rfl | exact r_move rfl) rfl rfl rfl ?_
  -- R9.1 60 := tcp.go:65 move
  refine WL.v (by first | exact r_move (v := .pointer _) rfl | exact r_move rfl) rfl rfl rfl ?_
  -- R9.2 61 := tcp.go:65 nilCheck
  refine WL.v (by exact r_nilCheck rfl) rfl rfl rfl ?_
  -- R9.3 62 := tcp.go:65 fieldAddr
  refine WL.v (by exact r_field ty_fld39_9 rfl) rfl rfl rfl ?_
  -- R9.4 63 := tcp.go:65 load
  refine WL.v (by first | exact r_load1 ty_one25 rfl (hr [] _ st 9 (by decide)) | exact r_load1 ty_one25 rfl (hr _ _ st 9 (by decide)) | exact r_load1 ty_one25 rfl (hr [_] _ st 9 (by decide)) | exact r_load1 ty_one25 rfl (hr [_, _] _ st 9 (by decide)) | exact r_load1 ty_one25 rfl (hr [_, _, _] _ st 9 (by decide))) rfl rfl rfl ?_
  -- R9.5 64 := tcp.go:65 call
  refine WL.appB (s := s) ho hs (hsr XI w st) st ty_mk25 ty_sl25 ty_zero5 rfl rfl rfl (by first | omega | (simp only [List.length_append, be16, be32, List.length_cons, List.length_nil]; omega)) (by first | omega | (simp only [List.length_append, be16, be32, List.length_cons, List.length_nil]; omega)) rfl rfl rfl ?_
  intro v XI w ho st
  -- R9.6 4 := tcp.go:65 assign
  refine WL.v (by first | exact r_assign (v := .slice _ _ _) rfl | exact r_assign rfl) rfl rfl rfl ?_
  refine WL.fin hK714 (fun _ _ h => h) ?_
  refine WC.ret1 Tryd.results55 (fun _ _ h => h) rfl ?_
  exact ⟨_, rfl, XI, BO.cast ho (by simp only [tcpB, List.append_assoc]), st⟩

set_option maxHeartbeats 4000000 in
theorem apIc_ok {v : Value} {bs : List Int} {XI : List HI} (b o : Nat) (y x : Nat → Int) (s : SV) (hy : IcR y) (hx : IpR x) (hs : s.ok) (hP : ipP x s.bs.length) (ho : BO 5 v bs XI) (hb : bs.length ≤ 9000000000) (hr : ∀ its w', S0 w0 (its ++ L) w' → CF w' b o 21 (nth (icL y x s.v))) (hsr : ∀ its w', S0 w0 (its ++ L) w' → s.rd w') (st : S0 w0 (XI ++ L) w) :
    Calls Tryd.prog 56 #[v, .pointer (some ⟨b, o, none⟩)] w (Ret fun v' w' => ∃ XI', BO 5 v' (bs ++ icB y x s.bs) XI' ∧ S0 w0 (XI' ++ L) w') := by
  refine enter [v, .pointer (some ⟨b, o, none⟩)] Tryd.func56 rfl Tryd.ntmps56 rfl ?_
  show WC _ _ _ 35 [] [(0, v), (1, .pointer (some ⟨b, o, none⟩))] _
  refine WC.seq fun K715 hK715 => ?_
  -- region 0
  refine WC.region ?_
  -- R0.0 4 := icmp.go:65 assign
  refine WL.v (by first | exact r_assign (v := .slice _ _ _) rfl | exact r_assign rfl) rfl rfl rfl ?_
  refine WL.fin hK715 (fun _ _ h => h) ?_
  refine WC.seq fun K716 hK716 => ?_
  -- region 1 (draws)
  refine WC.heldS2 [9, 10, 11] [1, 2, 3, 4, 5, 6, 7, 8] [0] [9, 10, 11] st (st_dropL (P := XI) st) ty_mixed (by kernel_rfl) fun w st Kq Kq2 hKq hKq2 => ?_
  -- R1.1 6 := icmp.go:66 move
  refine HL.v (fun w st => by first | exact r_move (v := .pointer _) rfl | exact r_move rfl) rfl rfl rfl ?_
  -- R1.2 7 := icmp.go:66 nilCheck
  refine HL.v (fun w st => by exact r_nilCheck rfl) rfl rfl rfl ?_
  -- R1.3 8 := icmp.go:66 fieldAddr
  refine HL.v (fun w st => by exact r_field ty_fld41_0 rfl) rfl rfl rfl ?_
  -- R1.4 9 := icmp.go:66 load
  refine HL.v (fun w st => by first | exact r_load1 ty_one5 rfl (hr [] _ st 0 (by decide)) | exact r_load1 ty_one5 rfl (hr _ _ st 0 (by decide)) | exact r_load1 ty_one5 rfl (hr [_] _ st 0 (by decide)) | exact r_load1 ty_one5 rfl (hr [_, _] _ st 0 (by decide)) | exact r_load1 ty_one5 rfl (hr [_, _, _] _ st 0 (by decide))) rfl rfl rfl ?_
  -- R1.5 10 := icmp.go:66 move
  refine HL.v (fun w st => by first | exact r_move (v := .pointer _) rfl | exact r_move rfl) rfl rfl rfl ?_
  -- R1.6 11 := icmp.go:66 nilCheck
  refine HL.v (fun w st => by exact r_nilCheck rfl) rfl rfl rfl ?_
  -- R1.7 12 := icmp.go:66 fieldAddr
  refine HL.v (fun w st => by exact r_field ty_fld41_1 rfl) rfl rfl rfl ?_
  -- R1.8 13 := icmp.go:66 load
  refine HL.v (fun w st => by first | exact r_load1 ty_one5 rfl (hr [] _ st 1 (by decide)) | exact r_load1 ty_one5 rfl (hr _ _ st 1 (by decide)) | exact r_load1 ty_one5 rfl (hr [_] _ st 1 (by decide)) | exact r_load1 ty_one5 rfl (hr [_, _] _ st 1 (by decide)) | exact r_load1 ty_one5 rfl (hr [_, _, _] _ st 1 (by decide))) rfl rfl rfl ?_
  refine HL.pure hKq ?_
  -- R1.0 5 := icmp.go:66 move
  refine HL.v (fun w _ => by first | exact r_move (v := .slice _ _ _) rfl | exact r_move rfl) rfl rfl rfl ?_
  refine HL.fin hKq2 ?_
  refine TL.at ?_
  -- R1.9 14 := icmp.go:66 buildSlice
  first | refine WL.mkslice (m := 2) (vs := [.int _ _, .int _ _]) st ty_sl25 ty_zero5 rfl rfl rfl rfl rfl rfl ?_ | refine WL.mkslice (m := 2) (vs := [_, _]) st ty_sl25 ty_zero5 rfl rfl rfl rfl rfl rfl ?_ | refine WL.mkslice st ty_sl25 ty_zero5 rfl rfl rfl rfl rfl rfl ?_
  intro b14 w st
  refine TL.nxt' rfl ?_
  refine TL.at ?_
  -- R1.10 15 := icmp.go:66 call
  refine WL.appB (s := ⟨some ⟨b14, 0, none⟩, 2, b14, 0, [y 0, y 1]⟩) ho ⟨Nat.le_refl _, by simp, fun _ => rfl, byt_of (by simp only [List.all_cons, List.all_nil, Bool.and_true, Bool.and_eq_true, decide_eq_true_eq]; exact ⟨hy.r0, hy.r1⟩)⟩ (fun i hi => ?_) (st_pull (P := [_]) (Q := XI) st) ty_mk25 ty_sl25 ty_zero5 rfl rfl rfl (by first | omega | (simp only [List.length_append, be16, be32, List.length_cons, List.length_nil]; omega)) (by first | omega | (simp only [List.length_append, be16, be32, List.length_cons, List.length_nil]; omega)) rfl rfl rfl ?_
  · match i, hi with
    | 0, _ => exact st.c0 (show (0 : Nat) + 0 < 2 by decide)
    | 1, _ => exact st.c0 (show (0 : Nat) + 1 < 2 by decide)
  intro v XI w ho st
  have st := st_cut (P := [_]) st
  refine TL.nxt' rfl ?_
  refine TL.at ?_
  -- R1.11 0 := icmp.go:66 assign
  refine WL.v (by first | exact r_assign (v := .slice _ _ _) rfl | exact r_assign rfl) rfl rfl rfl ?_
  refine TL.nxt' rfl ?_
  refine TL.wl ?_
  refine WL.fin hK716 (fun _ _ h => h) ?_
  refine WC.seq fun K717 hK717 => ?_
  -- region 2 (draws)
  refine WC.tailS 6 st ty_mixed (by kernel_rfl) fun w st Kq hKq => ?_
  -- R2.0 16 := icmp.go:67 load
  refine SL.v (by exact r_loadL (vs := []) ty_agg83 rfl trivial) rfl rfl rfl ?_
  -- R2.1 17 := icmp.go:67 move
  refine SL.v (by first | exact r_move (v := .slice _ _ _) rfl | exact r_move rfl) rfl rfl rfl ?_
  -- R2.2 18 := icmp.go:67 move
  refine SL.v (by first | exact r_move (v := .pointer _) rfl | exact r_move rfl) rfl rfl rfl ?_
  -- R2.3 19 := icmp.go:67 nilCheck
  refine SL.v (by exact r_nilCheck rfl) rfl rfl rfl ?_
  -- R2.4 20 := icmp.go:67 fieldAddr
  refine SL.v (by exact r_field ty_fld41_2 rfl) rfl rfl rfl ?_
  -- R2.5 21 := icmp.go:67 load
  refine SL.v (by first | exact r_load1 ty_one30 rfl (hr [] _ st 2 (by decide)) | exact r_load1 ty_one30 rfl (hr _ _ st 2 (by decide)) | exact r_load1 ty_one30 rfl (hr [_] _ st 2 (by decide)) | exact r_load1 ty_one30 rfl (hr [_, _] _ st 2 (by decide)) | exact r_load1 ty_one30 rfl (hr [_, _, _] _ st 2 (by decide))) rfl rfl rfl ?_
  refine SL.fin hKq ?_
  -- R2.6 22 := icmp.go:67 call
  refine WL.call (r_call ty_call77 rfl) rfl rfl rfl (ap16_ok (y 2) (hy.r2) ho (by first | omega | (simp only [List.length_append, be16, be32, List.length_cons, List.length_nil]; omega)) st) ?_
  rintro v w ⟨XI, ho, st⟩
  -- R2.7 0 := icmp.go:67 assign
  refine WL.v (by first | exact r_assign (v := .slice _ _ _) rfl | exact r_assign rfl) rfl rfl rfl ?_
  refine WL.fin hK717 (fun _ _ h => h) ?_
  refine WC.seq fun K718 hK718 => ?_
  -- region 3 (draws)
  refine WC.tailS 6 st ty_mixed (by kernel_rfl) fun w st Kq hKq => ?_
  -- R3.0 23 := icmp.go:68 load
  refine SL.v (by exact r_loadL (vs := []) ty_agg83 rfl trivial) rfl rfl rfl ?_
  -- R3.1 24 := icmp.go:68 move
  refine SL.v (by first | exact r_move (v := .slice _ _ _) rfl | exact r_move rfl) rfl rfl rfl ?_
  -- R3.2 25 := icmp.go:68 move
  refine SL.v (by first | exact r_move (v := .pointer _) rfl | exact r_move rfl) rfl rfl rfl ?_
  -- R3.3 26 := icmp.go:68 nilCheck
  refine SL.v (by exact r_nilCheck rfl) rfl rfl rfl ?_
  -- R3.4 27 := icmp.go:68 fieldAddr
  refine SL.v (by exact r_field ty_fld41_3 rfl) rfl rfl rfl ?_
  -- R3.5 28 := icmp.go:68 load
  refine SL.v (by first | exact r_load1 ty_one37 rfl (hr [] _ st 3 (by decide)) | exact r_load1 ty_one37 rfl (hr _ _ st 3 (by decide)) | exact r_load1 ty_one37 rfl (hr [_] _ st 3 (by decide)) | exact r_load1 ty_one37 rfl (hr [_, _] _ st 3 (by decide)) | exact r_load1 ty_one37 rfl (hr [_, _, _] _ st 3 (by decide))) rfl rfl rfl ?_
  refine SL.fin hKq ?_
  -- R3.6 29 := icmp.go:68 call
  refine WL.call (r_call ty_call79 rfl) rfl rfl rfl (ap32_ok (y 3) (hy.r3) ho (by first | omega | (simp only [List.length_append, be16, be32, List.length_cons, List.length_nil]; omega)) st) ?_
  rintro v w ⟨XI, ho, st⟩
  -- R3.7 0 := icmp.go:68 assign
  refine WL.v (by first | exact r_assign (v := .slice _ _ _) rfl | exact r_assign rfl) rfl rfl rfl ?_
  refine WL.fin hK718 (fun _ _ h => h) ?_
  refine WC.seq fun K719 hK719 => ?_
  -- region 4
  refine WC.region ?_
  -- R4.0 30 := icmp.go:69 move
  refine WL.v (by first | exact r_move (v := .slice _ _ _) rfl | exact r_move rfl) rfl rfl rfl ?_
  -- R4.1 31 := icmp.go:69 move
  refine WL.v (by first | exact r_move (v := .pointer _) rfl | exact r_move rfl) rfl rfl rfl ?_
  -- R4.2 32 := icmp.go:69 nilCheck
  refine WL.v (by exact r_nilCheck rfl) rfl rfl rfl ?_
  -- R4.3 33 := icmp.go:69 fieldAddr
  refine WL.v (by exact r_field ty_fld41_4 rfl) rfl rfl rfl ?_
  -- R4.4 34 := icmp.go:69 call
  refine WL.call (r_call ty_call54 rfl) rfl rfl rfl (apIp_ok b (o + 4) x s hx hs hP ho (by first | omega | (simp only [List.length_append, be16, be32, List.length_cons, List.length_nil]; omega)) (fun its w' q => cf_sub (k := 4) (hr its w' q) (by decide) rfl) hsr st) ?_
  rintro v w ⟨XI, ho, st⟩
  -- R4.5 4 := icmp.go:69 assign
  refine WL.v (by first | exact r_assign (v := .slice _ _ _) rfl | exact r_assign rfl) rfl rfl rfl ?_
  refine WL.fin hK719 (fun _ _ h => h) ?_
  refine WC.ret1 Tryd.results56 (fun _ _ h => h) rfl ?_
  exact ⟨_, rfl, XI, BO.cast ho (by simp only [icB, List.append_assoc]), st⟩
end Go.Proofs.Qxb6500841aDoor

