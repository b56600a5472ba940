import Derived.Test.Qxb6500841aDoorX8
set_option linter.unusedVariables false
set_option linter.unusedSimpArgs false
set_option maxRecDepth 20000
namespace Go.Proofs.Qxb6500841aDoor
open Go.RowKit Go.E1 Go.Wire
variable {w0 : World} {L : List HI} {w : World} {ET : Nat → TypeId} {EU : Nat → Value}

/-- A frame's parts. -/
structure FD where
  k : Int
  e : Nat → Int
  x : Nat → Int
  t : Nat → Int
  y : Nat → Int
  z : Nat → Int
  s1 : SV
  s2 : SV
  s3 : SV
  s4 : SV
  s5 : SV
abbrev FD.cs (f : FD) : List Value := frL f.k f.e f.x f.t f.y f.z f.s1.v f.s2.v f.s3.v f.s4.v f.s5.v
structure FD.ok (f : FD) : Prop where
  kr : 0 ≤ f.k ∧ f.k < 256
  eb : ∀ i, i < 12 → 0 ≤ f.e i ∧ f.e i < 256
  e12 : 0 ≤ f.e 12 ∧ f.e 12 < 65536
  xr : IpR f.x
  tr : TcpR f.t
  yr : IcR f.y
  zr : IpR f.z
  o1 : f.s1.ok
  o2 : f.s2.ok
  o3 : f.s3.ok
  o4 : f.s4.ok
  o5 : f.s5.ok
  l1 : f.s1.bs.length ≤ 1000000000
  l2 : f.s2.bs.length ≤ 1000000000
  l3 : f.s3.bs.length ≤ 1000000000
  l4 : f.s4.bs.length ≤ 1000000000
  l5 : f.s5.bs.length ≤ 1000000000
/-- What the slices of a frame hold. -/
structure FD.rd (f : FD) (w : World) : Prop where
  d1 : f.s1.rd w
  d2 : f.s2.rd w
  d3 : f.s3.rd w
  d4 : f.s4.rd w
  d5 : f.s5.rd w
/-- A frame in memory. -/
structure FrAt (w : World) (b o : Nat) (f : FD) : Prop where
  c : CF w b o 64 (nth f.cs)
  rd : f.rd w

theorem FrAt.ip {w : World} {b o : Nat} {f : FD} (h : FrAt w b o f) : CF w b (o + 14) 17 (nth (ipL f.x f.s1.v)) := cf_sub (k := 14) h.c (by decide) rfl
theorem FrAt.tcp {w : World} {b o : Nat} {f : FD} (h : FrAt w b o f) : CF w b (o + 31) 10 (nth (tcpL f.t f.s2.v)) := cf_sub (k := 31) h.c (by decide) rfl
theorem FrAt.ic {w : World} {b o : Nat} {f : FD} (h : FrAt w b o f) : CF w b (o + 41) 21 (nth (icL f.y f.z f.s3.v)) := cf_sub (k := 41) h.c (by decide) rfl
theorem FrAt.eth {w : World} {b o : Nat} {f : FD} (h : FrAt w b o f) : CF w b (o + 1) 13 (nth (ethL f.e)) := cf_sub (k := 1) h.c (by decide) rfl

def strayP (f : FD) : Prop :=
  (f.k = 0 ∧ ¬ (zIp f.x f.s1.bs.length ∧ zTcp f.t f.s2.bs.length ∧ zIc f.y f.z f.s3.bs.length ∧ f.s5.bs.length = 0)) ∨ (f.k = 1 ∧ ¬ (zTcp f.t f.s2.bs.length ∧ zIc f.y f.z f.s3.bs.length)) ∨
  (f.k = 2 ∧ ¬ zIc f.y f.z f.s3.bs.length) ∨ ((f.k ≠ 0 ∧ f.k ≠ 1 ∧ f.k ≠ 2) ∧ ¬ zTcp f.t f.s2.bs.length)
def innerP (f : FD) : Prop :=
  (f.k = 1 ∧ opqP f.x f.s4.bs) ∨ (f.k ≠ 1 ∧ ¬ fragP f.x ∧ ((f.k = 2 ∧ f.x 6 = 6 ∧ tcpP f.t f.s2.bs.length) ∨ (f.k ≠ 2 ∧ f.x 6 = 1 ∧ icP f.y f.z f.s3.bs.length f.s4.bs.length)))
def innerN (f : FD) : Nat := if f.k = 2 then 20 + f.s2.bs.length else if f.k = 3 then 28 + f.s3.bs.length else 0
def checkP (f : FD) : Prop :=
  f.k < 4 ∧ ¬ strayP f ∧ ((f.k = 0 ∧ f.e 12 ≠ 2048) ∨ (f.k ≠ 0 ∧ f.e 12 = 2048 ∧ ipP f.x f.s1.bs.length ∧ innerP f ∧ f.x 1 = ((20 + f.s1.bs.length + innerN f + f.s4.bs.length : Nat) : Int)))

set_option maxHeartbeats 4000000 in
theorem stray_ok (b o : Nat) (f : FD) (hf : f.ok) (hr : ∀ its w', S0 w0 (its ++ L) w' → FrAt w' b o f) (st : S0 w0 L w) :
    Calls Tryd.prog 49 #[.pointer (some ⟨b, o, none⟩)] w (Ret fun v w' => BoolIs v (strayP f) ∧ S0 w0 L w') := by
  have hrc := fun its w' q => (hr its w' q).c
  by_cases k0 : f.k = 0
  · by_cases c1 : zIp f.x f.s1.bs.length
    case neg =>
      refine enter [.pointer (some ⟨b, o, none⟩)] Tryd.func49 rfl Tryd.ntmps49 rfl ?_
      show WC _ _ _ 62 [] [(0, .pointer (some ⟨b, o, none⟩))] _
      refine WC.seq fun K511 hK511 => ?_
      -- region 0
      refine WC.region ?_
      -- R0.0 2 := frame.go:81 assign
      refine WL.v (by first | exact r_assign (v := .bool _) rfl | exact r_assign rfl) rfl rfl rfl ?_
      refine WL.fin hK511 (fun _ _ h => h) ?_
      refine WC.seq fun K512 hK512 => ?_
      refine WC.seq fun K513 hK513 => ?_
      -- region 1
      refine WC.region ?_
      -- R1.0 3 := frame.go:82 move
      refine WL.v (by first | exact r_move (v := .pointer _) rfl | exact r_move rfl) rfl rfl rfl ?_
      -- R1.1 4 := frame.go:82 nilCheck
      refine WL.v (by exact r_nilCheck rfl) rfl rfl rfl ?_
      -- R1.2 5 := frame.go:82 fieldAddr
      refine WL.v (by exact r_field ty_fld43_0 rfl) rfl rfl rfl ?_
      -- R1.3 6 := frame.go:82 load
      refine WL.v (by first | exact r_load1 ty_one27 rfl (hrc [] _ st 0 (by decide)) | exact r_load1 ty_one27 rfl (hrc _ _ st 0 (by decide)) | exact r_load1 ty_one27 rfl (hrc [_] _ st 0 (by decide)) | exact r_load1 ty_one27 rfl (hrc [_, _] _ st 0 (by decide)) | exact r_load1 ty_one27 rfl (hrc [_, _, _] _ st 0 (by decide))) rfl rfl rfl ?_
      refine WL.fin hK513 (fun _ _ h => h) ?_
      refine WC.block ?_
      refine WC.seq fun K514 hK514 => ?_
      -- region 2
      refine WC.region ?_
      -- R2.0 8 := frame.go:83 binOp
      refine WL.v (by first | exact r_eql rfl rfl (decide_eq_true (by omega)) | exact r_eql rfl rfl (decide_eq_false (by omega)) | exact r_eql rfl rfl rfl) rfl rfl rfl ?_
      -- R2.1 7 := frame.go:83 assign
      refine WL.v (by first | exact r_assign (v := .bool _) rfl | exact r_assign rfl) rfl rfl rfl ?_
      refine WL.fin hK514 (fun _ _ h => h) ?_
      refine WC.condT rfl rfl ?_
      refine WC.seq fun K515 hK515 => ?_
      -- region 3
      refine WC.region ?_
      -- R3.0 9 := frame.go:84 move
      refine WL.v (by first | exact r_move (v := .pointer _) rfl | exact r_move rfl) rfl rfl rfl ?_
      -- R3.1 10 := frame.go:84 nilCheck
      refine WL.v (by exact r_nilCheck rfl) rfl rfl rfl ?_
      -- R3.2 11 := frame.go:84 fieldAddr
      refine WL.v (by exact r_field ty_fld43_2 rfl) rfl rfl rfl ?_
      -- R3.3 12 := frame.go:84 call
      refine WL.call (r_call ty_call70 rfl) rfl rfl rfl (zIp_ok b (o + 14) f.x f.s1 hf.xr (fun its w' q => (hr its w' q).ip) st) ?_
      rintro fv w ⟨hfv, st⟩
      obtain rfl := hfv.ff c1
      -- R3.4 13 := frame.go:84 unOp
      refine WL.v (by first | exact r_notT rfl | exact r_notF rfl | exact r_not rfl) rfl rfl rfl ?_
      -- R3.5 14 := frame.go:84 move
      refine WL.v (by first | exact r_move (v := .bool _) rfl | exact r_move rfl) rfl rfl rfl ?_
      -- R3.6 15 := frame.go:84 move
      refine WL.no rfl rfl ?_
      -- R3.7 16 := frame.go:84 nilCheck
      refine WL.no rfl rfl ?_
      -- R3.8 17 := frame.go:84 fieldAddr
      refine WL.no rfl rfl ?_
      -- R3.9 18 := frame.go:84 call
      refine WL.no rfl rfl ?_
      -- R3.10 19 := frame.go:84 unOp
      refine WL.no rfl rfl ?_
      -- R3.11 20 := frame.go:84 pick
      refine WL.v (by first | exact r_pickT (v := .bool _) rfl rfl | exact r_pickF (v := .bool _) rfl rfl) rfl rfl rfl ?_
      -- R3.12 21 := frame.go:84 move
      refine WL.v (by first | exact r_move (v := .bool _) rfl | exact r_move rfl) rfl rfl rfl ?_
      -- R3.13 22 := frame.go:84 move
      refine WL.no rfl rfl ?_
      -- R3.14 23 := frame.go:84 nilCheck
      refine WL.no rfl rfl ?_
      -- R3.15 24 := frame.go:84 fieldAddr
      refine WL.no rfl rfl ?_
      -- R3.16 25 := frame.go:84 call
      refine WL.no rfl rfl ?_
      -- R3.17 26 := frame.go:84 unOp
      refine WL.no rfl rfl ?_
      -- R3.18 27 := frame.go:84 pick
      refine WL.v (by first | exact r_pickT (v := .bool _) rfl rfl | exact r_pickF (v := .bool _) rfl rfl) rfl rfl rfl ?_
      -- R3.19 28 := frame.go:84 move
      refine WL.v (by first | exact r_move (v := .bool _) rfl | exact r_move rfl) rfl rfl rfl ?_
      -- R3.20 29 := frame.go:84 move
      refine WL.no rfl rfl ?_
      -- R3.21 30 := frame.go:84 nilCheck
      refine WL.no rfl rfl ?_
      -- R3.22 31 := frame.go:84 fieldAddr
      refine WL.no rfl rfl ?_
      -- R3.23 32 := frame.go:84 load
      refine WL.no rfl rfl ?_
      -- R3.24 33 := frame.go:84 call
      refine WL.no rfl rfl ?_
      -- R3.25 34 := frame.go:84 binOp
      refine WL.no rfl rfl ?_
      -- R3.26 35 := frame.go:84 pick
      refine WL.v (by first | exact r_pickT (v := .bool _) rfl rfl | exact r_pickF (v := .bool _) rfl rfl) rfl rfl rfl ?_
      -- R3.27 2 := frame.go:84 assign
      refine WL.v (by first | exact r_assign (v := .bool _) rfl | exact r_assign rfl) rfl rfl rfl ?_
      refine WL.fin hK515 (fun _ _ h => h) ?_
      refine WC.ret1 Tryd.results49 (fun _ _ h => h) rfl ?_
      exact ⟨_, rfl, .inl ⟨rfl, .inl ⟨k0, fun h => c1 h.1⟩⟩, st⟩
    by_cases c2 : zTcp f.t f.s2.bs.length
    case neg =>
      refine enter [.pointer (some ⟨b, o, none⟩)] Tryd.func49 rfl Tryd.ntmps49 rfl ?_
      show WC _ _ _ 62 [] [(0, .pointer (some ⟨b, o, none⟩))] _
      refine WC.seq fun K516 hK516 => ?_
      -- region 0
      refine WC.region ?_
      -- R0.0 2 := frame.go:81 assign
      refine WL.v (by first | exact r_assign (v := .bool _) rfl | exact r_assign rfl) rfl rfl rfl ?_
      refine WL.fin hK516 (fun _ _ h => h) ?_
      refine WC.seq fun K517 hK517 => ?_
      refine WC.seq fun K518 hK518 => ?_
      -- region 1
      refine WC.region ?_
      -- R1.0 3 := frame.go:82 move
      refine WL.v (by first | exact r_move (v := .pointer _) rfl | exact r_move rfl) rfl rfl rfl ?_
      -- R1.1 4 := frame.go:82 nilCheck
      refine WL.v (by exact r_nilCheck rfl) rfl rfl rfl ?_
      -- R1.2 5 := frame.go:82 fieldAddr
      refine WL.v (by exact r_field ty_fld43_0 rfl) rfl rfl rfl ?_
      -- R1.3 6 := frame.go:82 load
      refine WL.v (by first | exact r_load1 ty_one27 rfl (hrc [] _ st 0 (by decide)) | exact r_load1 ty_one27 rfl (hrc _ _ st 0 (by decide)) | exact r_load1 ty_one27 rfl (hrc [_] _ st 0 (by decide)) | exact r_load1 ty_one27 rfl (hrc [_, _] _ st 0 (by decide)) | exact r_load1 ty_one27 rfl (hrc [_, _, _] _ st 0 (by decide))) rfl rfl rfl ?_
      refine WL.fin hK518 (fun _ _ h => h) ?_
      refine WC.block ?_
      refine WC.seq fun K519 hK519 => ?_
      -- region 2
      refine WC.region ?_
      -- R2.0 8 := frame.go:83 binOp
      refine WL.v (by first | exact r_eql rfl rfl (decide_eq_true (by omega)) | exact r_eql rfl rfl (decide_eq_false (by omega)) | exact r_eql rfl rfl rfl) rfl rfl rfl ?_
      -- R2.1 7 := frame.go:83 assign
      refine WL.v (by first | exact r_assign (v := .bool _) rfl | exact r_assign rfl) rfl rfl rfl ?_
      refine WL.fin hK519 (fun _ _ h => h) ?_
      refine WC.condT rfl rfl ?_
      refine WC.seq fun K520 hK520 => ?_
      -- region 3
      refine WC.region ?_
      -- R3.0 9 := frame.go:84 move
      refine WL.v (by first | exact r_move (v := .pointer _) rfl | exact r_move rfl) rfl rfl rfl ?_
      -- R3.1 10 := frame.go:84 nilCheck
      refine WL.v (by exact r_nilCheck rfl) rfl rfl rfl ?_
      -- R3.2 11 := frame.go:84 fieldAddr
      refine WL.v (by exact r_field ty_fld43_2 rfl) rfl rfl rfl ?_
      -- R3.3 12 := frame.go:84 call
      refine WL.call (r_call ty_call70 rfl) rfl rfl rfl (zIp_ok b (o + 14) f.x f.s1 hf.xr (fun its w' q => (hr its w' q).ip) st) ?_
      rintro fv w ⟨hfv, st⟩
      obtain rfl := hfv.tt c1
      -- R3.4 13 := frame.go:84 unOp
      refine WL.v (by first | exact r_notT rfl | exact r_notF rfl | exact r_not rfl) rfl rfl rfl ?_
      -- R3.5 14 := frame.go:84 move
      refine WL.v (by first | exact r_move (v := .bool _) rfl | exact r_move rfl) rfl rfl rfl ?_
      -- R3.6 15 := frame.go:84 move
      refine WL.v (by first | exact r_move (v := .pointer _) rfl | exact r_move rfl) rfl rfl rfl ?_
      -- R3.7 16 := frame.go:84 nilCheck
      refine WL.v (by exact r_nilCheck rfl) rfl rfl rfl ?_
      -- R3.8 17 := frame.go:84 fieldAddr
      refine WL.v (by exact r_field ty_fld43_3 rfl) rfl rfl rfl ?_
      -- R3.9 18 := frame.go:84 call
      refine WL.call (r_call ty_call71 rfl) rfl rfl rfl (zTcp_ok b (o + 31) f.t f.s2 (fun its w' q => (hr its w' q).tcp) st) ?_
      rintro fv w ⟨hfv, st⟩
      obtain rfl := hfv.ff c2
      -- R3.10 19 := frame.go:84 unOp
      refine WL.v (by first | exact r_notT rfl | exact r_notF rfl | exact r_not rfl) rfl rfl rfl ?_
      -- R3.11 20 := frame.go:84 pick
      refine WL.v (by first | exact r_pickT (v := .bool _) rfl rfl | exact r_pickF (v := .bool _) rfl rfl) rfl rfl rfl ?_
      -- R3.12 21 := frame.go:84 move
      refine WL.v (by first | exact r_move (v := .bool _) rfl | exact r_move rfl) rfl rfl rfl ?_
      -- R3.13 22 := frame.go:84 move
      refine WL.no rfl rfl ?_
      -- R3.14 23 := frame.go:84 nilCheck
      refine WL.no rfl rfl ?_
      -- R3.15 24 := frame.go:84 fieldAddr
      refine WL.no rfl rfl ?_
      -- R3.16 25 := frame.go:84 call
      refine WL.no rfl rfl ?_
      -- R3.17 26 := frame.go:84 unOp
      refine WL.no rfl rfl ?_
      -- R3.18 27 := frame.go:84 pick
      refine WL.v (by first | exact r_pickT (v := .bool _) rfl rfl | exact r_pickF (v := .bool _) rfl rfl) rfl rfl rfl ?_
      -- R3.19 28 := frame.go:84 move
      refine WL.v (by first | exact r_move (v := .bool _) rfl | exact r_move rfl) rfl rfl rfl ?_
      -- R3.20 29 := frame.go:84 move
      refine WL.no rfl rfl ?_
      -- R3.21 30 := frame.go:84 nilCheck
      refine WL.no rfl rfl ?_
      -- R3.22 31 := frame.go:84 fieldAddr
      refine WL.no rfl rfl ?_
      -- R3.23 32 := frame.go:84 load
      refine WL.no rfl rfl ?_
      -- R3.24 33 := frame.go:84 call
      refine WL.no rfl rfl ?_
      -- R3.25 34 := frame.go:84 binOp
      refine WL.no rfl rfl ?_
      -- R3.26 35 := frame.go:84 pick
      refine WL.v (by first | exact r_pickT (v := .bool _) rfl rfl | exact r_pickF (v := .bool _) rfl rfl) rfl rfl rfl ?_
      -- R3.27 2 := frame.go:84 assign
      refine WL.v (by first | exact r_assign (v := .bool _) rfl | exact r_assign rfl) rfl rfl rfl ?_
      refine WL.fin hK520 (fun _ _ h => h) ?_
      refine WC.ret1 Tryd.results49 (fun _ _ h => h) rfl ?_
      exact ⟨_, rfl, .inl ⟨rfl, .inl ⟨k0, fun h => c2 h.2.1⟩⟩, st⟩
    by_cases c3 : zIc f.y f.z f.s3.bs.length
    case neg =>
      refine enter [.pointer (some ⟨b, o, none⟩)] Tryd.func49 rfl Tryd.ntmps49 rfl ?_
      show WC _ _ _ 62 [] [(0, .pointer (some ⟨b, o, none⟩))] _
      refine WC.seq fun K521 hK521 => ?_
      -- region 0
      refine WC.region ?_
      -- R0.0 2 := frame.go:81 assign
      refine WL.v (by first | exact r_assign (v := .bool _) rfl | exact r_assign rfl) rfl rfl rfl ?_
      refine WL.fin hK521 (fun _ _ h => h) ?_
      refine WC.seq fun K522 hK522 => ?_
      refine WC.seq fun K523 hK523 => ?_
      -- region 1
      refine WC.region ?_
      -- R1.0 3 := frame.go:82 move
      refine WL.v (by first | exact r_move (v := .pointer _) rfl | exact r_move rfl) rfl rfl rfl ?_
      -- R1.1 4 := frame.go:82 nilCheck
      refine WL.v (by exact r_nilCheck rfl) rfl rfl rfl ?_
      -- R1.2 5 := frame.go:82 fieldAddr
      refine WL.v (by exact r_field ty_fld43_0 rfl) rfl rfl rfl ?_
      -- R1.3 6 := frame.go:82 load
      refine WL.v (by first | exact r_load1 ty_one27 rfl (hrc [] _ st 0 (by decide)) | exact r_load1 ty_one27 rfl (hrc _ _ st 0 (by decide)) | exact r_load1 ty_one27 rfl (hrc [_] _ st 0 (by decide)) | exact r_load1 ty_one27 rfl (hrc [_, _] _ st 0 (by decide)) | exact r_load1 ty_one27 rfl (hrc [_, _, _] _ st 0 (by decide))) rfl rfl rfl ?_
      refine WL.fin hK523 (fun _ _ h => h) ?_
      refine WC.block ?_
      refine WC.seq fun K524 hK524 => ?_
      -- region 2
      refine WC.region ?_
      -- R2.0 8 := frame.go:83 binOp
      refine WL.v (by first | exact r_eql rfl rfl (decide_eq_true (by omega)) | exact r_eql rfl rfl (decide_eq_false (by omega)) | exact r_eql rfl rfl rfl) rfl rfl rfl ?_
      -- R2.1 7 := frame.go:83 assign
      refine WL.v (by first | exact r_assign (v := .bool _) rfl | exact r_assign rfl) rfl rfl rfl ?_
      refine WL.fin hK524 (fun _ _ h => h) ?_
      refine WC.condT rfl rfl ?_
      refine WC.seq fun K525 hK525 => ?_
      -- region 3
      refine WC.region ?_
      -- R3.0 9 := frame.go:84 move
      refine WL.v (by first | exact r_move (v := .pointer _) rfl | exact r_move rfl) rfl rfl rfl ?_
      -- R3.1 10 := frame.go:84 nilCheck
      refine WL.v (by exact r_nilCheck rfl) rfl rfl rfl ?_
      -- R3.2 11 := frame.go:84 fieldAddr
      refine WL.v (by exact r_field ty_fld43_2 rfl) rfl rfl rfl ?_
      -- R3.3 12 := frame.go:84 call
      refine WL.call (r_call ty_call70 rfl) rfl rfl rfl (zIp_ok b (o + 14) f.x f.s1 hf.xr (fun its w' q => (hr its w' q).ip) st) ?_
      rintro fv w ⟨hfv, st⟩
      obtain rfl := hfv.tt c1
      -- R3.4 13 := frame.go:84 unOp
      refine WL.v (by first | exact r_notT rfl | exact r_notF rfl | exact r_not rfl) rfl rfl rfl ?_
      -- R3.5 14 := frame.go:84 move
      refine WL.v (by first | exact r_move (v := .bool _) rfl | exact r_move rfl) rfl rfl rfl ?_
      -- R3.6 15 := frame.go:84 move
      refine WL.v (by first | exact r_move (v := .pointer _) rfl | exact r_move rfl) rfl rfl rfl ?_
      -- R3.7 16 := frame.go:84 nilCheck
      refine WL.v (by exact r_nilCheck rfl) rfl rfl rfl ?_
      -- R3.8 17 := frame.go:84 fieldAddr
      refine WL.v (by exact r_field ty_fld43_3 rfl) rfl rfl rfl ?_
      -- R3.9 18 := frame.go:84 call
      refine WL.call (r_call ty_call71 rfl) rfl rfl rfl (zTcp_ok b (o + 31) f.t f.s2 (fun its w' q => (hr its w' q).tcp) st) ?_
      rintro fv w ⟨hfv, st⟩
      obtain rfl := hfv.tt c2
      -- R3.10 19 := frame.go:84 unOp
      refine WL.v (by first | exact r_notT rfl | exact r_notF rfl | exact r_not rfl) rfl rfl rfl ?_
      -- R3.11 20 := frame.go:84 pick
      refine WL.v (by first | exact r_pickT (v := .bool _) rfl rfl | exact r_pickF (v := .bool _) rfl rfl) rfl rfl rfl ?_
      -- R3.12 21 := frame.go:84 move
      refine WL.v (by first | exact r_move (v := .bool _) rfl | exact r_move rfl) rfl rfl rfl ?_
      -- R3.13 22 := frame.go:84 move
      refine WL.v (by first | exact r_move (v := .pointer _) rfl | exact r_move rfl) rfl rfl rfl ?_
      -- R3.14 23 := frame.go:84 nilCheck
      refine WL.v (by exact r_nilCheck rfl) rfl rfl rfl ?_
      -- R3.15 24 := frame.go:84 fieldAddr
      refine WL.v (by exact r_field ty_fld43_4 rfl) rfl rfl rfl ?_
      -- R3.16 25 := frame.go:84 call
      refine WL.call (r_call ty_call72 rfl) rfl rfl rfl (zIc_ok b (o + 41) f.y f.z f.s3 hf.zr (fun its w' q => (hr its w' q).ic) st) ?_
      rintro fv w ⟨hfv, st⟩
      obtain rfl := hfv.ff c3
      -- R3.17 26 := frame.go:84 unOp
      refine WL.v (by first | exact r_notT rfl | exact r_notF rfl | exact r_not rfl) rfl rfl rfl ?_
      -- R3.18 27 := frame.go:84 pick
      refine WL.v (by first | exact r_pickT (v := .bool _) rfl rfl | exact r_pickF (v := .bool _) rfl rfl) rfl rfl rfl ?_
      -- R3.19 28 := frame.go:84 move
      refine WL.v (by first | exact r_move (v := .bool _) rfl | exact r_move rfl) rfl rfl rfl ?_
      -- R3.20 29 := frame.go:84 move
      refine WL.no rfl rfl ?_
      -- R3.21 30 := frame.go:84 nilCheck
      refine WL.no rfl rfl ?_
      -- R3.22 31 := frame.go:84 fieldAddr
      refine WL.no rfl rfl ?_
      -- R3.23 32 := frame.go:84 load
      refine WL.no rfl rfl ?_
      -- R3.24 33 := frame.go:84 call
      refine WL.no rfl rfl ?_
      -- R3.25 34 := frame.go:84 binOp
      refine WL.no rfl rfl ?_
      -- R3.26 35 := frame.go:84 pick
      refine WL.v (by first | exact r_pickT (v := .bool _) rfl rfl | exact r_pickF (v := .bool _) rfl rfl) rfl rfl rfl ?_
      -- R3.27 2 := frame.go:84 assign
      refine WL.v (by first | exact r_assign (v := .bool _) rfl | exact r_assign rfl) rfl rfl rfl ?_
      refine WL.fin hK525 (fun _ _ h => h) ?_
      refine WC.ret1 Tryd.results49 (fun _ _ h => h) rfl ?_
      exact ⟨_, rfl, .inl ⟨rfl, .inl ⟨k0, fun h => c3 h.2.2.1⟩⟩, st⟩
    by_cases c4 : f.s5.bs.length = 0
    case neg =>
      refine enter [.pointer (some ⟨b, o, none⟩)] Tryd.func49 rfl Tryd.ntmps49 rfl ?_
      show WC _ _ _ 62 [] [(0, .pointer (some ⟨b, o, none⟩))] _
      refine WC.seq fun K526 hK526 => ?_
      -- region 0
      refine WC.region ?_
      -- R0.0 2 := frame.go:81 assign
      refine WL.v (by first | exact r_assign (v := .bool _) rfl | exact r_assign rfl) rfl rfl rfl ?_
      refine WL.fin hK526 (fun _ _ h => h) ?_
      refine WC.seq fun K527 hK527 => ?_
      refine WC.seq fun K528 hK528 => ?_
      -- region 1
      refine WC.region ?_
      -- R1.0 3 := frame.go:82 move
      refine WL.v (by first | exact r_move (v := .pointer _) rfl | exact r_move rfl) rfl rfl rfl ?_
      -- R1.1 4 := frame.go:82 nilCheck
      refine WL.v (by exact r_nilCheck rfl) rfl rfl rfl ?_
      -- R1.2 5 := frame.go:82 fieldAddr
      refine WL.v (by exact r_field ty_fld43_0 rfl) rfl rfl rfl ?_
      -- R1.3 6 := frame.go:82 load
      refine WL.v (by first | exact r_load1 ty_one27 rfl (hrc [] _ st 0 (by decide)) | exact r_load1 ty_one27 rfl (hrc _ _ st 0 (by decide)) | exact r_load1 ty_one27 rfl (hrc [_] _ st 0 (by decide)) | exact r_load1 ty_one27 rfl (hrc [_, _] _ st 0 (by decide)) | exact r_load1 ty_one27 rfl (hrc [_, _, _] _ st 0 (by decide))) rfl rfl rfl ?_
      refine WL.fin hK528 (fun _ _ h => h) ?_
      refine WC.block ?_
      refine WC.seq fun K529 hK529 => ?_
      -- region 2
      refine WC.region ?_
      -- R2.0 8 := frame.go:83 binOp
      refine WL.v (by first | exact r_eql rfl rfl (decide_eq_true (by omega)) | exact r_eql rfl rfl (decide_eq_false (by omega)) | exact r_eql rfl rfl rfl) rfl rfl rfl ?_
      -- R2.1 7 := frame.go:83 assign
      refine WL.v (by first | exact r_assign (v := .bool _) rfl | exact r_assign rfl) rfl rfl rfl ?_
      refine WL.fin hK529 (fun _ _ h => h) ?_
      refine WC.condT rfl rfl ?_
      refine WC.seq fun K530 hK530 => ?_
      -- region 3
      refine WC.region ?_
      -- R3.0 9 := frame.go:84 move
      refine WL.v (by first | exact r_move (v := .pointer _) rfl | exact r_move rfl) rfl rfl rfl ?_
      -- R3.1 10 := frame.go:84 nilCheck
      refine WL.v (by exact r_nilCheck rfl) rfl rfl rfl ?_
      -- R3.2 11 := frame.go:84 fieldAddr
      refine WL.v (by exact r_field ty_fld43_2 rfl) rfl rfl rfl ?_
      -- R3.3 12 := frame.go:84 call
      refine WL.call (r_call ty_call70 rfl) rfl rfl rfl (zIp_ok b (o + 14) f.x f.s1 hf.xr (fun its w' q => (hr its w' q).ip) st) ?_
      rintro fv w ⟨hfv, st⟩
      obtain rfl := hfv.tt c1
      -- R3.4 13 := frame.go:84 unOp
      refine WL.v (by first | exact r_notT rfl | exact r_notF rfl | exact r_not rfl) rfl rfl rfl ?_
      -- R3.5 14 := frame.go:84 move
      refine WL.v (by first | exact r_move (v := .bool _) rfl | exact r_move rfl) rfl rfl rfl ?_
      -- R3.6 15 := frame.go:84 move
      refine WL.v (by first | exact r_move (v := .pointer _) rfl | exact r_move rfl) rfl rfl rfl ?_
      -- R3.7 16 := frame.go:84 nilCheck
      refine WL.v (by exact r_nilCheck rfl) rfl rfl rfl ?_
      -- R3.8 17 := frame.go:84 fieldAddr
      refine WL.v (by exact r_field ty_fld43_3 rfl) rfl rfl rfl ?_
      -- R3.9 18 := frame.go:84 call
      refine WL.call (r_call ty_call71 rfl) rfl rfl rfl (zTcp_ok b (o + 31) f.t f.s2 (fun its w' q => (hr its w' q).tcp) st) ?_
      rintro fv w ⟨hfv, st⟩
      obtain rfl := hfv.tt c2
      -- R3.10 19 := frame.go:84 unOp
      refine WL.v (by first | exact r_notT rfl | exact r_notF rfl | exact r_not rfl) rfl rfl rfl ?_
      -- R3.11 20 := frame.go:84 pick
      refine WL.v (by first | exact r_pickT (v := .bool _) rfl rfl | exact r_pickF (v := .bool _) rfl rfl) rfl rfl rfl ?_
      -- R3.12 21 := frame.go:84 move
      refine WL.v (by first | exact r_move (v := .bool _) rfl | exact r_move rfl) rfl rfl rfl ?_
      -- R3.13 22 := frame.go:84 move
      refine WL.v (by first | exact r_move (v := .pointer _) rfl | exact r_move rfl) rfl rfl rfl ?_
      -- R3.14 23 := frame.go:84 nilCheck
      refine WL.v (by exact r_nilCheck rfl) rfl rfl rfl ?_
      -- R3.15 24 := frame.go:84 fieldAddr
      refine WL.v (by exact r_field ty_fld43_4 rfl) rfl rfl rfl ?_
      -- R3.16 25 := frame.go:84 call
      refine WL.call (r_call ty_call72 rfl) rfl rfl rfl (zIc_ok b (o + 41) f.y f.z f.s3 hf.zr (fun its w' q => (hr its w' q).ic) st) ?_
      rintro fv w ⟨hfv, st⟩
      obtain rfl := hfv.tt c3
      -- R3.17 26 := frame.go:84 unOp
      refine WL.v (by first | exact r_notT rfl | exact r_notF rfl | exact r_not rfl) rfl rfl rfl ?_
      -- R3.18 27 := frame.go:84 pick
      refine WL.v (by first | exact r_pickT (v := .bool _) rfl rfl | exact r_pickF (v := .bool _) rfl rfl) rfl rfl rfl ?_
      -- R3.19 28 := frame.go:84 move
      refine WL.v (by first | exact r_move (v := .bool _) rfl | exact r_move rfl) rfl rfl rfl ?_
      -- R3.20 29 := frame.go:84 move
      refine WL.v (by first | exact r_move (v := .pointer _) rfl | exact r_move rfl) rfl rfl rfl ?_
      -- R3.21 30 := frame.go:84 nilCheck
      refine WL.v (by exact r_nilCheck rfl) rfl rfl rfl ?_
      -- R3.22 31 := frame.go:84 fieldAddr
      refine WL.v (by exact r_field ty_fld43_6 rfl) rfl rfl rfl ?_
      -- R3.23 32 := frame.go:84 load
      refine WL.v (by first | exact r_load1 ty_one25 rfl (hrc [] _ st 63 (by decide)) | exact r_load1 ty_one25 rfl (hrc _ _ st 63 (by decide)) | exact r_load1 ty_one25 rfl (hrc [_] _ st 63 (by decide)) | exact r_load1 ty_one25 rfl (hrc [_, _] _ st 63 (by decide)) | exact r_load1 ty_one25 rfl (hrc [_, _, _] _ st 63 (by decide))) rfl rfl rfl ?_
      -- R3.24 33 := frame.go:84 call
      refine WL.v (by exact r_len ty_usl25 rfl) rfl rfl rfl ?_
      -- R3.25 34 := frame.go:84 binOp
      refine WL.v (by first | exact r_neq rfl rfl (decide_eq_true (by omega)) | exact r_neq rfl rfl (decide_eq_false (by omega)) | exact r_neq rfl rfl rfl) rfl rfl rfl ?_
      -- R3.26 35 := frame.go:84 pick
      refine WL.v (by first | exact r_pickT (v := .bool _) rfl rfl | exact r_pickF (v := .bool _) rfl rfl) rfl rfl rfl ?_
      -- R3.27 2 := frame.go:84 assign
      refine WL.v (by first | exact r_assign (v := .bool _) rfl | exact r_assign rfl) rfl rfl rfl ?_
      refine WL.fin hK530 (fun _ _ h => h) ?_
      refine WC.ret1 Tryd.results49 (fun _ _ h => h) rfl ?_
      exact ⟨_, rfl, .inl ⟨rfl, .inl ⟨k0, fun h => c4 h.2.2.2⟩⟩, st⟩
    refine enter [.pointer (some ⟨b, o, none⟩)] Tryd.func49 rfl Tryd.ntmps49 rfl ?_
    show WC _ _ _ 62 [] [(0, .pointer (some ⟨b, o, none⟩))] _
    refine WC.seq fun K531 hK531 => ?_
    -- region 0
    refine WC.region ?_
    -- R0.0 2 := frame.go:81 assign
    refine WL.v (by first | exact r_assign (v := .bool _) rfl | exact r_assign rfl) rfl rfl rfl ?_
    refine WL.fin hK531 (fun _ _ h => h) ?_
    refine WC.seq fun K532 hK532 => ?_
    refine WC.seq fun K533 hK533 => ?_
    -- region 1
    refine WC.region ?_
    -- R1.0 3 := frame.go:82 move
    refine WL.v (by first | exact r_move (v := .pointer _) rfl | exact r_move rfl) rfl rfl rfl ?_
    -- R1.1 4 := frame.go:82 nilCheck
    refine WL.v (by exact r_nilCheck rfl) rfl rfl rfl ?_
    -- R1.2 5 := frame.go:82 fieldAddr
    refine WL.v (by exact r_field ty_fld43_0 rfl) rfl rfl rfl ?_
    -- R1.3 6 := frame.go:82 load
    refine WL.v (by first | exact r_load1 ty_one27 rfl (hrc [] _ st 0 (by decide)) | exact r_load1 ty_one27 rfl (hrc _ _ st 0 (by decide)) | exact r_load1 ty_one27 rfl (hrc [_] _ st 0 (by decide)) | exact r_load1 ty_one27 rfl (hrc [_, _] _ st 0 (by decide)) | exact r_load1 ty_one27 rfl (hrc [_, _, _] _ st 0 (by decide))) rfl rfl rfl ?_
    refine WL.fin hK533 (fun _ _ h => h) ?_
    refine WC.block ?_
    refine WC.seq fun K534 hK534 => ?_
    -- region 2
    refine WC.region ?_
    -- R2.0 8 := frame.go:83 binOp
    refine WL.v (by first | exact r_eql rfl rfl (decide_eq_true (by omega)) | exact r_eql rfl rfl (decide_eq_false (by omega)) | exact r_eql rfl rfl rfl) rfl rfl rfl ?_
    -- R2.1 7 := frame.go:83 assign
    refine WL.v (by first | exact r_assign (v := .bool _) rfl | exact r_assign rfl) rfl rfl rfl ?_
    refine WL.fin hK534 (fun _ _ h => h) ?_
    refine WC.condT rfl rfl ?_
    refine WC.seq fun K535 hK535 => ?_
    -- region 3
    refine WC.region ?_
    -- R3.0 9 := frame.go:84 move
    refine WL.v (by first | exact r_move (v := .pointer _) rfl | exact r_move rfl) rfl rfl rfl ?_
    -- R3.1 10 := frame.go:84 nilCheck
    refine WL.v (by exact r_nilCheck rfl) rfl rfl rfl ?_
    -- R3.2 11 := frame.go:84 fieldAddr
    refine WL.v (by exact r_field ty_fld43_2 rfl) rfl rfl rfl ?_
    -- R3.3 12 := frame.go:84 call
    refine WL.call (r_call ty_call70 rfl) rfl rfl rfl (zIp_ok b (o + 14) f.x f.s1 hf.xr (fun its w' q => (hr its w' q).ip) st) ?_
    rintro fv w ⟨hfv, st⟩
    obtain rfl := hfv.tt c1
    -- R3.4 13 := frame.go:84 unOp
    refine WL.v (by first | exact r_notT rfl | exact r_notF rfl | exact r_not rfl) rfl rfl rfl ?_
    -- R3.5 14 := frame.go:84 move
    refine WL.v (by first | exact r_move (v := .bool _) rfl | exact r_move rfl) rfl rfl rfl ?_
    -- R3.6 15 := frame.go:84 move
    refine WL.v (by first | exact r_move (v := .pointer _) rfl | exact r_move rfl) rfl rfl rfl ?_
    -- R3.7 16 := frame.go:84 nilCheck
    refine WL.v (by exact r_nilCheck rfl) rfl rfl rfl ?_
    -- R3.8 17 := frame.go:84 fieldAddr
    refine WL.v (by exact r_field ty_fld43_3 rfl) rfl rfl rfl ?_
    -- R3.9 18 := frame.go:84 call
    refine WL.call (r_call ty_call71 rfl) rfl rfl rfl (zTcp_ok b (o + 31) f.t f.s2 (fun its w' q => (hr its w' q).tcp) st) ?_
    rintro fv w ⟨hfv, st⟩
    obtain rfl := hfv.tt c2
    -- R3.10 19 := frame.go:84 unOp
    refine WL.v (by first | exact r_notT rfl | exact r_notF rfl | exact r_not rfl) rfl rfl rfl ?_
    -- R3.11 20 := frame.go:84 pick
    refine WL.v (by first | exact r_pickT (v := .bool _) rfl rfl | exact r_pickF (v := .bool _) rfl rfl) rfl rfl rfl ?_
    -- R3.12 21 := frame.go:84 move
    refine WL.v (by first | exact r_move (v := .bool _) rfl | exact r_move rfl) rfl rfl rfl ?_
    -- R3.13 22 := frame.go:84 move
    refine WL.v (by first | exact r_move (v := .pointer _) rfl | exact r_move rfl) rfl rfl rfl ?_
    -- R3.14 23 := frame.go:84 nilCheck
    refine WL.v (by exact r_nilCheck rfl) rfl rfl rfl ?_
    -- R3.15 24 := frame.go:84 fieldAddr
    refine WL.v (by exact r_field ty_fld43_4 rfl) rfl rfl rfl ?_
    -- R3.16 25 := frame.go:84 call
    refine WL.call (r_call ty_call72 rfl) rfl rfl rfl (zIc_ok b (o + 41) f.y f.z f.s3 hf.zr (fun its w' q => (hr its w' q).ic) st) ?_
    rintro fv w ⟨hfv, st⟩
    obtain rfl := hfv.tt c3
    -- R3.17 26 := frame.go:84 unOp
    refine WL.v (by first | exact r_notT rfl | exact r_notF rfl | exact r_not rfl) rfl rfl rfl ?_
    -- R3.18 27 := frame.go:84 pick
    refine WL.v (by first | exact r_pickT (v := .bool _) rfl rfl | exact r_pickF (v := .bool _) rfl rfl) rfl rfl rfl ?_
    -- R3.19 28 := frame.go:84 move
    refine WL.v (by first | exact r_move (v := .bool _) rfl | exact r_move rfl) rfl rfl rfl ?_
    -- R3.20 29 := frame.go:84 move
    refine WL.v (by first | exact r_move (v := .pointer _) rfl | exact r_move rfl) rfl rfl rfl ?_
    -- R3.21 30 := frame.go:84 nilCheck
    refine WL.v (by exact r_nilCheck rfl) rfl rfl rfl ?_
    -- R3.22 31 := frame.go:84 fieldAddr
    refine WL.v (by exact r_field ty_fld43_6 rfl) rfl rfl rfl ?_
    -- R3.23 32 := frame.go:84 load
    refine WL.v (by first | exact r_load1 ty_one25 rfl (hrc [] _ st 63 (by decide)) | exact r_load1 ty_one25 rfl (hrc _ _ st 63 (by decide)) | exact r_load1 ty_one25 rfl (hrc [_] _ st 63 (by decide)) | exact r_load1 ty_one25 rfl (hrc [_, _] _ st 63 (by decide)) | exact r_load1 ty_one25 rfl (hrc [_, _, _] _ st 63 (by decide))) rfl rfl rfl ?_
    -- R3.24 33 := frame.go:84 call
    refine WL.v (by exact r_len ty_usl25 rfl) rfl rfl rfl ?_
    -- R3.25 34 := frame.go:84 binOp
    refine WL.v (by first | exact r_neq rfl rfl (decide_eq_true (by omega)) | exact r_neq rfl rfl (decide_eq_false (by omega)) | exact r_neq rfl rfl rfl) rfl rfl rfl ?_
    -- R3.26 35 := frame.go:84 pick
    refine WL.v (by first | exact r_pickT (v := .bool _) rfl rfl | exact r_pickF (v := .bool _) rfl rfl) rfl rfl rfl ?_
    -- R3.27 2 := frame.go:84 assign
    refine WL.v (by first | exact r_assign (v := .bool _) rfl | exact r_assign rfl) rfl rfl rfl ?_
    refine WL.fin hK535 (fun _ _ h => h) ?_
    refine WC.ret1 Tryd.results49 (fun _ _ h => h) rfl ?_
    refine ⟨_, rfl, .inr ⟨rfl, fun h => ?_⟩, st⟩
    rcases h with h | h | h | h
    · exact h.2 ⟨c1, c2, c3, c4⟩
    · omega
    · omega
    · omega
  by_cases k1 : f.k = 1
  · by_cases c2 : zTcp f.t f.s2.bs.length
    case neg =>
      refine enter [.pointer (some ⟨b, o, none⟩)] Tryd.func49 rfl Tryd.ntmps49 rfl ?_
      show WC _ _ _ 62 [] [(0, .pointer (some ⟨b, o, none⟩))] _
      refine WC.seq fun K536 hK536 => ?_
      -- region 0
      refine WC.region ?_
      -- R0.0 2 := frame.go:81 assign
      refine WL.v (by first | exact r_assign (v := .bool _) rfl | exact r_assign rfl) rfl rfl rfl ?_
      refine WL.fin hK536 (fun _ _ h => h) ?_
      refine WC.seq fun K537 hK537 => ?_
      refine WC.seq fun K538 hK538 => ?_
      -- region 1
      refine WC.region ?_
      -- R1.0 3 := frame.go:82 move
      refine WL.v (by first | exact r_move (v := .pointer _) rfl | exact r_move rfl) rfl rfl rfl ?_
      -- R1.1 4 := frame.go:82 nilCheck
      refine WL.v (by exact r_nilCheck rfl) rfl rfl rfl ?_
      -- R1.2 5 := frame.go:82 fieldAddr
      refine WL.v (by exact r_field ty_fld43_0 rfl) rfl rfl rfl ?_
      -- R1.3 6 := frame.go:82 load
      refine WL.v (by first | exact r_load1 ty_one27 rfl (hrc [] _ st 0 (by decide)) | exact r_load1 ty_one27 rfl (hrc _ _ st 0 (by decide)) | exact r_load1 ty_one27 rfl (hrc [_] _ st 0 (by decide)) | exact r_load1 ty_one27 rfl (hrc [_, _] _ st 0 (by decide)) | exact r_load1 ty_one27 rfl (hrc [_, _, _] _ st 0 (by decide))) rfl rfl rfl ?_
      refine WL.fin hK538 (fun _ _ h => h) ?_
      refine WC.block ?_
      refine WC.seq fun K539 hK539 => ?_
      -- region 2
      refine WC.region ?_
      -- R2.0 8 := frame.go:83 binOp
      refine WL.v (by first | exact r_eql rfl rfl (decide_eq_true (by omega)) | exact r_eql rfl rfl (decide_eq_false (by omega)) | exact r_eql rfl rfl rfl) rfl rfl rfl ?_
      -- R2.1 7 := frame.go:83 assign
      refine WL.v (by first | exact r_assign (v := .bool _) rfl | exact r_assign rfl) rfl rfl rfl ?_
      refine WL.fin hK539 (fun _ _ h => h) ?_
      refine WC.condF rfl rfl ?_
      refine WC.seq fun K540 hK540 => ?_
      -- region 4
      refine WC.region ?_
      -- R4.0 37 := frame.go:85 binOp
      refine WL.v (by first | exact r_eql rfl rfl (decide_eq_true (by omega)) | exact r_eql rfl rfl (decide_eq_false (by omega)) | exact r_eql rfl rfl rfl) rfl rfl rfl ?_
      -- R4.1 36 := frame.go:85 assign
      refine WL.v (by first | exact r_assign (v := .bool _) rfl | exact r_assign rfl) rfl rfl rfl ?_
      refine WL.fin hK540 (fun _ _ h => h) ?_
      refine WC.condT rfl rfl ?_
      refine WC.seq fun K541 hK541 => ?_
      -- region 5
      refine WC.region ?_
      -- R5.0 38 := frame.go:86 move
      refine WL.v (by first | exact r_move (v := .pointer _) rfl | exact r_move rfl) rfl rfl rfl ?_
      -- R5.1 39 := frame.go:86 nilCheck
      refine WL.v (by exact r_nilCheck rfl) rfl rfl rfl ?_
      -- R5.2 40 := frame.go:86 fieldAddr
      refine WL.v (by exact r_field ty_fld43_3 rfl) rfl rfl rfl ?_
      -- R5.3 41 := frame.go:86 call
      refine WL.call (r_call ty_call71 rfl) rfl rfl rfl (zTcp_ok b (o + 31) f.t f.s2 (fun its w' q => (hr its w' q).tcp) st) ?_
      rintro fv w ⟨hfv, st⟩
      obtain rfl := hfv.ff c2
      -- R5.4 42 := frame.go:86 unOp
      refine WL.v (by first | exact r_notT rfl | exact r_notF rfl | exact r_not rfl) rfl rfl rfl ?_
      -- R5.5 43 := frame.go:86 move
      refine WL.v (by first | exact r_move (v := .bool _) rfl | exact r_move rfl) rfl rfl rfl ?_
      -- R5.6 44 := frame.go:86 move
      refine WL.no rfl rfl ?_
      -- R5.7 45 := frame.go:86 nilCheck
      refine WL.no rfl rfl ?_
      -- R5.8 46 := frame.go:86 fieldAddr
      refine WL.no rfl rfl ?_
      -- R5.9 47 := frame.go:86 call
      refine WL.no rfl rfl ?_
      -- R5.10 48 := frame.go:86 unOp
      refine WL.no rfl rfl ?_
      -- R5.11 49 := frame.go:86 pick
      refine WL.v (by first | exact r_pickT (v := .bool _) rfl rfl | exact r_pickF (v := .bool _) rfl rfl) rfl rfl rfl ?_
      -- R5.12 2 := frame.go:86 assign
      refine WL.v (by first | exact r_assign (v := .bool _) rfl | exact r_assign rfl) rfl rfl rfl ?_
      refine WL.fin hK541 (fun _ _ h => h) ?_
      refine WC.ret1 Tryd.results49 (fun _ _ h => h) rfl ?_
      exact ⟨_, rfl, .inl ⟨rfl, .inr (.inl ⟨k1, fun h => c2 h.1⟩)⟩, st⟩
    by_cases c3 : zIc f.y f.z f.s3.bs.length
    case neg =>
      refine enter [.pointer (some ⟨b, o, none⟩)] Tryd.func49 rfl Tryd.ntmps49 rfl ?_
      show WC _ _ _ 62 [] [(0, .pointer (some ⟨b, o, none⟩))] _
      refine WC.seq fun K542 hK542 => ?_
      -- region 0
      refine WC.region ?_
      -- R0.0 2 := frame.go:81 assign
      refine WL.v (by first | exact r_assign (v := .bool _) rfl | exact r_assign rfl) rfl rfl rfl ?_
      refine WL.fin hK542 (fun _ _ h => h) ?_
      refine WC.seq fun K543 hK543 => ?_
      refine WC.seq fun K544 hK544 => ?_
      -- region 1
      refine WC.region ?_
      -- R1.0 3 := frame.go:82 move
      refine WL.v (by first | exact r_move (v := .pointer _) rfl | exact r_move rfl) rfl rfl rfl ?_
      -- R1.1 4 := frame.go:82 nilCheck
      refine WL.v (by exact r_nilCheck rfl) rfl rfl rfl ?_
      -- R1.2 5 := frame.go:82 fieldAddr
      refine WL.v (by exact r_field ty_fld43_0 rfl) rfl rfl rfl ?_
      -- R1.3 6 := frame.go:82 load
      refine WL.v (by first | exact r_load1 ty_one27 rfl (hrc [] _ st 0 (by decide)) | exact r_load1 ty_one27 rfl (hrc _ _ st 0 (by decide)) | exact r_load1 ty_one27 rfl (hrc [_] _ st 0 (by decide)) | exact r_load1 ty_one27 rfl (hrc [_, _] _ st 0 (by decide)) | exact r_load1 ty_one27 rfl (hrc [_, _, _] _ st 0 (by decide))) rfl rfl rfl ?_
      refine WL.fin hK544 (fun _ _ h => h) ?_
      refine WC.block ?_
      refine WC.seq fun K545 hK545 => ?_
      -- region 2
      refine WC.region ?_
      -- R2.0 8 := frame.go:83 binOp
      refine WL.v (by first | exact r_eql rfl rfl (decide_eq_true (by omega)) | exact r_eql rfl rfl (decide_eq_false (by omega)) | exact r_eql rfl rfl rfl) rfl rfl rfl ?_
      -- R2.1 7 := frame.go:83 assign
      refine WL.v (by first | exact r_assign (v := .bool _) rfl | exact r_assign rfl) rfl rfl rfl ?_
      refine WL.fin hK545 (fun _ _ h => h) ?_
      refine WC.condF rfl rfl ?_
      refine WC.seq fun K546 hK546 => ?_
      -- region 4
      refine WC.region ?_
      -- R4.0 37 := frame.go:85 binOp
      refine WL.v (by first | exact r_eql rfl rfl (decide_eq_true (by omega)) | exact r_eql rfl rfl (decide_eq_false (by omega)) | exact r_eql rfl rfl rfl) rfl rfl rfl ?_
      -- R4.1 36 := frame.go:85 assign
      refine WL.v (by first | exact r_assign (v := .bool _) rfl | exact r_assign rfl) rfl rfl rfl ?_
      refine WL.fin hK546 (fun _ _ h => h) ?_
      refine WC.condT rfl rfl ?_
      refine WC.seq fun K547 hK547 => ?_
      -- region 5
      refine WC.region ?_
      -- R5.0 38 := frame.go:86 move
      refine WL.v (by first | exact r_move (v := .pointer _) rfl | exact r_move rfl) rfl rfl rfl ?_
      -- R5.1 39 := frame.go:86 nilCheck
      refine WL.v (by exact r_nilCheck rfl) rfl rfl rfl ?_
      -- R5.2 40 := frame.go:86 fieldAddr
      refine WL.v (by exact r_field ty_fld43_3 rfl) rfl rfl rfl ?_
      -- R5.3 41 := frame.go:86 call
      refine WL.call (r_call ty_call71 rfl) rfl rfl rfl (zTcp_ok b (o + 31) f.t f.s2 (fun its w' q => (hr its w' q).tcp) st) ?_
      rintro fv w ⟨hfv, st⟩
      obtain rfl := hfv.tt c2
      -- R5.4 42 := frame.go:86 unOp
      refine WL.v (by first | exact r_notT rfl | exact r_notF rfl | exact r_not rfl) rfl rfl rfl ?_
      -- R5.5 43 := frame.go:86 move
      refine WL.v (by first | exact r_move (v := .bool _) rfl | exact r_move rfl) rfl rfl rfl ?_
      -- R5.6 44 := frame.go:86 move
      refine WL.v (by first | exact r_move (v := .pointer _) rfl | exact r_move rfl) rfl rfl rfl ?_
      -- R5.7 45 := frame.go:86 nilCheck
      refine WL.v (by exact r_nilCheck rfl) rfl rfl rfl ?_
      -- R5.8 46 := frame.go:86 fieldAddr
      refine WL.v (by exact r_field ty_fld43_4 rfl) rfl rfl rfl ?_
      -- R5.9 47 := frame.go:86 call
      refine WL.call (r_call ty_call72 rfl) rfl rfl rfl (zIc_ok b (o + 41) f.y f.z f.s3 hf.zr (fun its w' q => (hr its w' q).ic) st) ?_
      rintro fv w ⟨hfv, st⟩
      obtain rfl := hfv.ff c3
      -- R5.10 48 := frame.go:86 unOp
      refine WL.v (by first | exact r_notT rfl | exact r_notF rfl | exact r_not rfl) rfl rfl rfl ?_
      -- R5.11 49 := frame.go:86 pick
      refine WL.v (by first | exact r_pickT (v := .bool _) rfl rfl | exact r_pickF (v := .bool _) rfl rfl) rfl rfl rfl ?_
      -- R5.12 2 := frame.go:86 assign
      refine WL.v (by first | exact r_assign (v := .bool _) rfl | exact r_assign rfl) rfl rfl rfl ?_
      refine WL.fin hK547 (fun _ _ h => h) ?_
      refine WC.ret1 Tryd.results49 (fun _ _ h => h) rfl ?_
      exact ⟨_, rfl, .inl ⟨rfl, .inr (.inl ⟨k1, fun h => c3 h.2⟩)⟩, st⟩
    refine enter [.pointer (some ⟨b, o, none⟩)] Tryd.func49 rfl Tryd.ntmps49 rfl ?_
    show WC _ _ _ 62 [] [(0, .pointer (some ⟨b, o, none⟩))] _
    refine WC.seq fun K548 hK548 => ?_
    -- region 0
    refine WC.region ?_
    -- R0.0 2 := frame.go:81 assign
    refine WL.v (by first | exact r_assign (v := .bool _) rfl | exact r_assign rfl) rfl rfl rfl ?_
    refine WL.fin hK548 (fun _ _ h => h) ?_
    refine WC.seq fun K549 hK549 => ?_
    refine WC.seq fun K550 hK550 => ?_
    -- region 1
    refine WC.region ?_
    -- R1.0 3 := frame.go:82 move
    refine WL.v (by first | exact r_move (v := .pointer _) rfl | exact r_move rfl) rfl rfl rfl ?_
    -- R1.1 4 := frame.go:82 nilCheck
    refine WL.v (by exact r_nilCheck rfl) rfl rfl rfl ?_
    -- R1.2 5 := frame.go:82 fieldAddr
    refine WL.v (by exact r_field ty_fld43_0 rfl) rfl rfl rfl ?_
    -- R1.3 6 := frame.go:82 load
    refine WL.v (by first | exact r_load1 ty_one27 rfl (hrc [] _ st 0 (by decide)) | exact r_load1 ty_one27 rfl (hrc _ _ st 0 (by decide)) | exact r_load1 ty_one27 rfl (hrc [_] _ st 0 (by decide)) | exact r_load1 ty_one27 rfl (hrc [_, _] _ st 0 (by decide)) | exact r_load1 ty_one27 rfl (hrc [_, _, _] _ st 0 (by decide))) rfl rfl rfl ?_
    refine WL.fin hK550 (fun _ _ h => h) ?_
    refine WC.block ?_
    refine WC.seq fun K551 hK551 => ?_
    -- region 2
    refine WC.region ?_
    -- R2.0 8 := frame.go:83 binOp
    refine WL.v (by first | exact r_eql rfl rfl (decide_eq_true (by omega)) | exact r_eql rfl rfl (decide_eq_false (by omega)) | exact r_eql rfl rfl rfl) rfl rfl rfl ?_
    -- R2.1 7 := frame.go:83 assign
    refine WL.v (by first | exact r_assign (v := .bool _) rfl | exact r_assign rfl) rfl rfl rfl ?_
    refine WL.fin hK551 (fun _ _ h => h) ?_
    refine WC.condF rfl rfl ?_
    refine WC.seq fun K552 hK552 => ?_
    -- region 4
    refine WC.region ?_
    -- R4.0 37 := frame.go:85 binOp
    refine WL.v (by first | exact r_eql rfl rfl (decide_eq_true (by omega)) | exact r_eql rfl rfl (decide_eq_false (by omega)) | exact r_eql rfl rfl rfl) rfl rfl rfl ?_
    -- R4.1 36 := frame.go:85 assign
    refine WL.v (by first | exact r_assign (v := .bool _) rfl | exact r_assign rfl) rfl rfl rfl ?_
    refine WL.fin hK552 (fun _ _ h => h) ?_
    refine WC.condT rfl rfl ?_
    refine WC.seq fun K553 hK553 => ?_
    -- region 5
    refine WC.region ?_
    -- R5.0 38 := frame.go:86 move
    refine WL.v (by first | exact r_move (v := .pointer _) rfl | exact r_move rfl) rfl rfl rfl ?_
    -- R5.1 39 := frame.go:86 nilCheck
    refine WL.v (by exact r_nilCheck rfl) rfl rfl rfl ?_
    -- R5.2 40 := frame.go:86 fieldAddr
    refine WL.v (by exact r_field ty_fld43_3 rfl) rfl rfl rfl ?_
    -- R5.3 41 := frame.go:86 call
    refine WL.call (r_call ty_call71 rfl) rfl rfl rfl (zTcp_ok b (o + 31) f.t f.s2 (fun its w' q => (hr its w' q).tcp) st) ?_
    rintro fv w ⟨hfv, st⟩
    obtain rfl := hfv.tt c2
    -- R5.4 42 := frame.go:86 unOp
    refine WL.v (by first | exact r_notT rfl | exact r_notF rfl | exact r_not rfl) rfl rfl rfl ?_
    -- R5.5 43 := frame.go:86 move
    refine WL.v (by first | exact r_move (v := .bool _) rfl | exact r_move rfl) rfl rfl rfl ?_
    -- R5.6 44 := frame.go:86 move
    refine WL.v (by first | exact r_move (v := .pointer _) rfl | exact r_move rfl) rfl rfl rfl ?_
    -- R5.7 45 := frame.go:86 nilCheck
    refine WL.v (by exact r_nilCheck rfl) rfl rfl rfl ?_
    -- R5.8 46 := frame.go:86 fieldAddr
    refine WL.v (by exact r_field ty_fld43_4 rfl) rfl rfl rfl ?_
    -- R5.9 47 := frame.go:86 call
    refine WL.call (r_call ty_call72 rfl) rfl rfl rfl (zIc_ok b (o + 41) f.y f.z f.s3 hf.zr (fun its w' q => (hr its w' q).ic) st) ?_
    rintro fv w ⟨hfv, st⟩
    obtain rfl := hfv.tt c3
    -- R5.10 48 := frame.go:86 unOp
    refine WL.v (by first | exact r_notT rfl | exact r_notF rfl | exact r_not rfl) rfl rfl rfl ?_
    -- R5.11 49 := frame.go:86 pick
    refine WL.v (by first | exact r_pickT (v := .bool _) rfl rfl | exact r_pickF (v := .bool _) rfl rfl) rfl rfl rfl ?_
    -- R5.12 2 := frame.go:86 assign
    refine WL.v (by first | exact r_assign (v := .bool _) rfl | exact r_assign rfl) rfl rfl rfl ?_
    refine WL.fin hK553 (fun _ _ h => h) ?_
    refine WC.ret1 Tryd.results49 (fun _ _ h => h) rfl ?_
    refine ⟨_, rfl, .inr ⟨rfl, fun h => ?_⟩, st⟩
    rcases h with h | h | h | h
    · omega
    · exact h.2 ⟨c2, c3⟩
    · omega
    · omega
  by_cases k2 : f.k = 2
  · by_cases c3 : zIc f.y f.z f.s3.bs.length
    case neg =>
      refine enter [.pointer (some ⟨b, o, none⟩)] Tryd.func49 rfl Tryd.ntmps49 rfl ?_
      show WC _ _ _ 62 [] [(0, .pointer (some ⟨b, o, none⟩))] _
      refine WC.seq fun K554 hK554 => ?_
      -- region 0
      refine WC.region ?_
      -- R0.0 2 := frame.go:81 assign
      refine WL.v (by first | exact r_assign (v := .bool _) rfl | exact r_assign rfl) rfl rfl rfl ?_
      refine WL.fin hK554 (fun _ _ h => h) ?_
      refine WC.seq fun K555 hK555 => ?_
      refine WC.seq fun K556 hK556 => ?_
      -- region 1
      refine WC.region ?_
      -- R1.0 3 := frame.go:82 move
      refine WL.v (by first | exact r_move (v := .pointer _) rfl | exact r_move rfl) rfl rfl rfl ?_
      -- R1.1 4 := frame.go:82 nilCheck
      refine WL.v (by exact r_nilCheck rfl) rfl rfl rfl ?_
      -- R1.2 5 := frame.go:82 fieldAddr
      refine WL.v (by exact r_field ty_fld43_0 rfl) rfl rfl rfl ?_
      -- R1.3 6 := frame.go:82 load
      refine WL.v (by first | exact r_load1 ty_one27 rfl (hrc [] _ st 0 (by decide)) | exact r_load1 ty_one27 rfl (hrc _ _ st 0 (by decide)) | exact r_load1 ty_one27 rfl (hrc [_] _ st 0 (by decide)) | exact r_load1 ty_one27 rfl (hrc [_, _] _ st 0 (by decide)) | exact r_load1 ty_one27 rfl (hrc [_, _, _] _ st 0 (by decide))) rfl rfl rfl ?_
      refine WL.fin hK556 (fun _ _ h => h) ?_
      refine WC.block ?_
      refine WC.seq fun K557 hK557 => ?_
      -- region 2
      refine WC.region ?_
      -- R2.0 8 := frame.go:83 binOp
      refine WL.v (by first | exact r_eql rfl rfl (decide_eq_true (by omega)) | exact r_eql rfl rfl (decide_eq_false (by omega)) | exact r_eql rfl rfl rfl) rfl rfl rfl ?_
      -- R2.1 7 := frame.go:83 assign
      refine WL.v (by first | exact r_assign (v := .bool _) rfl | exact r_assign rfl) rfl rfl rfl ?_
      refine WL.fin hK557 (fun _ _ h => h) ?_
      refine WC.condF rfl rfl ?_
      refine WC.seq fun K558 hK558 => ?_
      -- region 4
      refine WC.region ?_
      -- R4.0 37 := frame.go:85 binOp
      refine WL.v (by first | exact r_eql rfl rfl (decide_eq_true (by omega)) | exact r_eql rfl rfl (decide_eq_false (by omega)) | exact r_eql rfl rfl rfl) rfl rfl rfl ?_
      -- R4.1 36 := frame.go:85 assign
      refine WL.v (by first | exact r_assign (v := .bool _) rfl | exact r_assign rfl) rfl rfl rfl ?_
      refine WL.fin hK558 (fun _ _ h => h) ?_
      refine WC.condF rfl rfl ?_
      refine WC.seq fun K559 hK559 => ?_
      -- region 6
      refine WC.region ?_
      -- R6.0 51 := frame.go:87 binOp
      refine WL.v (by first | exact r_eql rfl rfl (decide_eq_true (by omega)) | exact r_eql rfl rfl (decide_eq_false (by omega)) | exact r_eql rfl rfl rfl) rfl rfl rfl ?_
      -- R6.1 50 := frame.go:87 assign
      refine WL.v (by first | exact r_assign (v := .bool _) rfl | exact r_assign rfl) rfl rfl rfl ?_
      refine WL.fin hK559 (fun _ _ h => h) ?_
      refine WC.condT rfl rfl ?_
      refine WC.seq fun K560 hK560 => ?_
      -- region 7
      refine WC.region ?_
      -- R7.0 52 := frame.go:88 move
      refine WL.v (by first | exact r_move (v := .pointer _) rfl | exact r_move rfl) rfl rfl rfl ?_
      -- R7.1 53 := frame.go:88 nilCheck
      refine WL.v (by exact r_nilCheck rfl) rfl rfl rfl ?_
      -- R7.2 54 := frame.go:88 fieldAddr
      refine WL.v (by exact r_field ty_fld43_4 rfl) rfl rfl rfl ?_
      -- R7.3 55 := frame.go:88 call
      refine WL.call (r_call ty_call72 rfl) rfl rfl rfl (zIc_ok b (o + 41) f.y f.z f.s3 hf.zr (fun its w' q => (hr its w' q).ic) st) ?_
      rintro fv w ⟨hfv, st⟩
      obtain rfl := hfv.ff c3
      -- R7.4 56 := frame.go:88 unOp
      refine WL.v (by first | exact r_notT rfl | exact r_notF rfl | exact r_not rfl) rfl rfl rfl ?_
      -- R7.5 2 := frame.go:88 assign
      refine WL.v (by first | exact r_assign (v := .bool _) rfl | exact r_assign rfl) rfl rfl rfl ?_
      refine WL.fin hK560 (fun _ _ h => h) ?_
      refine WC.ret1 Tryd.results49 (fun _ _ h => h) rfl ?_
      exact ⟨_, rfl, .inl ⟨rfl, .inr (.inr (.inl ⟨k2, c3⟩))⟩, st⟩
    refine enter [.pointer (some ⟨b, o, none⟩)] Tryd.func49 rfl Tryd.ntmps49 rfl ?_
    show WC _ _ _ 62 [] [(0, .pointer (some ⟨b, o, none⟩))] _
    refine WC.seq fun K561 hK561 => ?_
    -- region 0
    refine WC.region ?_
    -- R0.0 2 := frame.go:81 assign
    refine WL.v (by first | exact r_assign (v := .bool _) rfl | exact r_assign rfl) rfl rfl rfl ?_
    refine WL.fin hK561 (fun _ _ h => h) ?_
    refine WC.seq fun K562 hK562 => ?_
    refine WC.seq fun K563 hK563 => ?_
    -- region 1
    refine WC.region ?_
    -- R1.0 3 := frame.go:82 move
    refine WL.v (by first | exact r_move (v := .pointer _) rfl | exact r_move rfl) rfl rfl rfl ?_
    -- R1.1 4 := frame.go:82 nilCheck
    refine WL.v (by exact r_nilCheck rfl) rfl rfl rfl ?_
    -- R1.2 5 := frame.go:82 fieldAddr
    refine WL.v (by exact r_field ty_fld43_0 rfl) rfl rfl rfl ?_
    -- R1.3 6 := frame.go:82 load
    refine WL.v (by first | exact r_load1 ty_one27 rfl (hrc [] _ st 0 (by decide)) | exact r_load1 ty_one27 rfl (hrc _ _ st 0 (by decide)) | exact r_load1 ty_one27 rfl (hrc [_] _ st 0 (by decide)) | exact r_load1 ty_one27 rfl (hrc [_, _] _ st 0 (by decide)) | exact r_load1 ty_one27 rfl (hrc [_, _, _] _ st 0 (by decide))) rfl rfl rfl ?_
    refine WL.fin hK563 (fun _ _ h => h) ?_
    refine WC.block ?_
    refine WC.seq fun K564 hK564 => ?_
    -- region 2
    refine WC.region ?_
    -- R2.0 8 := frame.go:83 binOp
    refine WL.v (by first | exact r_eql rfl rfl (decide_eq_true (by omega)) | exact r_eql rfl rfl (decide_eq_false (by omega)) | exact r_eql rfl rfl rfl) rfl rfl rfl ?_
    -- R2.1 7 := frame.go:83 assign
    refine WL.v (by first | exact r_assign (v := .bool _) rfl | exact r_assign rfl) rfl rfl rfl ?_
    refine WL.fin hK564 (fun _ _ h => h) ?_
    refine WC.condF rfl rfl ?_
    refine WC.seq fun K565 hK565 => ?_
    -- region 4
    refine WC.region ?_
    -- R4.0 37 := frame.go:85 binOp
    refine WL.v (by first | exact r_eql rfl rfl (decide_eq_true (by omega)) | exact r_eql rfl rfl (decide_eq_false (by omega)) | exact r_eql rfl rfl rfl) rfl rfl rfl ?_
    -- R4.1 36 := frame.go:85 assign
    refine WL.v (by first | exact r_assign (v := .bool _) rfl | exact r_assign rfl) rfl rfl rfl ?_
    refine WL.fin hK565 (fun _ _ h => h) ?_
    refine WC.condF rfl rfl ?_
    refine WC.seq fun K566 hK566 => ?_
    -- region 6
    refine WC.region ?_
    -- R6.0 51 := frame.go:87 binOp
    refine WL.v (by first | exact r_eql rfl rfl (decide_eq_true (by omega)) | exact r_eql rfl rfl (decide_eq_false (by omega)) | exact r_eql rfl rfl rfl) rfl rfl rfl ?_
    -- R6.1 50 := frame.go:87 assign
    refine WL.v (by first | exact r_assign (v := .bool _) rfl | exact r_assign rfl) rfl rfl rfl ?_
    refine WL.fin hK566 (fun _ _ h => h) ?_
    refine WC.condT rfl rfl ?_
    refine WC.seq fun K567 hK567 => ?_
    -- region 7
    refine WC.region ?_
    -- R7.0 52 := frame.go:88 move
    refine WL.v (by first | exact r_move (v := .pointer _) rfl | exact r_move rfl) rfl rfl rfl ?_
    -- R7.1 53 := frame.go:88 nilCheck
    refine WL.v (by exact r_nilCheck rfl) rfl rfl rfl ?_
    -- R7.2 54 := frame.go:88 fieldAddr
    refine WL.v (by exact r_field ty_fld43_4 rfl) rfl rfl rfl ?_
    -- R7.3 55 := frame.go:88 call
    refine WL.call (r_call ty_call72 rfl) rfl rfl rfl (zIc_ok b (o + 41) f.y f.z f.s3 hf.zr (fun its w' q => (hr its w' q).ic) st) ?_
    rintro fv w ⟨hfv, st⟩
    obtain rfl := hfv.tt c3
    -- R7.4 56 := frame.go:88 unOp
    refine WL.v (by first | exact r_notT rfl | exact r_notF rfl | exact r_not rfl) rfl rfl rfl ?_
    -- R7.5 2 := frame.go:88 assign
    refine WL.v (by first | exact r_assign (v := .bool _) rfl | exact r_assign rfl) rfl rfl rfl ?_
    refine WL.fin hK567 (fun _ _ h => h) ?_
    refine WC.ret1 Tryd.results49 (fun _ _ h => h) rfl ?_
    refine ⟨_, rfl, .inr ⟨rfl, fun h => ?_⟩, st⟩
    rcases h with h | h | h | h
    · omega
    · omega
    · exact h.2 c3
    · omega
  by_cases c2 : zTcp f.t f.s2.bs.length
  case neg =>
    refine enter [.pointer (some ⟨b, o, none⟩)] Tryd.func49 rfl Tryd.ntmps49 rfl ?_
    show WC _ _ _ 62 [] [(0, .pointer (some ⟨b, o, none⟩))] _
    refine WC.seq fun K568 hK568 => ?_
    -- region 0
    refine WC.region ?_
    -- R0.0 2 := frame.go:81 assign
    refine WL.v (by first | exact r_assign (v := .bool _) rfl | exact r_assign rfl) rfl rfl rfl ?_
    refine WL.fin hK568 (fun _ _ h => h) ?_
    refine WC.seq fun K569 hK569 => ?_
    refine WC.seq fun K570 hK570 => ?_
    -- region 1
    refine WC.region ?_
    -- R1.0 3 := frame.go:82 move
    refine WL.v (by first | exact r_move (v := .pointer _) rfl | exact r_move rfl) rfl rfl rfl ?_
    -- R1.1 4 := frame.go:82 nilCheck
    refine WL.v (by exact r_nilCheck rfl) rfl rfl rfl ?_
    -- R1.2 5 := frame.go:82 fieldAddr
    refine WL.v (by exact r_field ty_fld43_0 rfl) rfl rfl rfl ?_
    -- R1.3 6 := frame.go:82 load
    refine WL.v (by first | exact r_load1 ty_one27 rfl (hrc [] _ st 0 (by decide)) | exact r_load1 ty_one27 rfl (hrc _ _ st 0 (by decide)) | exact r_load1 ty_one27 rfl (hrc [_] _ st 0 (by decide)) | exact r_load1 ty_one27 rfl (hrc [_, _] _ st 0 (by decide)) | exact r_load1 ty_one27 rfl (hrc [_, _, _] _ st 0 (by decide))) rfl rfl rfl ?_
    refine WL.fin hK570 (fun _ _ h => h) ?_
    refine WC.block ?_
    refine WC.seq fun K571 hK571 => ?_
    -- region 2
    refine WC.region ?_
    -- R2.0 8 := frame.go:83 binOp
    refine WL.v (by first | exact r_eql rfl rfl (decide_eq_true (by omega)) | exact r_eql rfl rfl (decide_eq_false (by omega)) | exact r_eql rfl rfl rfl) rfl rfl rfl ?_
    -- R2.1 7 := frame.go:83 assign
    refine WL.v (by first | exact r_assign (v := .bool _) rfl | exact r_assign rfl) rfl rfl rfl ?_
    refine WL.fin hK571 (fun _ _ h => h) ?_
    refine WC.condF rfl rfl ?_
    refine WC.seq fun K572 hK572 => ?_
    -- region 4
    refine WC.region ?_
    -- R4.0 37 := frame.go:85 binOp
    refine WL.v (by first | exact r_eql rfl rfl (decide_eq_true (by omega)) | exact r_eql rfl rfl (decide_eq_false (by omega)) | exact r_eql rfl rfl rfl) rfl rfl rfl ?_
    -- R4.1 36 := frame.go:85 assign
    refine WL.v (by first | exact r_assign (v := .bool _) rfl | exact r_assign rfl) rfl rfl rfl ?_
    refine WL.fin hK572 (fun _ _ h => h) ?_
    refine WC.condF rfl rfl ?_
    refine WC.seq fun K573 hK573 => ?_
    -- region 6
    refine WC.region ?_
    -- R6.0 51 := frame.go:87 binOp
    refine WL.v (by first | exact r_eql rfl rfl (decide_eq_true (by omega)) | exact r_eql rfl rfl (decide_eq_false (by omega)) | exact r_eql rfl rfl rfl) rfl rfl rfl ?_
    -- R6.1 50 := frame.go:87 assign
    refine WL.v (by first | exact r_assign (v := .bool _) rfl | exact r_assign rfl) rfl rfl rfl ?_
    refine WL.fin hK573 (fun _ _ h => h) ?_
    refine WC.condF rfl rfl ?_
    refine WC.skipF hK569 (fun _ _ h => h) ?_
    refine WC.seq fun K574 hK574 => ?_
    -- region 8
    refine WC.region ?_
    -- R8.0 57 := frame.go:90 move
    refine WL.v (by first | exact r_move (v := .pointer _) rfl | exact r_move rfl) rfl rfl rfl ?_
    -- R8.1 58 := frame.go:90 nilCheck
    refine WL.v (by exact r_nilCheck rfl) rfl rfl rfl ?_
    -- R8.2 59 := frame.go:90 fieldAddr
    refine WL.v (by exact r_field ty_fld43_3 rfl) rfl rfl rfl ?_
    -- R8.3 60 := frame.go:90 call
    refine WL.call (r_call ty_call71 rfl) rfl rfl rfl (zTcp_ok b (o + 31) f.t f.s2 (fun its w' q => (hr its w' q).tcp) st) ?_
    rintro fv w ⟨hfv, st⟩
    obtain rfl := hfv.ff c2
    -- R8.4 61 := frame.go:90 unOp
    refine WL.v (by first | exact r_notT rfl | exact r_notF rfl | exact r_not rfl) rfl rfl rfl ?_
    -- R8.5 2 := frame.go:90 assign
    refine WL.v (by first | exact r_assign (v := .bool _) rfl | exact r_assign rfl) rfl rfl rfl ?_
    refine WL.fin hK574 (fun _ _ h => h) ?_
    refine WC.ret1 Tryd.results49 (fun _ _ h => h) rfl ?_
    exact ⟨_, rfl, .inl ⟨rfl, .inr (.inr (.inr ⟨⟨k0, k1, k2⟩, c2⟩))⟩, st⟩
  refine enter [.pointer (some ⟨b, o, none⟩)] Tryd.func49 rfl Tryd.ntmps49 rfl ?_
  show WC _ _ _ 62 [] [(0, .pointer (some ⟨b, o, none⟩))] _
  refine WC.seq fun K575 hK575 => ?_
  -- region 0
  refine WC.region ?_
  -- R0.0 2 := frame.go:81 assign
  refine WL.v (by first | exact r_assign (v := .bool _) rfl | exact r_assign rfl) rfl rfl rfl ?_
  refine WL.fin hK575 (fun _ _ h => h) ?_
  refine WC.seq fun K576 hK576 => ?_
  refine WC.seq fun K577 hK577 => ?_
  -- region 1
  refine WC.region ?_
  -- R1.0 3 := frame.go:82 move
  refine WL.v (by first | exact r_move (v := .pointer _) rfl | exact r_move rfl) rfl rfl rfl ?_
  -- R1.1 4 := frame.go:82 nilCheck
  refine WL.v (by exact r_nilCheck rfl) rfl rfl rfl ?_
  -- R1.2 5 := frame.go:82 fieldAddr
  refine WL.v (by exact r_field ty_fld43_0 rfl) rfl rfl rfl ?_
  -- R1.3 6 := frame.go:82 load
  refine WL.v (by first | exact r_load1 ty_one27 rfl (hrc [] _ st 0 (by decide)) | exact r_load1 ty_one27 rfl (hrc _ _ st 0 (by decide)) | exact r_load1 ty_one27 rfl (hrc [_] _ st 0 (by decide)) | exact r_load1 ty_one27 rfl (hrc [_, _] _ st 0 (by decide)) | exact r_load1 ty_one27 rfl (hrc [_, _, _] _ st 0 (by decide))) rfl rfl rfl ?_
  refine WL.fin hK577 (fun _ _ h => h) ?_
  refine WC.block ?_
  refine WC.seq fun K578 hK578 => ?_
  -- region 2
  refine WC.region ?_
  -- R2.0 8 := frame.go:83 binOp
  refine WL.v (by first | exact r_eql rfl rfl (decide_eq_true (by omega)) | exact r_eql rfl rfl (decide_eq_false (by omega)) | exact r_eql rfl rfl rfl) rfl rfl rfl ?_
  -- R2.1 7 := frame.go:83 assign
  refine WL.v (by first | exact r_assign (v := .bool _) rfl | exact r_assign rfl) rfl rfl rfl ?_
  refine WL.fin hK578 (fun _ _ h => h) ?_
  refine WC.condF rfl rfl ?_
  refine WC.seq fun K579 hK579 => ?_
  -- region 4
  refine WC.region ?_
  -- R4.0 37 := frame.go:85 binOp
  refine WL.v (by first | exact r_eql rfl rfl (decide_eq_true (by omega)) | exact r_eql rfl rfl (decide_eq_false (by omega)) | exact r_eql rfl rfl rfl) rfl rfl rfl ?_
  -- R4.1 36 := frame.go:85 assign
  refine WL.v (by first | exact r_assign (v := .bool _) rfl | exact r_assign rfl) rfl rfl rfl ?_
  refine WL.fin hK579 (fun _ _ h => h) ?_
  refine WC.condF rfl rfl ?_
  refine WC.seq fun K580 hK580 => ?_
  -- region 6
  refine WC.region ?_
  -- R6.0 51 := frame.go:87 binOp
  refine WL.v (by first | exact r_eql rfl rfl (decide_eq_true (by omega)) | exact r_eql rfl rfl (decide_eq_false (by omega)) | exact r_eql rfl rfl rfl) rfl rfl rfl ?_
  -- R6.1 50 := frame.go:87 assign
  refine WL.v (by first | exact r_assign (v := .bool _) rfl | exact r_assign rfl) rfl rfl rfl ?_
  refine WL.fin hK580 (fun _ _ h => h) ?_
  refine WC.condF rfl rfl ?_
  refine WC.skipF hK576 (fun _ _ h => h) ?_
  refine WC.seq fun K581 hK581 => ?_
  -- region 8
  refine WC.region ?_
  -- R8.0 57 := frame.go:90 move
  refine WL.v (by first | exact r_move (v := .pointer _) rfl | exact r_move rfl) rfl rfl rfl ?_
  -- R8.1 58 := frame.go:90 nilCheck
  refine WL.v (by exact r_nilCheck rfl) rfl rfl rfl ?_
  -- R8.2 59 := frame.go:90 fieldAddr
  refine WL.v (by exact r_field ty_fld43_3 rfl) rfl rfl rfl ?_
  -- R8.3 60 := frame.go:90 call
  refine WL.call (r_call ty_call71 rfl) rfl rfl rfl (zTcp_ok b (o + 31) f.t f.s2 (fun its w' q => (hr its w' q).tcp) st) ?_
  rintro fv w ⟨hfv, st⟩
  obtain rfl := hfv.tt c2
  -- R8.4 61 := frame.go:90 unOp
  refine WL.v (by first | exact r_notT rfl | exact r_notF rfl | exact r_not rfl) rfl rfl rfl ?_
  -- R8.5 2 := frame.go:90 assign
  refine WL.v (by first | exact r_assign (v := .bool _) rfl | exact r_assign rfl) rfl rfl rfl ?_
  refine WL.fin hK581 (fun _ _ h => h) ?_
  refine WC.ret1 Tryd.results49 (fun _ _ h => h) rfl ?_
  refine ⟨_, rfl, .inr ⟨rfl, fun h => ?_⟩, st⟩
  rcases h with h | h | h | h
  · omega
  · omega
  · omega
  · exact h.2 c2

theorem innerLen_ok (b o : Nat) (f : FD) (hf : f.ok) (hr : ∀ its w', S0 w0 (its ++ L) w' → FrAt w' b o f) (st : S0 w0 L w) :
    Calls Tryd.prog 52 #[.pointer (some ⟨b, o, none⟩)] w (Ret fun v w' => v = .int .i64 ((innerN f : Nat) : Int) ∧ S0 w0 L w') := by
  have hrc := fun its w' q => (hr its w' q).c
  by_cases k2 : f.k = 2
  · skip
    refine enter [.pointer (some ⟨b, o, none⟩)] Tryd.func52 rfl Tryd.ntmps52 rfl ?_
    show WC _ _ _ 19 [] [(0, .pointer (some ⟨b, o, none⟩))] _
    refine WC.seq fun K582 hK582 => ?_
    -- region 0
    refine WC.region ?_
    -- R0.0 2 := frame.go:95 assign
    refine WL.v (by first | exact r_assign (v := .int _ _) rfl | exact r_assign rfl) rfl rfl rfl ?_
    refine WL.fin hK582 (fun _ _ h => h) ?_
    refine WC.seq fun K583 hK583 => ?_
    refine WC.seq fun K584 hK584 => ?_
    -- region 1
    refine WC.region ?_
    -- R1.0 3 := frame.go:96 move
    refine WL.v (by first | exact r_move (v := .pointer _) rfl | exact r_move rfl) rfl rfl rfl ?_
    -- R1.1 4 := frame.go:96 nilCheck
    refine WL.v (by exact r_nilCheck rfl) rfl rfl rfl ?_
    -- R1.2 5 := frame.go:96 fieldAddr
    refine WL.v (by exact r_field ty_fld43_0 rfl) rfl rfl rfl ?_
    -- R1.3 6 := frame.go:96 load
    refine WL.v (by first | exact r_load1 ty_one27 rfl (hrc [] _ st 0 (by decide)) | exact r_load1 ty_one27 rfl (hrc _ _ st 0 (by decide)) | exact r_load1 ty_one27 rfl (hrc [_] _ st 0 (by decide)) | exact r_load1 ty_one27 rfl (hrc [_, _] _ st 0 (by decide)) | exact r_load1 ty_one27 rfl (hrc [_, _, _] _ st 0 (by decide))) rfl rfl rfl ?_
    refine WL.fin hK584 (fun _ _ h => h) ?_
    refine WC.block ?_
    refine WC.seq fun K585 hK585 => ?_
    -- region 2
    refine WC.region ?_
    -- R2.0 8 := frame.go:97 binOp
    refine WL.v (by first | exact r_eql rfl rfl (decide_eq_true (by omega)) | exact r_eql rfl rfl (decide_eq_false (by omega)) | exact r_eql rfl rfl rfl) rfl rfl rfl ?_
    -- R2.1 7 := frame.go:97 assign
    refine WL.v (by first | exact r_assign (v := .bool _) rfl | exact r_assign rfl) rfl rfl rfl ?_
    refine WL.fin hK585 (fun _ _ h => h) ?_
    refine WC.condT rfl rfl ?_
    refine WC.seq fun K586 hK586 => ?_
    -- region 3
    refine WC.region ?_
    -- R3.0 9 := frame.go:98 move
    refine WL.v (by first | exact r_move (v := .pointer _) rfl | exact r_move rfl) rfl rfl rfl ?_
    -- R3.1 10 := frame.go:98 nilCheck
    refine WL.v (by exact r_nilCheck rfl) rfl rfl rfl ?_
    -- R3.2 11 := frame.go:98 fieldAddr
    refine WL.v (by exact r_field ty_fld43_3 rfl) rfl rfl rfl ?_
    -- R3.3 12 := frame.go:98 call
    refine WL.call (r_call ty_call58 rfl) rfl rfl rfl (tcpLen_ok b (o + 31) f.t f.s2 hf.l2 (fun its w' q => (hr its w' q).tcp) st) ?_
    rintro _ w ⟨rfl, st⟩
    -- R3.4 2 := frame.go:98 assign
    refine WL.v (by first | exact r_assign (v := .int _ _) rfl | exact r_assign rfl) rfl rfl rfl ?_
    refine WL.fin hK586 (fun _ _ h => h) ?_
    refine WC.ret1 Tryd.results52 (fun _ _ h => h) rfl ?_
    exact ⟨_, rfl, by unfold innerN; rw [if_pos k2]; rfl, st⟩
  by_cases k3 : f.k = 3
  · skip
    refine enter [.pointer (some ⟨b, o, none⟩)] Tryd.func52 rfl Tryd.ntmps52 rfl ?_
    show WC _ _ _ 19 [] [(0, .pointer (some ⟨b, o, none⟩))] _
    refine WC.seq fun K587 hK587 => ?_
    -- region 0
    refine WC.region ?_
    -- R0.0 2 := frame.go:95 assign
    refine WL.v (by first | exact r_assign (v := .int _ _) rfl | exact r_assign rfl) rfl rfl rfl ?_
    refine WL.fin hK587 (fun _ _ h => h) ?_
    refine WC.seq fun K588 hK588 => ?_
    refine WC.seq fun K589 hK589 => ?_
    -- region 1
    refine WC.region ?_
    -- R1.0 3 := frame.go:96 move
    refine WL.v (by first | exact r_move (v := .pointer _) rfl | exact r_move rfl) rfl rfl rfl ?_
    -- R1.1 4 := frame.go:96 nilCheck
    refine WL.v (by exact r_nilCheck rfl) rfl rfl rfl ?_
    -- R1.2 5 := frame.go:96 fieldAddr
    refine WL.v (by exact r_field ty_fld43_0 rfl) rfl rfl rfl ?_
    -- R1.3 6 := frame.go:96 load
    refine WL.v (by first | exact r_load1 ty_one27 rfl (hrc [] _ st 0 (by decide)) | exact r_load1 ty_one27 rfl (hrc _ _ st 0 (by decide)) | exact r_load1 ty_one27 rfl (hrc [_] _ st 0 (by decide)) | exact r_load1 ty_one27 rfl (hrc [_, _] _ st 0 (by decide)) | exact r_load1 ty_one27 rfl (hrc [_, _, _] _ st 0 (by decide))) rfl rfl rfl ?_
    refine WL.fin hK589 (fun _ _ h => h) ?_
    refine WC.block ?_
    refine WC.seq fun K590 hK590 => ?_
    -- region 2
    refine WC.region ?_
    -- R2.0 8 := frame.go:97 binOp
    refine WL.v (by first | exact r_eql rfl rfl (decide_eq_true (by omega)) | exact r_eql rfl rfl (decide_eq_false (by omega)) | exact r_eql rfl rfl rfl) rfl rfl rfl ?_
    -- R2.1 7 := frame.go:97 assign
    refine WL.v (by first | exact r_assign (v := .bool _) rfl | exact r_assign rfl) rfl rfl rfl ?_
    refine WL.fin hK590 (fun _ _ h => h) ?_
    refine WC.condF rfl rfl ?_
    refine WC.seq fun K591 hK591 => ?_
    -- region 4
    refine WC.region ?_
    -- R4.0 14 := frame.go:99 binOp
    refine WL.v (by first | exact r_eql rfl rfl (decide_eq_true (by omega)) | exact r_eql rfl rfl (decide_eq_false (by omega)) | exact r_eql rfl rfl rfl) rfl rfl rfl ?_
    -- R4.1 13 := frame.go:99 assign
    refine WL.v (by first | exact r_assign (v := .bool _) rfl | exact r_assign rfl) rfl rfl rfl ?_
    refine WL.fin hK591 (fun _ _ h => h) ?_
    refine WC.condT rfl rfl ?_
    refine WC.seq fun K592 hK592 => ?_
    -- region 5
    refine WC.region ?_
    -- R5.0 15 := frame.go:100 move
    refine WL.v (by first | exact r_move (v := .pointer _) rfl | exact r_move rfl) rfl rfl rfl ?_
    -- R5.1 16 := frame.go:100 nilCheck
    refine WL.v (by exact r_nilCheck rfl) rfl rfl rfl ?_
    -- R5.2 17 := frame.go:100 fieldAddr
    refine WL.v (by exact r_field ty_fld43_4 rfl) rfl rfl rfl ?_
    -- R5.3 18 := frame.go:100 call
    refine WL.call (r_call ty_call76 rfl) rfl rfl rfl (icLen_ok b (o + 41) f.y f.z f.s3 hf.l3 (fun its w' q => (hr its w' q).ic) st) ?_
    rintro _ w ⟨rfl, st⟩
    -- R5.4 2 := frame.go:100 assign
    refine WL.v (by first | exact r_assign (v := .int _ _) rfl | exact r_assign rfl) rfl rfl rfl ?_
    refine WL.fin hK592 (fun _ _ h => h) ?_
    refine WC.ret1 Tryd.results52 (fun _ _ h => h) rfl ?_
    exact ⟨_, rfl, by unfold innerN; rw [if_neg k2, if_pos k3]; rfl, st⟩
  refine enter [.pointer (some ⟨b, o, none⟩)] Tryd.func52 rfl Tryd.ntmps52 rfl ?_
  show WC _ _ _ 19 [] [(0, .pointer (some ⟨b, o, none⟩))] _
  refine WC.seq fun K593 hK593 => ?_
  -- region 0
  refine WC.region ?_
  -- R0.0 2 := frame.go:95 assign
  refine WL.v (by first | exact r_assign (v := .int _ _) rfl | exact r_assign rfl) rfl rfl rfl ?_
  refine WL.fin hK593 (fun _ _ h => h) ?_
  refine WC.seq fun K594 hK594 => ?_
  refine WC.seq fun K595 hK595 => ?_
  -- region 1
  refine WC.region ?_
  -- R1.0 3 := frame.go:96 move
  refine WL.v (by first | exact r_move (v := .pointer _) rfl | exact r_move rfl) rfl rfl rfl ?_
  -- R1.1 4 := frame.go:96 nilCheck
  refine WL.v (by exact r_nilCheck rfl) rfl rfl rfl ?_
  -- R1.2 5 := frame.go:96 fieldAddr
  refine WL.v (by exact r_field ty_fld43_0 rfl) rfl rfl rfl ?_
  -- R1.3 6 := frame.go:96 load
  refine WL.v (by first | exact r_load1 ty_one27 rfl (hrc [] _ st 0 (by decide)) | exact r_load1 ty_one27 rfl (hrc _ _ st 0 (by decide)) | exact r_load1 ty_one27 rfl (hrc [_] _ st 0 (by decide)) | exact r_load1 ty_one27 rfl (hrc [_, _] _ st 0 (by decide)) | exact r_load1 ty_one27 rfl (hrc [_, _, _] _ st 0 (by decide))) rfl rfl rfl ?_
  refine WL.fin hK595 (fun _ _ h => h) ?_
  refine WC.block ?_
  refine WC.seq fun K596 hK596 => ?_
  -- region 2
  refine WC.region ?_
  -- R2.0 8 := frame.go:97 binOp
  refine WL.v (by first | exact r_eql rfl rfl (decide_eq_true (by omega)) | exact r_eql rfl rfl (decide_eq_false (by omega)) | exact r_eql rfl rfl rfl) rfl rfl rfl ?_
  -- R2.1 7 := frame.go:97 assign
  refine WL.v (by first | exact r_assign (v := .bool _) rfl | exact r_assign rfl) rfl rfl rfl ?_
  refine WL.fin hK596 (fun _ _ h => h) ?_
  refine WC.condF rfl rfl ?_
  refine WC.seq fun K597 hK597 => ?_
  -- region 4
  refine WC.region ?_
  -- R4.0 14 := frame.go:99 binOp
  refine WL.v (by first | exact r_eql rfl rfl (decide_eq_true (by omega)) | exact r_eql rfl rfl (decide_eq_false (by omega)) | exact r_eql rfl rfl rfl) rfl rfl rfl ?_
  -- R4.1 13 := frame.go:99 assign
  refine WL.v (by first | exact r_assign (v := .bool _) rfl | exact r_assign rfl) rfl rfl rfl ?_
  refine WL.fin hK597 (fun _ _ h => h) ?_
  refine WC.condF rfl rfl ?_
  refine WC.skipF hK594 (fun _ _ h => h) ?_
  refine WC.seq fun K598 hK598 => ?_
  -- region 6
  refine WC.region ?_
  -- R6.0 2 := frame.go:102 assign
  refine WL.v (by first | exact r_assign (v := .int _ _) rfl | exact r_assign rfl) rfl rfl rfl ?_
  refine WL.fin hK598 (fun _ _ h => h) ?_
  refine WC.ret1 Tryd.results52 (fun _ _ h => h) rfl ?_
  exact ⟨_, rfl, by unfold innerN; rw [if_neg k2, if_neg k3]; rfl, st⟩

set_option maxHeartbeats 4000000 in
theorem checkInner_ok (hE : ErrOk w0 ET EU) (b o : Nat) (f : FD) (hf : f.ok) (hr : ∀ its w', S0 w0 (its ++ L) w' → FrAt w' b o f) (st : S0 w0 L w) :
    Calls Tryd.prog 51 #[.pointer (some ⟨b, o, none⟩)] w (Ret fun v w' => IfErr v (innerP f) ∧ S0 w0 L w') := by
  have hrc := fun its w' q => (hr its w' q).c
  by_cases k1 : f.k = 1
  · by_cases ho : opqP f.x f.s4.bs
    · skip
      refine enter [.pointer (some ⟨b, o, none⟩)] Tryd.func51 rfl Tryd.ntmps51 rfl ?_
      show WC _ _ _ 54 [] [(0, .pointer (some ⟨b, o, none⟩))] _
      refine WC.seq fun K599 hK599 => ?_
      -- region 0
      refine WC.region ?_
      -- R0.0 2 := frame.go:107 assign
      refine WL.v (by first | exact r_assign (v := .nilIface) rfl | exact r_assign (v := .iface _ _) rfl | exact r_assign rfl) rfl rfl rfl ?_
      refine WL.fin hK599 (fun _ _ h => h) ?_
      refine WC.seq fun K600 hK600 => ?_
      refine WC.seq fun K601 hK601 => ?_
      -- region 1
      refine WC.region ?_
      -- R1.0 3 := frame.go:108 move
      refine WL.v (by first | exact r_move (v := .pointer _) rfl | exact r_move rfl) rfl rfl rfl ?_
      -- R1.1 4 := frame.go:108 nilCheck
      refine WL.v (by exact r_nilCheck rfl) rfl rfl rfl ?_
      -- R1.2 5 := frame.go:108 fieldAddr
      refine WL.v (by exact r_field ty_fld43_0 rfl) rfl rfl rfl ?_
      -- R1.3 6 := frame.go:108 load
      refine WL.v (by first | exact r_load1 ty_one27 rfl (hrc [] _ st 0 (by decide)) | exact r_load1 ty_one27 rfl (hrc _ _ st 0 (by decide)) | exact r_load1 ty_one27 rfl (hrc [_] _ st 0 (by decide)) | exact r_load1 ty_one27 rfl (hrc [_, _] _ st 0 (by decide)) | exact r_load1 ty_one27 rfl (hrc [_, _, _] _ st 0 (by decide))) rfl rfl rfl ?_
      -- R1.4 7 := frame.go:108 binOp
      refine WL.v (by first | exact r_eql rfl rfl (decide_eq_true (by omega)) | exact r_eql rfl rfl (decide_eq_false (by omega)) | exact r_eql rfl rfl rfl) rfl rfl rfl ?_
      refine WL.fin hK601 (fun _ _ h => h) ?_
      refine WC.condT rfl rfl ?_
      refine WC.seq fun K602 hK602 => ?_
      refine WC.seq fun K603 hK603 => ?_
      -- region 2 (draws)
      refine WC.tailS 7 st ty_mixed (by kernel_rfl) fun w st Kq hKq => ?_
      -- R2.0 8 := frame.go:109 move
      refine SL.v (by first | exact r_move (v := .pointer _) rfl | exact r_move rfl) rfl rfl rfl ?_
      -- R2.1 9 := frame.go:109 nilCheck
      refine SL.v (by exact r_nilCheck rfl) rfl rfl rfl ?_
      -- R2.2 10 := frame.go:109 fieldAddr
      refine SL.v (by exact r_field ty_fld43_2 rfl) rfl rfl rfl ?_
      -- R2.3 11 := frame.go:109 move
      refine SL.v (by first | exact r_move (v := .pointer _) rfl | exact r_move rfl) rfl rfl rfl ?_
      -- R2.4 12 := frame.go:109 nilCheck
      refine SL.v (by exact r_nilCheck rfl) rfl rfl rfl ?_
      -- R2.5 13 := frame.go:109 fieldAddr
      refine SL.v (by exact r_field ty_fld43_5 rfl) rfl rfl rfl ?_
      -- R2.6 14 := frame.go:109 load
      refine SL.v (by first | exact r_load1 ty_one25 rfl (hrc [] _ st 62 (by decide)) | exact r_load1 ty_one25 rfl (hrc _ _ st 62 (by decide)) | exact r_load1 ty_one25 rfl (hrc [_] _ st 62 (by decide)) | exact r_load1 ty_one25 rfl (hrc [_, _] _ st 62 (by decide)) | exact r_load1 ty_one25 rfl (hrc [_, _, _] _ st 62 (by decide))) rfl rfl rfl ?_
      refine SL.fin hKq ?_
      -- R2.7 15 := frame.go:109 call
      refine WL.call (r_call ty_call30 rfl) rfl rfl rfl (opaque_ok b (o + 14) f.x f.s1.v f.s4 hf.xr hf.o4 hf.l4 (fun its w' q => (hr its w' q).ip) (fun its w' q => (hr its w' q).rd.d4) st) ?_
      rintro fv w ⟨hfv, st⟩
      obtain rfl := hfv.tt ho
      -- R2.8 16 := frame.go:109 unOp
      refine WL.v (by first | exact r_notT rfl | exact r_notF rfl | exact r_not rfl) rfl rfl rfl ?_
      refine WL.fin hK603 (fun _ _ h => h) ?_
      refine WC.condF rfl rfl ?_
      refine WC.skipF hK602 (fun _ _ h => h) ?_
      refine WC.seq fun K604 hK604 => ?_
      -- region 4
      refine WC.region ?_
      -- R4.0 2 := frame.go:112 assign
      refine WL.v (by first | exact r_assign (v := .nilIface) rfl | exact r_assign (v := .iface _ _) rfl | exact r_assign rfl) rfl rfl rfl ?_
      refine WL.fin hK604 (fun _ _ h => h) ?_
      refine WC.ret1 Tryd.results51 (fun _ _ h => h) rfl ?_
      exact ⟨_, rfl, .inl ⟨rfl, .inl ⟨k1, ho⟩⟩, st⟩
    · skip
      refine enter [.pointer (some ⟨b, o, none⟩)] Tryd.func51 rfl Tryd.ntmps51 rfl ?_
      show WC _ _ _ 54 [] [(0, .pointer (some ⟨b, o, none⟩))] _
      refine WC.seq fun K605 hK605 => ?_
      -- region 0
      refine WC.region ?_
      -- R0.0 2 := frame.go:107 assign
      refine WL.v (by first | exact r_assign (v := .nilIface) rfl | exact r_assign (v := .iface _ _) rfl | exact r_assign rfl) rfl rfl rfl ?_
      refine WL.fin hK605 (fun _ _ h => h) ?_
      refine WC.seq fun K606 hK606 => ?_
      refine WC.seq fun K607 hK607 => ?_
      -- region 1
      refine WC.region ?_
      -- R1.0 3 := frame.go:108 move
      refine WL.v (by first | exact r_move (v := .pointer _) rfl | exact r_move rfl) rfl rfl rfl ?_
      -- R1.1 4 := frame.go:108 nilCheck
      refine WL.v (by exact r_nilCheck rfl) rfl rfl rfl ?_
      -- R1.2 5 := frame.go:108 fieldAddr
      refine WL.v (by exact r_field ty_fld43_0 rfl) rfl rfl rfl ?_
      -- R1.3 6 := frame.go:108 load
      refine WL.v (by first | exact r_load1 ty_one27 rfl (hrc [] _ st 0 (by decide)) | exact r_load1 ty_one27 rfl (hrc _ _ st 0 (by decide)) | exact r_load1 ty_one27 rfl (hrc [_] _ st 0 (by decide)) | exact r_load1 ty_one27 rfl (hrc [_, _] _ st 0 (by decide)) | exact r_load1 ty_one27 rfl (hrc [_, _, _] _ st 0 (by decide))) rfl rfl rfl ?_
      -- R1.4 7 := frame.go:108 binOp
      refine WL.v (by first | exact r_eql rfl rfl (decide_eq_true (by omega)) | exact r_eql rfl rfl (decide_eq_false (by omega)) | exact r_eql rfl rfl rfl) rfl rfl rfl ?_
      refine WL.fin hK607 (fun _ _ h => h) ?_
      refine WC.condT rfl rfl ?_
      refine WC.seq fun K608 hK608 => ?_
      refine WC.seq fun K609 hK609 => ?_
      -- region 2 (draws)
      refine WC.tailS 7 st ty_mixed (by kernel_rfl) fun w st Kq hKq => ?_
      -- R2.0 8 := frame.go:109 move
      refine SL.v (by first | exact r_move (v := .pointer _) rfl | exact r_move rfl) rfl rfl rfl ?_
      -- R2.1 9 := frame.go:109 nilCheck
      refine SL.v (by exact r_nilCheck rfl) rfl rfl rfl ?_
      -- R2.2 10 := frame.go:109 fieldAddr
      refine SL.v (by exact r_field ty_fld43_2 rfl) rfl rfl rfl ?_
      -- R2.3 11 := frame.go:109 move
      refine SL.v (by first | exact r_move (v := .pointer _) rfl | exact r_move rfl) rfl rfl rfl ?_
      -- R2.4 12 := frame.go:109 nilCheck
      refine SL.v (by exact r_nilCheck rfl) rfl rfl rfl ?_
      -- R2.5 13 := frame.go:109 fieldAddr
      refine SL.v (by exact r_field ty_fld43_5 rfl) rfl rfl rfl ?_
      -- R2.6 14 := frame.go:109 load
      refine SL.v (by first | exact r_load1 ty_one25 rfl (hrc [] _ st 62 (by decide)) | exact r_load1 ty_one25 rfl (hrc _ _ st 62 (by decide)) | exact r_load1 ty_one25 rfl (hrc [_] _ st 62 (by decide)) | exact r_load1 ty_one25 rfl (hrc [_, _] _ st 62 (by decide)) | exact r_load1 ty_one25 rfl (hrc [_, _, _] _ st 62 (by decide))) rfl rfl rfl ?_
      refine SL.fin hKq ?_
      -- R2.7 15 := frame.go:109 call
      refine WL.call (r_call ty_call30 rfl) rfl rfl rfl (opaque_ok b (o + 14) f.x f.s1.v f.s4 hf.xr hf.o4 hf.l4 (fun its w' q => (hr its w' q).ip) (fun its w' q => (hr its w' q).rd.d4) st) ?_
      rintro fv w ⟨hfv, st⟩
      obtain rfl := hfv.ff ho
      -- R2.8 16 := frame.go:109 unOp
      refine WL.v (by first | exact r_notT rfl | exact r_notF rfl | exact r_not rfl) rfl rfl rfl ?_
      refine WL.fin hK609 (fun _ _ h => h) ?_
      refine WC.condT rfl rfl ?_
      refine WC.seq fun K610 hK610 => ?_
      -- region 3
      refine WC.region ?_
      -- R3.0 17 := frame.go:110 load
      refine WL.v (by exact r_load1 ty_one47 rfl (st.old (fun h => h) (hE 13 (by decide)))) rfl rfl rfl ?_
      -- R3.1 2 := frame.go:110 assign
      refine WL.v (by first | exact r_assign (v := .nilIface) rfl | exact r_assign (v := .iface _ _) rfl | exact r_assign rfl) rfl rfl rfl ?_
      refine WL.fin hK610 (fun _ _ h => h) ?_
      refine WC.ret1 Tryd.results51 (fun _ _ h => h) rfl ?_
      exact ⟨_, rfl, .inr ⟨⟨_, _, rfl⟩, fun h => h.elim (fun h => ho h.2) (fun h => h.1 k1)⟩, st⟩
  refine enter [.pointer (some ⟨b, o, none⟩)] Tryd.func51 rfl Tryd.ntmps51 rfl ?_
  show WC _ _ _ 54 [] [(0, .pointer (some ⟨b, o, none⟩))] _
  refine WC.seq fun K611 hK611 => ?_
  -- region 0
  refine WC.region ?_
  -- R0.0 2 := frame.go:107 assign
  refine WL.v (by first | exact r_assign (v := .nilIface) rfl | exact r_assign (v := .iface _ _) rfl | exact r_assign rfl) rfl rfl rfl ?_
  refine WL.fin hK611 (fun _ _ h => h) ?_
  refine WC.seq fun K612 hK612 => ?_
  refine WC.seq fun K613 hK613 => ?_
  -- region 1
  refine WC.region ?_
  -- R1.0 3 := frame.go:108 move
  refine WL.v (by first | exact r_move (v := .pointer _) rfl | exact r_move rfl) rfl rfl rfl ?_
  -- R1.1 4 := frame.go:108 nilCheck
  refine WL.v (by exact r_nilCheck rfl) rfl rfl rfl ?_
  -- R1.2 5 := frame.go:108 fieldAddr
  refine WL.v (by exact r_field ty_fld43_0 rfl) rfl rfl rfl ?_
  -- R1.3 6 := frame.go:108 load
  refine WL.v (by first | exact r_load1 ty_one27 rfl (hrc [] _ st 0 (by decide)) | exact r_load1 ty_one27 rfl (hrc _ _ st 0 (by decide)) | exact r_load1 ty_one27 rfl (hrc [_] _ st 0 (by decide)) | exact r_load1 ty_one27 rfl (hrc [_, _] _ st 0 (by decide)) | exact r_load1 ty_one27 rfl (hrc [_, _, _] _ st 0 (by decide))) rfl rfl rfl ?_
  -- R1.4 7 := frame.go:108 binOp
  refine WL.v (by first | exact r_eql rfl rfl (decide_eq_true (by omega)) | exact r_eql rfl rfl (decide_eq_false (by omega)) | exact r_eql rfl rfl rfl) rfl rfl rfl ?_
  refine WL.fin hK613 (fun _ _ h => h) ?_
  refine WC.condF rfl rfl ?_
  refine WC.skipF hK612 (fun _ _ h => h) ?_
  refine WC.seq fun K614 hK614 => ?_
  refine WC.seq fun K615 hK615 => ?_
  -- region 5
  refine WC.region ?_
  -- R5.0 18 := frame.go:114 move
  refine WL.v (by first | exact r_move (v := .pointer _) rfl | exact r_move rfl) rfl rfl rfl ?_
  -- R5.1 19 := frame.go:114 nilCheck
  refine WL.v (by exact r_nilCheck rfl) rfl rfl rfl ?_
  -- R5.2 20 := frame.go:114 fieldAddr
  refine WL.v (by exact r_field ty_fld43_2 rfl) rfl rfl rfl ?_
  -- R5.3 21 := frame.go:114 call
  refine WL.call (r_call ty_call47 rfl) rfl rfl rfl (frag_ok b (o + 14) f.x f.s1.v hf.xr (fun its w' q => (hr its w' q).ip) st) ?_
  rintro fv w ⟨hfv, st⟩
  refine WL.fin hK615 (fun _ _ h => h) ?_
  rcases hfv with ⟨rfl, hfr⟩ | ⟨rfl, hfr⟩
  · skip
    refine WC.condT rfl rfl ?_
    refine WC.seq fun K616 hK616 => ?_
    -- region 6
    refine WC.region ?_
    -- R6.0 22 := frame.go:115 load
    refine WL.v (by exact r_load1 ty_one47 rfl (st.old (fun h => h) (hE 17 (by decide)))) rfl rfl rfl ?_
    -- R6.1 2 := frame.go:115 assign
    refine WL.v (by first | exact r_assign (v := .nilIface) rfl | exact r_assign (v := .iface _ _) rfl | exact r_assign rfl) rfl rfl rfl ?_
    refine WL.fin hK616 (fun _ _ h => h) ?_
    refine WC.ret1 Tryd.results51 (fun _ _ h => h) rfl ?_
    exact ⟨_, rfl, .inr ⟨⟨_, _, rfl⟩, fun h => h.elim (fun h => k1 h.1) (fun h => h.2.1 hfr)⟩, st⟩
  by_cases k2 : f.k = 2
  · by_cases h6 : f.x 6 = 6
    · skip
      refine WC.condF rfl rfl ?_
      refine WC.skipF hK614 (fun _ _ h => h) ?_
      refine WC.seq fun K617 hK617 => ?_
      refine WC.seq fun K618 hK618 => ?_
      -- region 7
      refine WC.region ?_
      -- R7.0 23 := frame.go:117 move
      refine WL.v (by first | exact r_move (v := .pointer _) rfl | exact r_move rfl) rfl rfl rfl ?_
      -- R7.1 24 := frame.go:117 nilCheck
      refine WL.v (by exact r_nilCheck rfl) rfl rfl rfl ?_
      -- R7.2 25 := frame.go:117 fieldAddr
      refine WL.v (by exact r_field ty_fld43_0 rfl) rfl rfl rfl ?_
      -- R7.3 26 := frame.go:117 load
      refine WL.v (by first | exact r_load1 ty_one27 rfl (hrc [] _ st 0 (by decide)) | exact r_load1 ty_one27 rfl (hrc _ _ st 0 (by decide)) | exact r_load1 ty_one27 rfl (hrc [_] _ st 0 (by decide)) | exact r_load1 ty_one27 rfl (hrc [_, _] _ st 0 (by decide)) | exact r_load1 ty_one27 rfl (hrc [_, _, _] _ st 0 (by decide))) rfl rfl rfl ?_
      -- R7.4 27 := frame.go:117 binOp
      refine WL.v (by first | exact r_eql rfl rfl (decide_eq_true (by omega)) | exact r_eql rfl rfl (decide_eq_false (by omega)) | exact r_eql rfl rfl rfl) rfl rfl rfl ?_
      refine WL.fin hK618 (fun _ _ h => h) ?_
      refine WC.condT rfl rfl ?_
      refine WC.seq fun K619 hK619 => ?_
      refine WC.seq fun K620 hK620 => ?_
      -- region 8
      refine WC.region ?_
      -- R8.0 28 := frame.go:118 move
      refine WL.v (by first | exact r_move (v := .pointer _) rfl | exact r_move rfl) rfl rfl rfl ?_
      -- R8.1 29 := frame.go:118 nilCheck
      refine WL.v (by exact r_nilCheck rfl) rfl rfl rfl ?_
      -- R8.2 30 := frame.go:118 fieldAddr
      refine WL.v (by exact r_field ty_fld43_2 rfl) rfl rfl rfl ?_
      -- R8.3 31 := frame.go:118 fieldAddr
      refine WL.v (by exact r_field ty_fld36_6 rfl) rfl rfl rfl ?_
      -- R8.4 32 := frame.go:118 load
      refine WL.v (by first | exact r_load1 ty_one5 rfl (hrc [] _ st 20 (by decide)) | exact r_load1 ty_one5 rfl (hrc _ _ st 20 (by decide)) | exact r_load1 ty_one5 rfl (hrc [_] _ st 20 (by decide)) | exact r_load1 ty_one5 rfl (hrc [_, _] _ st 20 (by decide)) | exact r_load1 ty_one5 rfl (hrc [_, _, _] _ st 20 (by decide))) rfl rfl rfl ?_
      -- R8.5 33 := frame.go:118 binOp
      refine WL.v (by first | exact r_neq rfl rfl (decide_eq_true (by omega)) | exact r_neq rfl rfl (decide_eq_false (by omega)) | exact r_neq rfl rfl rfl) rfl rfl rfl ?_
      refine WL.fin hK620 (fun _ _ h => h) ?_
      refine WC.condF rfl rfl ?_
      refine WC.skipF hK619 (fun _ _ h => h) ?_
      refine WC.seq fun K621 hK621 => ?_
      -- region 10
      refine WC.region ?_
      -- R10.0 35 := frame.go:121 move
      refine WL.v (by first | exact r_move (v := .pointer _) rfl | exact r_move rfl) rfl rfl rfl ?_
      -- R10.1 36 := frame.go:121 nilCheck
      refine WL.v (by exact r_nilCheck rfl) rfl rfl rfl ?_
      -- R10.2 37 := frame.go:121 fieldAddr
      refine WL.v (by exact r_field ty_fld43_3 rfl) rfl rfl rfl ?_
      -- R10.3 38 := frame.go:121 call
      refine WL.call (r_call ty_call74 rfl) rfl rfl rfl (checkTcp_ok hE b (o + 31) f.t f.s2 hf.l2 (fun its w' q => (hr its w' q).tcp) st) ?_
      rintro ev w ⟨hev, st⟩
      -- R10.4 2 := frame.go:121 assign
      refine WL.v (by first | exact r_assign (v := .nilIface) rfl | exact r_assign (v := .iface _ _) rfl | exact r_assign rfl) rfl rfl rfl ?_
      refine WL.fin hK621 (fun _ _ h => h) ?_
      refine WC.ret1 Tryd.results51 (fun _ _ h => h) rfl ?_
      exact ⟨_, rfl, hev.iff_ ⟨fun h => .inr ⟨k1, hfr, .inl ⟨k2, h6, h⟩⟩, fun h => h.elim (fun h => absurd h.1 k1) (fun h => h.2.2.elim (fun h => h.2.2) (fun h => absurd k2 h.1))⟩, st⟩
    · skip
      refine WC.condF rfl rfl ?_
      refine WC.skipF hK614 (fun _ _ h => h) ?_
      refine WC.seq fun K622 hK622 => ?_
      refine WC.seq fun K623 hK623 => ?_
      -- region 7
      refine WC.region ?_
      -- R7.0 23 := frame.go:117 move
      refine WL.v (by first | exact r_move (v := .pointer _) rfl | exact r_move rfl) rfl rfl rfl ?_
      -- R7.1 24 := frame.go:117 nilCheck
      refine WL.v (by exact r_nilCheck rfl) rfl rfl rfl ?_
      -- R7.2 25 := frame.go:117 fieldAddr
      refine WL.v (by exact r_field ty_fld43_0 rfl) rfl rfl rfl ?_
      -- R7.3 26 := frame.go:117 load
      refine WL.v (by first | exact r_load1 ty_one27 rfl (hrc [] _ st 0 (by decide)) | exact r_load1 ty_one27 rfl (hrc _ _ st 0 (by decide)) | exact r_load1 ty_one27 rfl (hrc [_] _ st 0 (by decide)) | exact r_load1 ty_one27 rfl (hrc [_, _] _ st 0 (by decide)) | exact r_load1 ty_one27 rfl (hrc [_, _, _] _ st 0 (by decide))) rfl rfl rfl ?_
      -- R7.4 27 := frame.go:117 binOp
      refine WL.v (by first | exact r_eql rfl rfl (decide_eq_true (by omega)) | exact r_eql rfl rfl (decide_eq_false (by omega)) | exact r_eql rfl rfl rfl) rfl rfl rfl ?_
      refine WL.fin hK623 (fun _ _ h => h) ?_
      refine WC.condT rfl rfl ?_
      refine WC.seq fun K624 hK624 => ?_
      refine WC.seq fun K625 hK625 => ?_
      -- region 8
      refine WC.region ?_
      -- R8.0 28 := frame.go:118 move
      refine WL.v (by first | exact r_move (v := .pointer _) rfl | exact r_move rfl) rfl rfl rfl ?_
      -- R8.1 29 := frame.go:118 nilCheck
      refine WL.v (by exact r_nilCheck rfl) rfl rfl rfl ?_
      -- R8.2 30 := frame.go:118 fieldAddr
      refine WL.v (by exact r_field ty_fld43_2 rfl) rfl rfl rfl ?_
      -- R8.3 31 := frame.go:118 fieldAddr
      refine WL.v (by exact r_field ty_fld36_6 rfl) rfl rfl rfl ?_
      -- R8.4 32 := frame.go:118 load
      refine WL.v (by first | exact r_load1 ty_one5 rfl (hrc [] _ st 20 (by decide)) | exact r_load1 ty_one5 rfl (hrc _ _ st 20 (by decide)) | exact r_load1 ty_one5 rfl (hrc [_] _ st 20 (by decide)) | exact r_load1 ty_one5 rfl (hrc [_, _] _ st 20 (by decide)) | exact r_load1 ty_one5 rfl (hrc [_, _, _] _ st 20 (by decide))) rfl rfl rfl ?_
      -- R8.5 33 := frame.go:118 binOp
      refine WL.v (by first | exact r_neq rfl rfl (decide_eq_true (by omega)) | exact r_neq rfl rfl (decide_eq_false (by omega)) | exact r_neq rfl rfl rfl) rfl rfl rfl ?_
      refine WL.fin hK625 (fun _ _ h => h) ?_
      refine WC.condT rfl rfl ?_
      refine WC.seq fun K626 hK626 => ?_
      -- region 9
      refine WC.region ?_
      -- R9.0 34 := frame.go:119 load
      refine WL.v (by exact r_load1 ty_one47 rfl (st.old (fun h => h) (hE 14 (by decide)))) rfl rfl rfl ?_
      -- R9.1 2 := frame.go:119 assign
      refine WL.v (by first | exact r_assign (v := .nilIface) rfl | exact r_assign (v := .iface _ _) rfl | exact r_assign rfl) rfl rfl rfl ?_
      refine WL.fin hK626 (fun _ _ h => h) ?_
      refine WC.ret1 Tryd.results51 (fun _ _ h => h) rfl ?_
      exact ⟨_, rfl, .inr ⟨⟨_, _, rfl⟩, fun h => h.elim (fun h => k1 h.1) (fun h => h.2.2.elim (fun h => h6 h.2.1) (fun h => h.1 k2))⟩, st⟩
  · by_cases h6 : f.x 6 = 1
    · skip
      refine WC.condF rfl rfl ?_
      refine WC.skipF hK614 (fun _ _ h => h) ?_
      refine WC.seq fun K627 hK627 => ?_
      refine WC.seq fun K628 hK628 => ?_
      -- region 7
      refine WC.region ?_
      -- R7.0 23 := frame.go:117 move
      refine WL.v (by first | exact r_move (v := .pointer _) rfl | exact r_move rfl) rfl rfl rfl ?_
      -- R7.1 24 := frame.go:117 nilCheck
      refine WL.v (by exact r_nilCheck rfl) rfl rfl rfl ?_
      -- R7.2 25 := frame.go:117 fieldAddr
      refine WL.v (by exact r_field ty_fld43_0 rfl) rfl rfl rfl ?_
      -- R7.3 26 := frame.go:117 load
      refine WL.v (by first | exact r_load1 ty_one27 rfl (hrc [] _ st 0 (by decide)) | exact r_load1 ty_one27 rfl (hrc _ _ st 0 (by decide)) | exact r_load1 ty_one27 rfl (hrc [_] _ st 0 (by decide)) | exact r_load1 ty_one27 rfl (hrc [_, _] _ st 0 (by decide)) | exact r_load1 ty_one27 rfl (hrc [_, _, _] _ st 0 (by decide))) rfl rfl rfl ?_
      -- R7.4 27 := frame.go:117 binOp
      refine WL.v (by first | exact r_eql rfl rfl (decide_eq_true (by omega)) | exact r_eql rfl rfl (decide_eq_false (by omega)) | exact r_eql rfl rfl rfl) rfl rfl rfl ?_
      refine WL.fin hK628 (fun _ _ h => h) ?_
      refine WC.condF rfl rfl ?_
      refine WC.skipF hK627 (fun _ _ h => h) ?_
      refine WC.seq fun K629 hK629 => ?_
      refine WC.seq fun K630 hK630 => ?_
      -- region 11
      refine WC.region ?_
      -- R11.0 39 := frame.go:123 move
      refine WL.v (by first | exact r_move (v := .pointer _) rfl | exact r_move rfl) rfl rfl rfl ?_
      -- R11.1 40 := frame.go:123 nilCheck
      refine WL.v (by exact r_nilCheck rfl) rfl rfl rfl ?_
      -- R11.2 41 := frame.go:123 fieldAddr
      refine WL.v (by exact r_field ty_fld43_2 rfl) rfl rfl rfl ?_
      -- R11.3 42 := frame.go:123 fieldAddr
      refine WL.v (by exact r_field ty_fld36_6 rfl) rfl rfl rfl ?_
      -- R11.4 43 := frame.go:123 load
      refine WL.v (by first | exact r_load1 ty_one5 rfl (hrc [] _ st 20 (by decide)) | exact r_load1 ty_one5 rfl (hrc _ _ st 20 (by decide)) | exact r_load1 ty_one5 rfl (hrc [_] _ st 20 (by decide)) | exact r_load1 ty_one5 rfl (hrc [_, _] _ st 20 (by decide)) | exact r_load1 ty_one5 rfl (hrc [_, _, _] _ st 20 (by decide))) rfl rfl rfl ?_
      -- R11.5 44 := frame.go:123 binOp
      refine WL.v (by first | exact r_neq rfl rfl (decide_eq_true (by omega)) | exact r_neq rfl rfl (decide_eq_false (by omega)) | exact r_neq rfl rfl rfl) rfl rfl rfl ?_
      refine WL.fin hK630 (fun _ _ h => h) ?_
      refine WC.condF rfl rfl ?_
      refine WC.skipF hK629 (fun _ _ h => h) ?_
      refine WC.seq fun K631 hK631 => ?_
      -- region 13 (draws)
      refine WC.tailS 7 st ty_mixed (by kernel_rfl) fun w st Kq hKq => ?_
      -- R13.0 46 := frame.go:126 move
      refine SL.v (by first | exact r_move (v := .pointer _) rfl | exact r_move rfl) rfl rfl rfl ?_
      -- R13.1 47 := frame.go:126 nilCheck
      refine SL.v (by exact r_nilCheck rfl) rfl rfl rfl ?_
      -- R13.2 48 := frame.go:126 fieldAddr
      refine SL.v (by exact r_field ty_fld43_4 rfl) rfl rfl rfl ?_
      -- R13.3 49 := frame.go:126 move
      refine SL.v (by first | exact r_move (v := .pointer _) rfl | exact r_move rfl) rfl rfl rfl ?_
      -- R13.4 50 := frame.go:126 nilCheck
      refine SL.v (by exact r_nilCheck rfl) rfl rfl rfl ?_
      -- R13.5 51 := frame.go:126 fieldAddr
      refine SL.v (by exact r_field ty_fld43_5 rfl) rfl rfl rfl ?_
      -- R13.6 52 := frame.go:126 load
      refine SL.v (by first | exact r_load1 ty_one25 rfl (hrc [] _ st 62 (by decide)) | exact r_load1 ty_one25 rfl (hrc _ _ st 62 (by decide)) | exact r_load1 ty_one25 rfl (hrc [_] _ st 62 (by decide)) | exact r_load1 ty_one25 rfl (hrc [_, _] _ st 62 (by decide)) | exact r_load1 ty_one25 rfl (hrc [_, _, _] _ st 62 (by decide))) rfl rfl rfl ?_
      refine SL.fin hKq ?_
      -- R13.7 53 := frame.go:126 call
      refine WL.call (r_call ty_call75 rfl) rfl rfl rfl (checkIc_ok hE b (o + 41) f.y f.z f.s3 f.s4 hf.zr hf.l3 hf.l4 (fun its w' q => (hr its w' q).ic) st) ?_
      rintro ev w ⟨hev, st⟩
      -- R13.8 2 := frame.go:126 assign
      refine WL.v (by first | exact r_assign (v := .nilIface) rfl | exact r_assign (v := .iface _ _) rfl | exact r_assign rfl) rfl rfl rfl ?_
      refine WL.fin hK631 (fun _ _ h => h) ?_
      refine WC.ret1 Tryd.results51 (fun _ _ h => h) rfl ?_
      exact ⟨_, rfl, hev.iff_ ⟨fun h => .inr ⟨k1, hfr, .inr ⟨k2, h6, h⟩⟩, fun h => h.elim (fun h => absurd h.1 k1) (fun h => h.2.2.elim (fun h => absurd h.1 k2) (fun h => h.2.2))⟩, st⟩
    · skip
      refine WC.condF rfl rfl ?_
      refine WC.skipF hK614 (fun _ _ h => h) ?_
      refine WC.seq fun K632 hK632 => ?_
      refine WC.seq fun K633 hK633 => ?_
      -- region 7
      refine WC.region ?_
      -- R7.0 23 := frame.go:117 move
      refine WL.v (by first | exact r_move (v := .pointer _) rfl | exact r_move rfl) rfl rfl rfl ?_
      -- R7.1 24 := frame.go:117 nilCheck
      refine WL.v (by exact r_nilCheck rfl) rfl rfl rfl ?_
      -- R7.2 25 := frame.go:117 fieldAddr
      refine WL.v (by exact r_field ty_fld43_0 rfl) rfl rfl rfl ?_
      -- R7.3 26 := frame.go:117 load
      refine WL.v (by first | exact r_load1 ty_one27 rfl (hrc [] _ st 0 (by decide)) | exact r_load1 ty_one27 rfl (hrc _ _ st 0 (by decide)) | exact r_load1 ty_one27 rfl (hrc [_] _ st 0 (by decide)) | exact r_load1 ty_one27 rfl (hrc [_, _] _ st 0 (by decide)) | exact r_load1 ty_one27 rfl (hrc [_, _, _] _ st 0 (by decide))) rfl rfl rfl ?_
      -- R7.4 27 := frame.go:117 binOp
      refine WL.v (by first | exact r_eql rfl rfl (decide_eq_true (by omega)) | exact r_eql rfl rfl (decide_eq_false (by omega)) | exact r_eql rfl rfl rfl) rfl rfl rfl ?_
      refine WL.fin hK633 (fun _ _ h => h) ?_
      refine WC.condF rfl rfl ?_
      refine WC.skipF hK632 (fun _ _ h => h) ?_
      refine WC.seq fun K634 hK634 => ?_
      refine WC.seq fun K635 hK635 => ?_
      -- region 11
      refine WC.region ?_
      -- R11.0 39 := frame.go:123 move
      refine WL.v (by first | exact r_move (v := .pointer _) rfl | exact r_move rfl) rfl rfl rfl ?_
      -- R11.1 40 := frame.go:123 nilCheck
      refine WL.v (by exact r_nilCheck rfl) rfl rfl rfl ?_
      -- R11.2 41 := frame.go:123 fieldAddr
      refine WL.v (by exact r_field ty_fld43_2 rfl) rfl rfl rfl ?_
      -- R11.3 42 := frame.go:123 fieldAddr
      refine WL.v (by exact r_field ty_fld36_6 rfl) rfl rfl rfl ?_
      -- R11.4 43 := frame.go:123 load
      refine WL.v (by first | exact r_load1 ty_one5 rfl (hrc [] _ st 20 (by decide)) | exact r_load1 ty_one5 rfl (hrc _ _ st 20 (by decide)) | exact r_load1 ty_one5 rfl (hrc [_] _ st 20 (by decide)) | exact r_load1 ty_one5 rfl (hrc [_, _] _ st 20 (by decide)) | exact r_load1 ty_one5 rfl (hrc [_, _, _] _ st 20 (by decide))) rfl rfl rfl ?_
      -- R11.5 44 := frame.go:123 binOp
      refine WL.v (by first | exact r_neq rfl rfl (decide_eq_true (by omega)) | exact r_neq rfl rfl (decide_eq_false (by omega)) | exact r_neq rfl rfl rfl) rfl rfl rfl ?_
      refine WL.fin hK635 (fun _ _ h => h) ?_
      refine WC.condT rfl rfl ?_
      refine WC.seq fun K636 hK636 => ?_
      -- region 12
      refine WC.region ?_
      -- R12.0 45 := frame.go:124 load
      refine WL.v (by exact r_load1 ty_one47 rfl (st.old (fun h => h) (hE 14 (by decide)))) rfl rfl rfl ?_
      -- R12.1 2 := frame.go:124 assign
      refine WL.v (by first | exact r_assign (v := .nilIface) rfl | exact r_assign (v := .iface _ _) rfl | exact r_assign rfl) rfl rfl rfl ?_
      refine WL.fin hK636 (fun _ _ h => h) ?_
      refine WC.ret1 Tryd.results51 (fun _ _ h => h) rfl ?_
      exact ⟨_, rfl, .inr ⟨⟨_, _, rfl⟩, fun h => h.elim (fun h => k1 h.1) (fun h => h.2.2.elim (fun h => k2 h.1) (fun h => h6 h.2.1))⟩, st⟩
end Go.Proofs.Qxb6500841aDoor

