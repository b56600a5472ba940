import Derived.Test.Qxb6500841aDoorX7
set_option linter.unusedVariables false
set_option linter.unusedSimpArgs false
namespace Go.Proofs.Qxb6500841aDoor
open Go.RowKit Go.E1 Go.Wire
variable {w0 : World} {L : List HI} {w : World} {ET : Nat → TypeId} {EU : Nat → Value}

theorem BoolIs.tt {v : Value} {P : Prop} (h : BoolIs v P) (hp : P) : v = .bool true := by
  rcases h with ⟨h, _⟩ | ⟨_, h⟩
  · exact h
  · exact absurd hp h
theorem BoolIs.ff {v : Value} {P : Prop} (h : BoolIs v P) (hp : ¬ P) : v = .bool false := by
  rcases h with ⟨_, h⟩ | ⟨h, _⟩
  · exact absurd h hp
  · exact h
theorem IfErr.ok {v : Value} {P : Prop} (h : IfErr v P) (hp : P) : v = .nilIface := by
  rcases h with ⟨h, _⟩ | ⟨_, h⟩
  · exact h
  · exact absurd hp h
theorem IfErr.bad {v : Value} {P : Prop} (h : IfErr v P) (hp : ¬ P) : ∃ T u, v = .iface T u := by
  rcases h with ⟨_, h⟩ | ⟨h, _⟩
  · exact absurd h hp
  · exact h

structure TcpR (x : Nat → Int) : Prop where
  r0 : 0 ≤ x 0 ∧ x 0 < 65536
  r1 : 0 ≤ x 1 ∧ x 1 < 65536
  r2 : 0 ≤ x 2 ∧ x 2 < 4294967296
  r3 : 0 ≤ x 3 ∧ x 3 < 4294967296
  r4 : 0 ≤ x 4 ∧ x 4 < 256
  r5 : 0 ≤ x 5 ∧ x 5 < 256
  r6 : 0 ≤ x 6 ∧ x 6 < 65536
  r7 : 0 ≤ x 7 ∧ x 7 < 65536
  r8 : 0 ≤ x 8 ∧ x 8 < 65536
structure IcR (y : Nat → Int) : Prop where
  r0 : 0 ≤ y 0 ∧ y 0 < 256
  r1 : 0 ≤ y 1 ∧ y 1 < 256
  r2 : 0 ≤ y 2 ∧ y 2 < 65536
  r3 : 0 ≤ y 3 ∧ y 3 < 4294967296

def zIp (x : Nat → Int) (n : Nat) : Prop := x 0 = 0 ∧ x 1 = 0 ∧ x 2 = 0 ∧ x 3 = 0 ∧ x 4 = 0 ∧ x 5 = 0 ∧ x 6 = 0 ∧ x 7 = 0 ∧ (x 8 = 0 ∧ x 9 = 0 ∧ x 10 = 0 ∧ x 11 = 0) ∧ (x 12 = 0 ∧ x 13 = 0 ∧ x 14 = 0 ∧ x 15 = 0) ∧ n = 0
def zTcp (x : Nat → Int) (n : Nat) : Prop := x 0 = 0 ∧ x 1 = 0 ∧ x 2 = 0 ∧ x 3 = 0 ∧ x 4 = 0 ∧ x 5 = 0 ∧ x 6 = 0 ∧ x 7 = 0 ∧ x 8 = 0 ∧ n = 0
def zIc (y x : Nat → Int) (n : Nat) : Prop := y 0 = 0 ∧ y 1 = 0 ∧ y 2 = 0 ∧ y 3 = 0 ∧ zIp x n
def tcpP (x : Nat → Int) (n : Nat) : Prop := x 4 ≤ 15 ∧ optP n
def icP (y x : Nat → Int) (n m : Nat) : Prop := icmpE (y 0) ∧ ipP x n ∧ 8 ≤ m

set_option maxHeartbeats 8000000 in
set_option maxRecDepth 20000 in
theorem zIp_ok (b o : Nat) (x : Nat → Int) (s : SV) (hx : IpR x) (hr : ∀ its w', S0 w0 (its ++ L) w' → CF w' b o 17 (nth (ipL x s.v))) (st : S0 w0 L w) :
    Calls Tryd.prog 70 #[.pointer (some ⟨b, o, none⟩)] w (Ret fun v w' => BoolIs v (zIp x s.bs.length) ∧ S0 w0 L w') := by
  by_cases c0 : x 0 = 0
  case neg =>
    refine enter [.pointer (some ⟨b, o, none⟩)] Tryd.func70 rfl Tryd.ntmps70 rfl ?_
    show WC _ _ _ 81 [] [(0, .pointer (some ⟨b, o, none⟩))] _
    refine WC.seq fun K426 hK426 => ?_
    -- region 0
    refine WC.region ?_
    -- R0.0 2 := frame.go:63 assign
    refine WL.v (by first | exact r_assign (v := .bool _) rfl | exact r_assign rfl) rfl rfl rfl ?_
    refine WL.fin hK426 (fun _ _ h => h) ?_
    refine WC.seq fun K427 hK427 => ?_
    -- region 1
    refine WC.region ?_
    -- R1.0 3 := frame.go:64 move
    refine WL.v (by first | exact r_move (v := .pointer _) rfl | exact r_move rfl) rfl rfl rfl ?_
    -- R1.1 4 := frame.go:64 nilCheck
    refine WL.v (by exact r_nilCheck rfl) rfl rfl rfl ?_
    -- R1.2 5 := frame.go:64 fieldAddr
    refine WL.v (by exact r_field ty_fld36_0 rfl) rfl rfl rfl ?_
    -- R1.3 6 := frame.go:64 load
    refine WL.v (by first | exact r_load1 ty_one5 rfl (hr [] _ st 0 (by decide)) | exact r_load1 ty_one5 rfl (hr _ _ st 0 (by decide)) | exact r_load1 ty_one5 rfl (hr [_] _ st 0 (by decide)) | exact r_load1 ty_one5 rfl (hr [_, _] _ st 0 (by decide)) | exact r_load1 ty_one5 rfl (hr [_, _, _] _ st 0 (by decide))) rfl rfl rfl ?_
    -- R1.4 7 := frame.go:64 binOp
    refine WL.v (by first | exact r_eql rfl rfl (decide_eq_true (by omega)) | exact r_eql rfl rfl (decide_eq_false (by omega)) | exact r_eql rfl rfl rfl) rfl rfl rfl ?_
    -- R1.5 8 := frame.go:64 move
    refine WL.v (by first | exact r_move (v := .bool _) rfl | exact r_move rfl) rfl rfl rfl ?_
    -- R1.6 9 := frame.go:64 move
    refine WL.no rfl rfl ?_
    -- R1.7 10 := frame.go:64 nilCheck
    refine WL.no rfl rfl ?_
    -- R1.8 11 := frame.go:64 fieldAddr
    refine WL.no rfl rfl ?_
    -- R1.9 12 := frame.go:64 load
    refine WL.no rfl rfl ?_
    -- R1.10 13 := frame.go:64 binOp
    refine WL.no rfl rfl ?_
    -- R1.11 14 := frame.go:64 pick
    refine WL.v (by first | exact r_pickT (v := .bool _) rfl rfl | exact r_pickF (v := .bool _) rfl rfl) rfl rfl rfl ?_
    -- R1.12 15 := frame.go:64 move
    refine WL.v (by first | exact r_move (v := .bool _) rfl | exact r_move rfl) rfl rfl rfl ?_
    -- R1.13 16 := frame.go:64 move
    refine WL.no rfl rfl ?_
    -- R1.14 17 := frame.go:64 nilCheck
    refine WL.no rfl rfl ?_
    -- R1.15 18 := frame.go:64 fieldAddr
    refine WL.no rfl rfl ?_
    -- R1.16 19 := frame.go:64 load
    refine WL.no rfl rfl ?_
    -- R1.17 20 := frame.go:64 binOp
    refine WL.no rfl rfl ?_
    -- R1.18 21 := frame.go:64 pick
    refine WL.v (by first | exact r_pickT (v := .bool _) rfl rfl | exact r_pickF (v := .bool _) rfl rfl) rfl rfl rfl ?_
    -- R1.19 22 := frame.go:64 move
    refine WL.v (by first | exact r_move (v := .bool _) rfl | exact r_move rfl) rfl rfl rfl ?_
    -- R1.20 23 := frame.go:64 move
    refine WL.no rfl rfl ?_
    -- R1.21 24 := frame.go:64 nilCheck
    refine WL.no rfl rfl ?_
    -- R1.22 25 := frame.go:64 fieldAddr
    refine WL.no rfl rfl ?_
    -- R1.23 26 := frame.go:64 load
    refine WL.no rfl rfl ?_
    -- R1.24 27 := frame.go:64 binOp
    refine WL.no rfl rfl ?_
    -- R1.25 28 := frame.go:64 pick
    refine WL.v (by first | exact r_pickT (v := .bool _) rfl rfl | exact r_pickF (v := .bool _) rfl rfl) rfl rfl rfl ?_
    -- R1.26 29 := frame.go:64 move
    refine WL.v (by first | exact r_move (v := .bool _) rfl | exact r_move rfl) rfl rfl rfl ?_
    -- R1.27 30 := frame.go:64 move
    refine WL.no rfl rfl ?_
    -- R1.28 31 := frame.go:64 nilCheck
    refine WL.no rfl rfl ?_
    -- R1.29 32 := frame.go:64 fieldAddr
    refine WL.no rfl rfl ?_
    -- R1.30 33 := frame.go:64 load
    refine WL.no rfl rfl ?_
    -- R1.31 34 := frame.go:64 binOp
    refine WL.no rfl rfl ?_
    -- R1.32 35 := frame.go:64 pick
    refine WL.v (by first | exact r_pickT (v := .bool _) rfl rfl | exact r_pickF (v := .bool _) rfl rfl) rfl rfl rfl ?_
    -- R1.33 36 := frame.go:64 move
    refine WL.v (by first | exact r_move (v := .bool _) rfl | exact r_move rfl) rfl rfl rfl ?_
    -- R1.34 37 := frame.go:64 move
    refine WL.no rfl rfl ?_
    -- R1.35 38 := frame.go:64 nilCheck
    refine WL.no rfl rfl ?_
    -- R1.36 39 := frame.go:64 fieldAddr
    refine WL.no rfl rfl ?_
    -- R1.37 40 := frame.go:64 load
    refine WL.no rfl rfl ?_
    -- R1.38 41 := frame.go:64 binOp
    refine WL.no rfl rfl ?_
    -- R1.39 42 := frame.go:64 pick
    refine WL.v (by first | exact r_pickT (v := .bool _) rfl rfl | exact r_pickF (v := .bool _) rfl rfl) rfl rfl rfl ?_
    -- R1.40 43 := frame.go:64 move
    refine WL.v (by first | exact r_move (v := .bool _) rfl | exact r_move rfl) rfl rfl rfl ?_
    -- R1.41 44 := frame.go:64 move
    refine WL.no rfl rfl ?_
    -- R1.42 45 := frame.go:64 nilCheck
    refine WL.no rfl rfl ?_
    -- R1.43 46 := frame.go:64 fieldAddr
    refine WL.no rfl rfl ?_
    -- R1.44 47 := frame.go:64 load
    refine WL.no rfl rfl ?_
    -- R1.45 48 := frame.go:64 binOp
    refine WL.no rfl rfl ?_
    -- R1.46 49 := frame.go:64 pick
    refine WL.v (by first | exact r_pickT (v := .bool _) rfl rfl | exact r_pickF (v := .bool _) rfl rfl) rfl rfl rfl ?_
    -- R1.47 50 := frame.go:64 move
    refine WL.v (by first | exact r_move (v := .bool _) rfl | exact r_move rfl) rfl rfl rfl ?_
    -- R1.48 51 := frame.go:64 move
    refine WL.no rfl rfl ?_
    -- R1.49 52 := frame.go:64 nilCheck
    refine WL.no rfl rfl ?_
    -- R1.50 53 := frame.go:64 fieldAddr
    refine WL.no rfl rfl ?_
    -- R1.51 54 := frame.go:64 load
    refine WL.no rfl rfl ?_
    -- R1.52 55 := frame.go:64 binOp
    refine WL.no rfl rfl ?_
    -- R1.53 56 := frame.go:64 pick
    refine WL.v (by first | exact r_pickT (v := .bool _) rfl rfl | exact r_pickF (v := .bool _) rfl rfl) rfl rfl rfl ?_
    -- R1.54 57 := frame.go:64 move
    refine WL.v (by first | exact r_move (v := .bool _) rfl | exact r_move rfl) rfl rfl rfl ?_
    -- R1.55 58 := frame.go:64 move
    refine WL.no rfl rfl ?_
    -- R1.56 59 := frame.go:64 nilCheck
    refine WL.no rfl rfl ?_
    -- R1.57 60 := frame.go:64 fieldAddr
    refine WL.no rfl rfl ?_
    -- R1.58 61 := frame.go:64 load
    refine WL.no rfl rfl ?_
    -- R1.59 62 := frame.go:64 build
    refine WL.no rfl rfl ?_
    -- R1.60 63 := frame.go:64 binOp
    refine WL.no rfl rfl ?_
    -- R1.61 64 := frame.go:64 pick
    refine WL.v (by first | exact r_pickT (v := .bool _) rfl rfl | exact r_pickF (v := .bool _) rfl rfl) rfl rfl rfl ?_
    -- R1.62 65 := frame.go:64 move
    refine WL.v (by first | exact r_move (v := .bool _) rfl | exact r_move rfl) rfl rfl rfl ?_
    -- R1.63 66 := frame.go:64 move
    refine WL.no rfl rfl ?_
    -- R1.64 67 := frame.go:64 nilCheck
    refine WL.no rfl rfl ?_
    -- R1.65 68 := frame.go:64 fieldAddr
    refine WL.no rfl rfl ?_
    -- R1.66 69 := frame.go:64 load
    refine WL.no rfl rfl ?_
    -- R1.67 70 := frame.go:64 build
    refine WL.no rfl rfl ?_
    -- R1.68 71 := frame.go:64 binOp
    refine WL.no rfl rfl ?_
    -- R1.69 72 := frame.go:64 pick
    refine WL.v (by first | exact r_pickT (v := .bool _) rfl rfl | exact r_pickF (v := .bool _) rfl rfl) rfl rfl rfl ?_
    -- R1.70 73 := frame.go:64 move
    refine WL.v (by first | exact r_move (v := .bool _) rfl | exact r_move rfl) rfl rfl rfl ?_
    -- R1.71 74 := frame.go:64 move
    refine WL.no rfl rfl ?_
    -- R1.72 75 := frame.go:64 nilCheck
    refine WL.no rfl rfl ?_
    -- R1.73 76 := frame.go:64 fieldAddr
    refine WL.no rfl rfl ?_
    -- R1.74 77 := frame.go:64 load
    refine WL.no rfl rfl ?_
    -- R1.75 78 := frame.go:64 call
    refine WL.no rfl rfl ?_
    -- R1.76 79 := frame.go:64 binOp
    refine WL.no rfl rfl ?_
    -- R1.77 80 := frame.go:64 pick
    refine WL.v (by first | exact r_pickT (v := .bool _) rfl rfl | exact r_pickF (v := .bool _) rfl rfl) rfl rfl rfl ?_
    -- R1.78 2 := frame.go:64 assign
    refine WL.v (by first | exact r_assign (v := .bool _) rfl | exact r_assign rfl) rfl rfl rfl ?_
    refine WL.fin hK427 (fun _ _ h => h) ?_
    refine WC.ret1 Tryd.results70 (fun _ _ h => h) rfl ?_
    exact ⟨_, rfl, .inr ⟨rfl, fun h => by simp only [zIp] at h; omega⟩, st⟩
  by_cases c1 : x 1 = 0
  case neg =>
    refine enter [.pointer (some ⟨b, o, none⟩)] Tryd.func70 rfl Tryd.ntmps70 rfl ?_
    show WC _ _ _ 81 [] [(0, .pointer (some ⟨b, o, none⟩))] _
    refine WC.seq fun K428 hK428 => ?_
    -- region 0
    refine WC.region ?_
    -- R0.0 2 := frame.go:63 assign
    refine WL.v (by first | exact r_assign (v := .bool _) rfl | exact r_assign rfl) rfl rfl rfl ?_
    refine WL.fin hK428 (fun _ _ h => h) ?_
    refine WC.seq fun K429 hK429 => ?_
    -- region 1
    refine WC.region ?_
    -- R1.0 3 := frame.go:64 move
    refine WL.v (by first | exact r_move (v := .pointer _) rfl | exact r_move rfl) rfl rfl rfl ?_
    -- R1.1 4 := frame.go:64 nilCheck
    refine WL.v (by exact r_nilCheck rfl) rfl rfl rfl ?_
    -- R1.2 5 := frame.go:64 fieldAddr
    refine WL.v (by exact r_field ty_fld36_0 rfl) rfl rfl rfl ?_
    -- R1.3 6 := frame.go:64 load
    refine WL.v (by first | exact r_load1 ty_one5 rfl (hr [] _ st 0 (by decide)) | exact r_load1 ty_one5 rfl (hr _ _ st 0 (by decide)) | exact r_load1 ty_one5 rfl (hr [_] _ st 0 (by decide)) | exact r_load1 ty_one5 rfl (hr [_, _] _ st 0 (by decide)) | exact r_load1 ty_one5 rfl (hr [_, _, _] _ st 0 (by decide))) rfl rfl rfl ?_
    -- R1.4 7 := frame.go:64 binOp
    refine WL.v (by first | exact r_eql rfl rfl (decide_eq_true (by omega)) | exact r_eql rfl rfl (decide_eq_false (by omega)) | exact r_eql rfl rfl rfl) rfl rfl rfl ?_
    -- R1.5 8 := frame.go:64 move
    refine WL.v (by first | exact r_move (v := .bool _) rfl | exact r_move rfl) rfl rfl rfl ?_
    -- R1.6 9 := frame.go:64 move
    refine WL.v (by first | exact r_move (v := .pointer _) rfl | exact r_move rfl) rfl rfl rfl ?_
    -- R1.7 10 := frame.go:64 nilCheck
    refine WL.v (by exact r_nilCheck rfl) rfl rfl rfl ?_
    -- R1.8 11 := frame.go:64 fieldAddr
    refine WL.v (by exact r_field ty_fld36_1 rfl) rfl rfl rfl ?_
    -- R1.9 12 := frame.go:64 load
    refine WL.v (by first | exact r_load1 ty_one30 rfl (hr [] _ st 1 (by decide)) | exact r_load1 ty_one30 rfl (hr _ _ st 1 (by decide)) | exact r_load1 ty_one30 rfl (hr [_] _ st 1 (by decide)) | exact r_load1 ty_one30 rfl (hr [_, _] _ st 1 (by decide)) | exact r_load1 ty_one30 rfl (hr [_, _, _] _ st 1 (by decide))) rfl rfl rfl ?_
    -- R1.10 13 := frame.go:64 binOp
    refine WL.v (by first | exact r_eql rfl rfl (decide_eq_true (by omega)) | exact r_eql rfl rfl (decide_eq_false (by omega)) | exact r_eql rfl rfl rfl) rfl rfl rfl ?_
    -- R1.11 14 := frame.go:64 pick
    refine WL.v (by first | exact r_pickT (v := .bool _) rfl rfl | exact r_pickF (v := .bool _) rfl rfl) rfl rfl rfl ?_
    -- R1.12 15 := frame.go:64 move
    refine WL.v (by first | exact r_move (v := .bool _) rfl | exact r_move rfl) rfl rfl rfl ?_
    -- R1.13 16 := frame.go:64 move
    refine WL.no rfl rfl ?_
    -- R1.14 17 := frame.go:64 nilCheck
    refine WL.no rfl rfl ?_
    -- R1.15 18 := frame.go:64 fieldAddr
    refine WL.no rfl rfl ?_
    -- R1.16 19 := frame.go:64 load
    refine WL.no rfl rfl ?_
    -- R1.17 20 := frame.go:64 binOp
    refine WL.no rfl rfl ?_
    -- R1.18 21 := frame.go:64 pick
    refine WL.v (by first | exact r_pickT (v := .bool _) rfl rfl | exact r_pickF (v := .bool _) rfl rfl) rfl rfl rfl ?_
    -- R1.19 22 := frame.go:64 move
    refine WL.v (by first | exact r_move (v := .bool _) rfl | exact r_move rfl) rfl rfl rfl ?_
    -- R1.20 23 := frame.go:64 move
    refine WL.no rfl rfl ?_
    -- R1.21 24 := frame.go:64 nilCheck
    refine WL.no rfl rfl ?_
    -- R1.22 25 := frame.go:64 fieldAddr
    refine WL.no rfl rfl ?_
    -- R1.23 26 := frame.go:64 load
    refine WL.no rfl rfl ?_
    -- R1.24 27 := frame.go:64 binOp
    refine WL.no rfl rfl ?_
    -- R1.25 28 := frame.go:64 pick
    refine WL.v (by first | exact r_pickT (v := .bool _) rfl rfl | exact r_pickF (v := .bool _) rfl rfl) rfl rfl rfl ?_
    -- R1.26 29 := frame.go:64 move
    refine WL.v (by first | exact r_move (v := .bool _) rfl | exact r_move rfl) rfl rfl rfl ?_
    -- R1.27 30 := frame.go:64 move
    refine WL.no rfl rfl ?_
    -- R1.28 31 := frame.go:64 nilCheck
    refine WL.no rfl rfl ?_
    -- R1.29 32 := frame.go:64 fieldAddr
    refine WL.no rfl rfl ?_
    -- R1.30 33 := frame.go:64 load
    refine WL.no rfl rfl ?_
    -- R1.31 34 := frame.go:64 binOp
    refine WL.no rfl rfl ?_
    -- R1.32 35 := frame.go:64 pick
    refine WL.v (by first | exact r_pickT (v := .bool _) rfl rfl | exact r_pickF (v := .bool _) rfl rfl) rfl rfl rfl ?_
    -- R1.33 36 := frame.go:64 move
    refine WL.v (by first | exact r_move (v := .bool _) rfl | exact r_move rfl) rfl rfl rfl ?_
    -- R1.34 37 := frame.go:64 move
    refine WL.no rfl rfl ?_
    -- R1.35 38 := frame.go:64 nilCheck
    refine WL.no rfl rfl ?_
    -- R1.36 39 := frame.go:64 fieldAddr
    refine WL.no rfl rfl ?_
    -- R1.37 40 := frame.go:64 load
    refine WL.no rfl rfl ?_
    -- R1.38 41 := frame.go:64 binOp
    refine WL.no rfl rfl ?_
    -- R1.39 42 := frame.go:64 pick
    refine WL.v (by first | exact r_pickT (v := .bool _) rfl rfl | exact r_pickF (v := .bool _) rfl rfl) rfl rfl rfl ?_
    -- R1.40 43 := frame.go:64 move
    refine WL.v (by first | exact r_move (v := .bool _) rfl | exact r_move rfl) rfl rfl rfl ?_
    -- R1.41 44 := frame.go:64 move
    refine WL.no rfl rfl ?_
    -- R1.42 45 := frame.go:64 nilCheck
    refine WL.no rfl rfl ?_
    -- R1.43 46 := frame.go:64 fieldAddr
    refine WL.no rfl rfl ?_
    -- R1.44 47 := frame.go:64 load
    refine WL.no rfl rfl ?_
    -- R1.45 48 := frame.go:64 binOp
    refine WL.no rfl rfl ?_
    -- R1.46 49 := frame.go:64 pick
    refine WL.v (by first | exact r_pickT (v := .bool _) rfl rfl | exact r_pickF (v := .bool _) rfl rfl) rfl rfl rfl ?_
    -- R1.47 50 := frame.go:64 move
    refine WL.v (by first | exact r_move (v := .bool _) rfl | exact r_move rfl) rfl rfl rfl ?_
    -- R1.48 51 := frame.go:64 move
    refine WL.no rfl rfl ?_
    -- R1.49 52 := frame.go:64 nilCheck
    refine WL.no rfl rfl ?_
    -- R1.50 53 := frame.go:64 fieldAddr
    refine WL.no rfl rfl ?_
    -- R1.51 54 := frame.go:64 load
    refine WL.no rfl rfl ?_
    -- R1.52 55 := frame.go:64 binOp
    refine WL.no rfl rfl ?_
    -- R1.53 56 := frame.go:64 pick
    refine WL.v (by first | exact r_pickT (v := .bool _) rfl rfl | exact r_pickF (v := .bool _) rfl rfl) rfl rfl rfl ?_
    -- R1.54 57 := frame.go:64 move
    refine WL.v (by first | exact r_move (v := .bool _) rfl | exact r_move rfl) rfl rfl rfl ?_
    -- R1.55 58 := frame.go:64 move
    refine WL.no rfl rfl ?_
    -- R1.56 59 := frame.go:64 nilCheck
    refine WL.no rfl rfl ?_
    -- R1.57 60 := frame.go:64 fieldAddr
    refine WL.no rfl rfl ?_
    -- R1.58 61 := frame.go:64 load
    refine WL.no rfl rfl ?_
    -- R1.59 62 := frame.go:64 build
    refine WL.no rfl rfl ?_
    -- R1.60 63 := frame.go:64 binOp
    refine WL.no rfl rfl ?_
    -- R1.61 64 := frame.go:64 pick
    refine WL.v (by first | exact r_pickT (v := .bool _) rfl rfl | exact r_pickF (v := .bool _) rfl rfl) rfl rfl rfl ?_
    -- R1.62 65 := frame.go:64 move
    refine WL.v (by first | exact r_move (v := .bool _) rfl | exact r_move rfl) rfl rfl rfl ?_
    -- R1.63 66 := frame.go:64 move
    refine WL.no rfl rfl ?_
    -- R1.64 67 := frame.go:64 nilCheck
    refine WL.no rfl rfl ?_
    -- R1.65 68 := frame.go:64 fieldAddr
    refine WL.no rfl rfl ?_
    -- R1.66 69 := frame.go:64 load
    refine WL.no rfl rfl ?_
    -- R1.67 70 := frame.go:64 build
    refine WL.no rfl rfl ?_
    -- R1.68 71 := frame.go:64 binOp
    refine WL.no rfl rfl ?_
    -- R1.69 72 := frame.go:64 pick
    refine WL.v (by first | exact r_pickT (v := .bool _) rfl rfl | exact r_pickF (v := .bool _) rfl rfl) rfl rfl rfl ?_
    -- R1.70 73 := frame.go:64 move
    refine WL.v (by first | exact r_move (v := .bool _) rfl | exact r_move rfl) rfl rfl rfl ?_
    -- R1.71 74 := frame.go:64 move
    refine WL.no rfl rfl ?_
    -- R1.72 75 := frame.go:64 nilCheck
    refine WL.no rfl rfl ?_
    -- R1.73 76 := frame.go:64 fieldAddr
    refine WL.no rfl rfl ?_
    -- R1.74 77 := frame.go:64 load
    refine WL.no rfl rfl ?_
    -- R1.75 78 := frame.go:64 call
    refine WL.no rfl rfl ?_
    -- R1.76 79 := frame.go:64 binOp
    refine WL.no rfl rfl ?_
    -- R1.77 80 := frame.go:64 pick
    refine WL.v (by first | exact r_pickT (v := .bool _) rfl rfl | exact r_pickF (v := .bool _) rfl rfl) rfl rfl rfl ?_
    -- R1.78 2 := frame.go:64 assign
    refine WL.v (by first | exact r_assign (v := .bool _) rfl | exact r_assign rfl) rfl rfl rfl ?_
    refine WL.fin hK429 (fun _ _ h => h) ?_
    refine WC.ret1 Tryd.results70 (fun _ _ h => h) rfl ?_
    exact ⟨_, rfl, .inr ⟨rfl, fun h => by simp only [zIp] at h; omega⟩, st⟩
  by_cases c2 : x 2 = 0
  case neg =>
    refine enter [.pointer (some ⟨b, o, none⟩)] Tryd.func70 rfl Tryd.ntmps70 rfl ?_
    show WC _ _ _ 81 [] [(0, .pointer (some ⟨b, o, none⟩))] _
    refine WC.seq fun K430 hK430 => ?_
    -- region 0
    refine WC.region ?_
    -- R0.0 2 := frame.go:63 assign
    refine WL.v (by first | exact r_assign (v := .bool _) rfl | exact r_assign rfl) rfl rfl rfl ?_
    refine WL.fin hK430 (fun _ _ h => h) ?_
    refine WC.seq fun K431 hK431 => ?_
    -- region 1
    refine WC.region ?_
    -- R1.0 3 := frame.go:64 move
    refine WL.v (by first | exact r_move (v := .pointer _) rfl | exact r_move rfl) rfl rfl rfl ?_
    -- R1.1 4 := frame.go:64 nilCheck
    refine WL.v (by exact r_nilCheck rfl) rfl rfl rfl ?_
    -- R1.2 5 := frame.go:64 fieldAddr
    refine WL.v (by exact r_field ty_fld36_0 rfl) rfl rfl rfl ?_
    -- R1.3 6 := frame.go:64 load
    refine WL.v (by first | exact r_load1 ty_one5 rfl (hr [] _ st 0 (by decide)) | exact r_load1 ty_one5 rfl (hr _ _ st 0 (by decide)) | exact r_load1 ty_one5 rfl (hr [_] _ st 0 (by decide)) | exact r_load1 ty_one5 rfl (hr [_, _] _ st 0 (by decide)) | exact r_load1 ty_one5 rfl (hr [_, _, _] _ st 0 (by decide))) rfl rfl rfl ?_
    -- R1.4 7 := frame.go:64 binOp
    refine WL.v (by first | exact r_eql rfl rfl (decide_eq_true (by omega)) | exact r_eql rfl rfl (decide_eq_false (by omega)) | exact r_eql rfl rfl rfl) rfl rfl rfl ?_
    -- R1.5 8 := frame.go:64 move
    refine WL.v (by first | exact r_move (v := .bool _) rfl | exact r_move rfl) rfl rfl rfl ?_
    -- R1.6 9 := frame.go:64 move
    refine WL.v (by first | exact r_move (v := .pointer _) rfl | exact r_move rfl) rfl rfl rfl ?_
    -- R1.7 10 := frame.go:64 nilCheck
    refine WL.v (by exact r_nilCheck rfl) rfl rfl rfl ?_
    -- R1.8 11 := frame.go:64 fieldAddr
    refine WL.v (by exact r_field ty_fld36_1 rfl) rfl rfl rfl ?_
    -- R1.9 12 := frame.go:64 load
    refine WL.v (by first | exact r_load1 ty_one30 rfl (hr [] _ st 1 (by decide)) | exact r_load1 ty_one30 rfl (hr _ _ st 1 (by decide)) | exact r_load1 ty_one30 rfl (hr [_] _ st 1 (by decide)) | exact r_load1 ty_one30 rfl (hr [_, _] _ st 1 (by decide)) | exact r_load1 ty_one30 rfl (hr [_, _, _] _ st 1 (by decide))) rfl rfl rfl ?_
    -- R1.10 13 := frame.go:64 binOp
    refine WL.v (by first | exact r_eql rfl rfl (decide_eq_true (by omega)) | exact r_eql rfl rfl (decide_eq_false (by omega)) | exact r_eql rfl rfl rfl) rfl rfl rfl ?_
    -- R1.11 14 := frame.go:64 pick
    refine WL.v (by first | exact r_pickT (v := .bool _) rfl rfl | exact r_pickF (v := .bool _) rfl rfl) rfl rfl rfl ?_
    -- R1.12 15 := frame.go:64 move
    refine WL.v (by first | exact r_move (v := .bool _) rfl | exact r_move rfl) rfl rfl rfl ?_
    -- R1.13 16 := frame.go:64 move
    refine WL.v (by first | exact r_move (v := .pointer _) rfl | exact r_move rfl) rfl rfl rfl ?_
    -- R1.14 17 := frame.go:64 nilCheck
    refine WL.v (by exact r_nilCheck rfl) rfl rfl rfl ?_
    -- R1.15 18 := frame.go:64 fieldAddr
    refine WL.v (by exact r_field ty_fld36_2 rfl) rfl rfl rfl ?_
    -- R1.16 19 := frame.go:64 load
    refine WL.v (by first | exact r_load1 ty_one30 rfl (hr [] _ st 2 (by decide)) | exact r_load1 ty_one30 rfl (hr _ _ st 2 (by decide)) | exact r_load1 ty_one30 rfl (hr [_] _ st 2 (by decide)) | exact r_load1 ty_one30 rfl (hr [_, _] _ st 2 (by decide)) | exact r_load1 ty_one30 rfl (hr [_, _, _] _ st 2 (by decide))) rfl rfl rfl ?_
    -- R1.17 20 := frame.go:64 binOp
    refine WL.v (by first | exact r_eql rfl rfl (decide_eq_true (by omega)) | exact r_eql rfl rfl (decide_eq_false (by omega)) | exact r_eql rfl rfl rfl) rfl rfl rfl ?_
    -- R1.18 21 := frame.go:64 pick
    refine WL.v (by first | exact r_pickT (v := .bool _) rfl rfl | exact r_pickF (v := .bool _) rfl rfl) rfl rfl rfl ?_
    -- R1.19 22 := frame.go:64 move
    refine WL.v (by first | exact r_move (v := .bool _) rfl | exact r_move rfl) rfl rfl rfl ?_
    -- R1.20 23 := frame.go:64 move
    refine WL.no rfl rfl ?_
    -- R1.21 24 := frame.go:64 nilCheck
    refine WL.no rfl rfl ?_
    -- R1.22 25 := frame.go:64 fieldAddr
    refine WL.no rfl rfl ?_
    -- R1.23 26 := frame.go:64 load
    refine WL.no rfl rfl ?_
    -- R1.24 27 := frame.go:64 binOp
    refine WL.no rfl rfl ?_
    -- R1.25 28 := frame.go:64 pick
    refine WL.v (by first | exact r_pickT (v := .bool _) rfl rfl | exact r_pickF (v := .bool _) rfl rfl) rfl rfl rfl ?_
    -- R1.26 29 := frame.go:64 move
    refine WL.v (by first | exact r_move (v := .bool _) rfl | exact r_move rfl) rfl rfl rfl ?_
    -- R1.27 30 := frame.go:64 move
    refine WL.no rfl rfl ?_
    -- R1.28 31 := frame.go:64 nilCheck
    refine WL.no rfl rfl ?_
    -- R1.29 32 := frame.go:64 fieldAddr
    refine WL.no rfl rfl ?_
    -- R1.30 33 := frame.go:64 load
    refine WL.no rfl rfl ?_
    -- R1.31 34 := frame.go:64 binOp
    refine WL.no rfl rfl ?_
    -- R1.32 35 := frame.go:64 pick
    refine WL.v (by first | exact r_pickT (v := .bool _) rfl rfl | exact r_pickF (v := .bool _) rfl rfl) rfl rfl rfl ?_
    -- R1.33 36 := frame.go:64 move
    refine WL.v (by first | exact r_move (v := .bool _) rfl | exact r_move rfl) rfl rfl rfl ?_
    -- R1.34 37 := frame.go:64 move
    refine WL.no rfl rfl ?_
    -- R1.35 38 := frame.go:64 nilCheck
    refine WL.no rfl rfl ?_
    -- R1.36 39 := frame.go:64 fieldAddr
    refine WL.no rfl rfl ?_
    -- R1.37 40 := frame.go:64 load
    refine WL.no rfl rfl ?_
    -- R1.38 41 := frame.go:64 binOp
    refine WL.no rfl rfl ?_
    -- R1.39 42 := frame.go:64 pick
    refine WL.v (by first | exact r_pickT (v := .bool _) rfl rfl | exact r_pickF (v := .bool _) rfl rfl) rfl rfl rfl ?_
    -- R1.40 43 := frame.go:64 move
    refine WL.v (by first | exact r_move (v := .bool _) rfl | exact r_move rfl) rfl rfl rfl ?_
    -- R1.41 44 := frame.go:64 move
    refine WL.no rfl rfl ?_
    -- R1.42 45 := frame.go:64 nilCheck
    refine WL.no rfl rfl ?_
    -- R1.43 46 := frame.go:64 fieldAddr
    refine WL.no rfl rfl ?_
    -- R1.44 47 := frame.go:64 load
    refine WL.no rfl rfl ?_
    -- R1.45 48 := frame.go:64 binOp
    refine WL.no rfl rfl ?_
    -- R1.46 49 := frame.go:64 pick
    refine WL.v (by first | exact r_pickT (v := .bool _) rfl rfl | exact r_pickF (v := .bool _) rfl rfl) rfl rfl rfl ?_
    -- R1.47 50 := frame.go:64 move
    refine WL.v (by first | exact r_move (v := .bool _) rfl | exact r_move rfl) rfl rfl rfl ?_
    -- R1.48 51 := frame.go:64 move
    refine WL.no rfl rfl ?_
    -- R1.49 52 := frame.go:64 nilCheck
    refine WL.no rfl rfl ?_
    -- R1.50 53 := frame.go:64 fieldAddr
    refine WL.no rfl rfl ?_
    -- R1.51 54 := frame.go:64 load
    refine WL.no rfl rfl ?_
    -- R1.52 55 := frame.go:64 binOp
    refine WL.no rfl rfl ?_
    -- R1.53 56 := frame.go:64 pick
    refine WL.v (by first | exact r_pickT (v := .bool _) rfl rfl | exact r_pickF (v := .bool _) rfl rfl) rfl rfl rfl ?_
    -- R1.54 57 := frame.go:64 move
    refine WL.v (by first | exact r_move (v := .bool _) rfl | exact r_move rfl) rfl rfl rfl ?_
    -- R1.55 58 := frame.go:64 move
    refine WL.no rfl rfl ?_
    -- R1.56 59 := frame.go:64 nilCheck
    refine WL.no rfl rfl ?_
    -- R1.57 60 := frame.go:64 fieldAddr
    refine WL.no rfl rfl ?_
    -- R1.58 61 := frame.go:64 load
    refine WL.no rfl rfl ?_
    -- R1.59 62 := frame.go:64 build
    refine WL.no rfl rfl ?_
    -- R1.60 63 := frame.go:64 binOp
    refine WL.no rfl rfl ?_
    -- R1.61 64 := frame.go:64 pick
    refine WL.v (by first | exact r_pickT (v := .bool _) rfl rfl | exact r_pickF (v := .bool _) rfl rfl) rfl rfl rfl ?_
    -- R1.62 65 := frame.go:64 move
    refine WL.v (by first | exact r_move (v := .bool _) rfl | exact r_move rfl) rfl rfl rfl ?_
    -- R1.63 66 := frame.go:64 move
    refine WL.no rfl rfl ?_
    -- R1.64 67 := frame.go:64 nilCheck
    refine WL.no rfl rfl ?_
    -- R1.65 68 := frame.go:64 fieldAddr
    refine WL.no rfl rfl ?_
    -- R1.66 69 := frame.go:64 load
    refine WL.no rfl rfl ?_
    -- R1.67 70 := frame.go:64 build
    refine WL.no rfl rfl ?_
    -- R1.68 71 := frame.go:64 binOp
    refine WL.no rfl rfl ?_
    -- R1.69 72 := frame.go:64 pick
    refine WL.v (by first | exact r_pickT (v := .bool _) rfl rfl | exact r_pickF (v := .bool _) rfl rfl) rfl rfl rfl ?_
    -- R1.70 73 := frame.go:64 move
    refine WL.v (by first | exact r_move (v := .bool _) rfl | exact r_move rfl) rfl rfl rfl ?_
    -- R1.71 74 := frame.go:64 move
    refine WL.no rfl rfl ?_
    -- R1.72 75 := frame.go:64 nilCheck
    refine WL.no rfl rfl ?_
    -- R1.73 76 := frame.go:64 fieldAddr
    refine WL.no rfl rfl ?_
    -- R1.74 77 := frame.go:64 load
    refine WL.no rfl rfl ?_
    -- R1.75 78 := frame.go:64 call
    refine WL.no rfl rfl ?_
    -- R1.76 79 := frame.go:64 binOp
    refine WL.no rfl rfl ?_
    -- R1.77 80 := frame.go:64 pick
    refine WL.v (by first | exact r_pickT (v := .bool _) rfl rfl | exact r_pickF (v := .bool _) rfl rfl) rfl rfl rfl ?_
    -- R1.78 2 := frame.go:64 assign
    refine WL.v (by first | exact r_assign (v := .bool _) rfl | exact r_assign rfl) rfl rfl rfl ?_
    refine WL.fin hK431 (fun _ _ h => h) ?_
    refine WC.ret1 Tryd.results70 (fun _ _ h => h) rfl ?_
    exact ⟨_, rfl, .inr ⟨rfl, fun h => by simp only [zIp] at h; omega⟩, st⟩
  by_cases c3 : x 3 = 0
  case neg =>
    refine enter [.pointer (some ⟨b, o, none⟩)] Tryd.func70 rfl Tryd.ntmps70 rfl ?_
    show WC _ _ _ 81 [] [(0, .pointer (some ⟨b, o, none⟩))] _
    refine WC.seq fun K432 hK432 => ?_
    -- region 0
    refine WC.region ?_
    -- R0.0 2 := frame.go:63 assign
    refine WL.v (by first | exact r_assign (v := .bool _) rfl | exact r_assign rfl) rfl rfl rfl ?_
    refine WL.fin hK432 (fun _ _ h => h) ?_
    refine WC.seq fun K433 hK433 => ?_
    -- region 1
    refine WC.region ?_
    -- R1.0 3 := frame.go:64 move
    refine WL.v (by first | exact r_move (v := .pointer _) rfl | exact r_move rfl) rfl rfl rfl ?_
    -- R1.1 4 := frame.go:64 nilCheck
    refine WL.v (by exact r_nilCheck rfl) rfl rfl rfl ?_
    -- R1.2 5 := frame.go:64 fieldAddr
    refine WL.v (by exact r_field ty_fld36_0 rfl) rfl rfl rfl ?_
    -- R1.3 6 := frame.go:64 load
    refine WL.v (by first | exact r_load1 ty_one5 rfl (hr [] _ st 0 (by decide)) | exact r_load1 ty_one5 rfl (hr _ _ st 0 (by decide)) | exact r_load1 ty_one5 rfl (hr [_] _ st 0 (by decide)) | exact r_load1 ty_one5 rfl (hr [_, _] _ st 0 (by decide)) | exact r_load1 ty_one5 rfl (hr [_, _, _] _ st 0 (by decide))) rfl rfl rfl ?_
    -- R1.4 7 := frame.go:64 binOp
    refine WL.v (by first | exact r_eql rfl rfl (decide_eq_true (by omega)) | exact r_eql rfl rfl (decide_eq_false (by omega)) | exact r_eql rfl rfl rfl) rfl rfl rfl ?_
    -- R1.5 8 := frame.go:64 move
    refine WL.v (by first | exact r_move (v := .bool _) rfl | exact r_move rfl) rfl rfl rfl ?_
    -- R1.6 9 := frame.go:64 move
    refine WL.v (by first | exact r_move (v := .pointer _) rfl | exact r_move rfl) rfl rfl rfl ?_
    -- R1.7 10 := frame.go:64 nilCheck
    refine WL.v (by exact r_nilCheck rfl) rfl rfl rfl ?_
    -- R1.8 11 := frame.go:64 fieldAddr
    refine WL.v (by exact r_field ty_fld36_1 rfl) rfl rfl rfl ?_
    -- R1.9 12 := frame.go:64 load
    refine WL.v (by first | exact r_load1 ty_one30 rfl (hr [] _ st 1 (by decide)) | exact r_load1 ty_one30 rfl (hr _ _ st 1 (by decide)) | exact r_load1 ty_one30 rfl (hr [_] _ st 1 (by decide)) | exact r_load1 ty_one30 rfl (hr [_, _] _ st 1 (by decide)) | exact r_load1 ty_one30 rfl (hr [_, _, _] _ st 1 (by decide))) rfl rfl rfl ?_
    -- R1.10 13 := frame.go:64 binOp
    refine WL.v (by first | exact r_eql rfl rfl (decide_eq_true (by omega)) | exact r_eql rfl rfl (decide_eq_false (by omega)) | exact r_eql rfl rfl rfl) rfl rfl rfl ?_
    -- R1.11 14 := frame.go:64 pick
    refine WL.v (by first | exact r_pickT (v := .bool _) rfl rfl | exact r_pickF (v := .bool _) rfl rfl) rfl rfl rfl ?_
    -- R1.12 15 := frame.go:64 move
    refine WL.v (by first | exact r_move (v := .bool _) rfl | exact r_move rfl) rfl rfl rfl ?_
    -- R1.13 16 := frame.go:64 move
    refine WL.v (by first | exact r_move (v := .pointer _) rfl | exact r_move rfl) rfl rfl rfl ?_
    -- R1.14 17 := frame.go:64 nilCheck
    refine WL.v (by exact r_nilCheck rfl) rfl rfl rfl ?_
    -- R1.15 18 := frame.go:64 fieldAddr
    refine WL.v (by exact r_field ty_fld36_2 rfl) rfl rfl rfl ?_
    -- R1.16 19 := frame.go:64 load
    refine WL.v (by first | exact r_load1 ty_one30 rfl (hr [] _ st 2 (by decide)) | exact r_load1 ty_one30 rfl (hr _ _ st 2 (by decide)) | exact r_load1 ty_one30 rfl (hr [_] _ st 2 (by decide)) | exact r_load1 ty_one30 rfl (hr [_, _] _ st 2 (by decide)) | exact r_load1 ty_one30 rfl (hr [_, _, _] _ st 2 (by decide))) rfl rfl rfl ?_
    -- R1.17 20 := frame.go:64 binOp
    refine WL.v (by first | exact r_eql rfl rfl (decide_eq_true (by omega)) | exact r_eql rfl rfl (decide_eq_false (by omega)) | exact r_eql rfl rfl rfl) rfl rfl rfl ?_
    -- R1.18 21 := frame.go:64 pick
    refine WL.v (by first | exact r_pickT (v := .bool _) rfl rfl | exact r_pickF (v := .bool _) rfl rfl) rfl rfl rfl ?_
    -- R1.19 22 := frame.go:64 move
    refine WL.v (by first | exact r_move (v := .bool _) rfl | exact r_move rfl) rfl rfl rfl ?_
    -- R1.20 23 := frame.go:64 move
    refine WL.v (by first | exact r_move (v := .pointer _) rfl | exact r_move rfl) rfl rfl rfl ?_
    -- R1.21 24 := frame.go:64 nilCheck
    refine WL.v (by exact r_nilCheck rfl) rfl rfl rfl ?_
    -- R1.22 25 := frame.go:64 fieldAddr
    refine WL.v (by exact r_field ty_fld36_3 rfl) rfl rfl rfl ?_
    -- R1.23 26 := frame.go:64 load
    refine WL.v (by first | exact r_load1 ty_one5 rfl (hr [] _ st 3 (by decide)) | exact r_load1 ty_one5 rfl (hr _ _ st 3 (by decide)) | exact r_load1 ty_one5 rfl (hr [_] _ st 3 (by decide)) | exact r_load1 ty_one5 rfl (hr [_, _] _ st 3 (by decide)) | exact r_load1 ty_one5 rfl (hr [_, _, _] _ st 3 (by decide))) rfl rfl rfl ?_
    -- R1.24 27 := frame.go:64 binOp
    refine WL.v (by first | exact r_eql rfl rfl (decide_eq_true (by omega)) | exact r_eql rfl rfl (decide_eq_false (by omega)) | exact r_eql rfl rfl rfl) rfl rfl rfl ?_
    -- R1.25 28 := frame.go:64 pick
    refine WL.v (by first | exact r_pickT (v := .bool _) rfl rfl | exact r_pickF (v := .bool _) rfl rfl) rfl rfl rfl ?_
    -- R1.26 29 := frame.go:64 move
    refine WL.v (by first | exact r_move (v := .bool _) rfl | exact r_move rfl) rfl rfl rfl ?_
    -- R1.27 30 := frame.go:64 move
    refine WL.no rfl rfl ?_
    -- R1.28 31 := frame.go:64 nilCheck
    refine WL.no rfl rfl ?_
    -- R1.29 32 := frame.go:64 fieldAddr
    refine WL.no rfl rfl ?_
    -- R1.30 33 := frame.go:64 load
    refine WL.no rfl rfl ?_
    -- R1.31 34 := frame.go:64 binOp
    refine WL.no rfl rfl ?_
    -- R1.32 35 := frame.go:64 pick
    refine WL.v (by first | exact r_pickT (v := .bool _) rfl rfl | exact r_pickF (v := .bool _) rfl rfl) rfl rfl rfl ?_
    -- R1.33 36 := frame.go:64 move
    refine WL.v (by first | exact r_move (v := .bool _) rfl | exact r_move rfl) rfl rfl rfl ?_
    -- R1.34 37 := frame.go:64 move
    refine WL.no rfl rfl ?_
    -- R1.35 38 := frame.go:64 nilCheck
    refine WL.no rfl rfl ?_
    -- R1.36 39 := frame.go:64 fieldAddr
    refine WL.no rfl rfl ?_
    -- R1.37 40 := frame.go:64 load
    refine WL.no rfl rfl ?_
    -- R1.38 41 := frame.go:64 binOp
    refine WL.no rfl rfl ?_
    -- R1.39 42 := frame.go:64 pick
    refine WL.v (by first | exact r_pickT (v := .bool _) rfl rfl | exact r_pickF (v := .bool _) rfl rfl) rfl rfl rfl ?_
    -- R1.40 43 := frame.go:64 move
    refine WL.v (by first | exact r_move (v := .bool _) rfl | exact r_move rfl) rfl rfl rfl ?_
    -- R1.41 44 := frame.go:64 move
    refine WL.no rfl rfl ?_
    -- R1.42 45 := frame.go:64 nilCheck
    refine WL.no rfl rfl ?_
    -- R1.43 46 := frame.go:64 fieldAddr
    refine WL.no rfl rfl ?_
    -- R1.44 47 := frame.go:64 load
    refine WL.no rfl rfl ?_
    -- R1.45 48 := frame.go:64 binOp
    refine WL.no rfl rfl ?_
    -- R1.46 49 := frame.go:64 pick
    refine WL.v (by first | exact r_pickT (v := .bool _) rfl rfl | exact r_pickF (v := .bool _) rfl rfl) rfl rfl rfl ?_
    -- R1.47 50 := frame.go:64 move
    refine WL.v (by first | exact r_move (v := .bool _) rfl | exact r_move rfl) rfl rfl rfl ?_
    -- R1.48 51 := frame.go:64 move
    refine WL.no rfl rfl ?_
    -- R1.49 52 := frame.go:64 nilCheck
    refine WL.no rfl rfl ?_
    -- R1.50 53 := frame.go:64 fieldAddr
    refine WL.no rfl rfl ?_
    -- R1.51 54 := frame.go:64 load
    refine WL.no rfl rfl ?_
    -- R1.52 55 := frame.go:64 binOp
    refine WL.no rfl rfl ?_
    -- R1.53 56 := frame.go:64 pick
    refine WL.v (by first | exact r_pickT (v := .bool _) rfl rfl | exact r_pickF (v := .bool _) rfl rfl) rfl rfl rfl ?_
    -- R1.54 57 := frame.go:64 move
    refine WL.v (by first | exact r_move (v := .bool _) rfl | exact r_move rfl) rfl rfl rfl ?_
    -- R1.55 58 := frame.go:64 move
    refine WL.no rfl rfl ?_
    -- R1.56 59 := frame.go:64 nilCheck
    refine WL.no rfl rfl ?_
    -- R1.57 60 := frame.go:64 fieldAddr
    refine WL.no rfl rfl ?_
    -- R1.58 61 := frame.go:64 load
    refine WL.no rfl rfl ?_
    -- R1.59 62 := frame.go:64 build
    refine WL.no rfl rfl ?_
    -- R1.60 63 := frame.go:64 binOp
    refine WL.no rfl rfl ?_
    -- R1.61 64 := frame.go:64 pick
    refine WL.v (by first | exact r_pickT (v := .bool _) rfl rfl | exact r_pickF (v := .bool _) rfl rfl) rfl rfl rfl ?_
    -- R1.62 65 := frame.go:64 move
    refine WL.v (by first | exact r_move (v := .bool _) rfl | exact r_move rfl) rfl rfl rfl ?_
    -- R1.63 66 := frame.go:64 move
    refine WL.no rfl rfl ?_
    -- R1.64 67 := frame.go:64 nilCheck
    refine WL.no rfl rfl ?_
    -- R1.65 68 := frame.go:64 fieldAddr
    refine WL.no rfl rfl ?_
    -- R1.66 69 := frame.go:64 load
    refine WL.no rfl rfl ?_
    -- R1.67 70 := frame.go:64 build
    refine WL.no rfl rfl ?_
    -- R1.68 71 := frame.go:64 binOp
    refine WL.no rfl rfl ?_
    -- R1.69 72 := frame.go:64 pick
    refine WL.v (by first | exact r_pickT (v := .bool _) rfl rfl | exact r_pickF (v := .bool _) rfl rfl) rfl rfl rfl ?_
    -- R1.70 73 := frame.go:64 move
    refine WL.v (by first | exact r_move (v := .bool _) rfl | exact r_move rfl) rfl rfl rfl ?_
    -- R1.71 74 := frame.go:64 move
    refine WL.no rfl rfl ?_
    -- R1.72 75 := frame.go:64 nilCheck
    refine WL.no rfl rfl ?_
    -- R1.73 76 := frame.go:64 fieldAddr
    refine WL.no rfl rfl ?_
    -- R1.74 77 := frame.go:64 load
    refine WL.no rfl rfl ?_
    -- R1.75 78 := frame.go:64 call
    refine WL.no rfl rfl ?_
    -- R1.76 79 := frame.go:64 binOp
    refine WL.no rfl rfl ?_
    -- R1.77 80 := frame.go:64 pick
    refine WL.v (by first | exact r_pickT (v := .bool _) rfl rfl | exact r_pickF (v := .bool _) rfl rfl) rfl rfl rfl ?_
    -- R1.78 2 := frame.go:64 assign
    refine WL.v (by first | exact r_assign (v := .bool _) rfl | exact r_assign rfl) rfl rfl rfl ?_
    refine WL.fin hK433 (fun _ _ h => h) ?_
    refine WC.ret1 Tryd.results70 (fun _ _ h => h) rfl ?_
    exact ⟨_, rfl, .inr ⟨rfl, fun h => by simp only [zIp] at h; omega⟩, st⟩
  by_cases c4 : x 4 = 0
  case neg =>
    refine enter [.pointer (some ⟨b, o, none⟩)] Tryd.func70 rfl Tryd.ntmps70 rfl ?_
    show WC _ _ _ 81 [] [(0, .pointer (some ⟨b, o, none⟩))] _
    refine WC.seq fun K434 hK434 => ?_
    -- region 0
    refine WC.region ?_
    -- R0.0 2 := frame.go:63 assign
    refine WL.v (by first | exact r_assign (v := .bool _) rfl | exact r_assign rfl) rfl rfl rfl ?_
    refine WL.fin hK434 (fun _ _ h => h) ?_
    refine WC.seq fun K435 hK435 => ?_
    -- region 1
    refine WC.region ?_
    -- R1.0 3 := frame.go:64 move
    refine WL.v (by first | exact r_move (v := .pointer _) rfl | exact r_move rfl) rfl rfl rfl ?_
    -- R1.1 4 := frame.go:64 nilCheck
    refine WL.v (by exact r_nilCheck rfl) rfl rfl rfl ?_
    -- R1.2 5 := frame.go:64 fieldAddr
    refine WL.v (by exact r_field ty_fld36_0 rfl) rfl rfl rfl ?_
    -- R1.3 6 := frame.go:64 load
    refine WL.v (by first | exact r_load1 ty_one5 rfl (hr [] _ st 0 (by decide)) | exact r_load1 ty_one5 rfl (hr _ _ st 0 (by decide)) | exact r_load1 ty_one5 rfl (hr [_] _ st 0 (by decide)) | exact r_load1 ty_one5 rfl (hr [_, _] _ st 0 (by decide)) | exact r_load1 ty_one5 rfl (hr [_, _, _] _ st 0 (by decide))) rfl rfl rfl ?_
    -- R1.4 7 := frame.go:64 binOp
    refine WL.v (by first | exact r_eql rfl rfl (decide_eq_true (by omega)) | exact r_eql rfl rfl (decide_eq_false (by omega)) | exact r_eql rfl rfl rfl) rfl rfl rfl ?_
    -- R1.5 8 := frame.go:64 move
    refine WL.v (by first | exact r_move (v := .bool _) rfl | exact r_move rfl) rfl rfl rfl ?_
    -- R1.6 9 := frame.go:64 move
    refine WL.v (by first | exact r_move (v := .pointer _) rfl | exact r_move rfl) rfl rfl rfl ?_
    -- R1.7 10 := frame.go:64 nilCheck
    refine WL.v (by exact r_nilCheck rfl) rfl rfl rfl ?_
    -- R1.8 11 := frame.go:64 fieldAddr
    refine WL.v (by exact r_field ty_fld36_1 rfl) rfl rfl rfl ?_
    -- R1.9 12 := frame.go:64 load
    refine WL.v (by first | exact r_load1 ty_one30 rfl (hr [] _ st 1 (by decide)) | exact r_load1 ty_one30 rfl (hr _ _ st 1 (by decide)) | exact r_load1 ty_one30 rfl (hr [_] _ st 1 (by decide)) | exact r_load1 ty_one30 rfl (hr [_, _] _ st 1 (by decide)) | exact r_load1 ty_one30 rfl (hr [_, _, _] _ st 1 (by decide))) rfl rfl rfl ?_
    -- R1.10 13 := frame.go:64 binOp
    refine WL.v (by first | exact r_eql rfl rfl (decide_eq_true (by omega)) | exact r_eql rfl rfl (decide_eq_false (by omega)) | exact r_eql rfl rfl rfl) rfl rfl rfl ?_
    -- R1.11 14 := frame.go:64 pick
    refine WL.v (by first | exact r_pickT (v := .bool _) rfl rfl | exact r_pickF (v := .bool _) rfl rfl) rfl rfl rfl ?_
    -- R1.12 15 := frame.go:64 move
    refine WL.v (by first | exact r_move (v := .bool _) rfl | exact r_move rfl) rfl rfl rfl ?_
    -- R1.13 16 := frame.go:64 move
    refine WL.v (by first | exact r_move (v := .pointer _) rfl | exact r_move rfl) rfl rfl rfl ?_
    -- R1.14 17 := frame.go:64 nilCheck
    refine WL.v (by exact r_nilCheck rfl) rfl rfl rfl ?_
    -- R1.15 18 := frame.go:64 fieldAddr
    refine WL.v (by exact r_field ty_fld36_2 rfl) rfl rfl rfl ?_
    -- R1.16 19 := frame.go:64 load
    refine WL.v (by first | exact r_load1 ty_one30 rfl (hr [] _ st 2 (by decide)) | exact r_load1 ty_one30 rfl (hr _ _ st 2 (by decide)) | exact r_load1 ty_one30 rfl (hr [_] _ st 2 (by decide)) | exact r_load1 ty_one30 rfl (hr [_, _] _ st 2 (by decide)) | exact r_load1 ty_one30 rfl (hr [_, _, _] _ st 2 (by decide))) rfl rfl rfl ?_
    -- R1.17 20 := frame.go:64 binOp
    refine WL.v (by first | exact r_eql rfl rfl (decide_eq_true (by omega)) | exact r_eql rfl rfl (decide_eq_false (by omega)) | exact r_eql rfl rfl rfl) rfl rfl rfl ?_
    -- R1.18 21 := frame.go:64 pick
    refine WL.v (by first | exact r_pickT (v := .bool _) rfl rfl | exact r_pickF (v := .bool _) rfl rfl) rfl rfl rfl ?_
    -- R1.19 22 := frame.go:64 move
    refine WL.v (by first | exact r_move (v := .bool _) rfl | exact r_move rfl) rfl rfl rfl ?_
    -- R1.20 23 := frame.go:64 move
    refine WL.v (by first | exact r_move (v := .pointer _) rfl | exact r_move rfl) rfl rfl rfl ?_
    -- R1.21 24 := frame.go:64 nilCheck
    refine WL.v (by exact r_nilCheck rfl) rfl rfl rfl ?_
    -- R1.22 25 := frame.go:64 fieldAddr
    refine WL.v (by exact r_field ty_fld36_3 rfl) rfl rfl rfl ?_
    -- R1.23 26 := frame.go:64 load
    refine WL.v (by first | exact r_load1 ty_one5 rfl (hr [] _ st 3 (by decide)) | exact r_load1 ty_one5 rfl (hr _ _ st 3 (by decide)) | exact r_load1 ty_one5 rfl (hr [_] _ st 3 (by decide)) | exact r_load1 ty_one5 rfl (hr [_, _] _ st 3 (by decide)) | exact r_load1 ty_one5 rfl (hr [_, _, _] _ st 3 (by decide))) rfl rfl rfl ?_
    -- R1.24 27 := frame.go:64 binOp
    refine WL.v (by first | exact r_eql rfl rfl (decide_eq_true (by omega)) | exact r_eql rfl rfl (decide_eq_false (by omega)) | exact r_eql rfl rfl rfl) rfl rfl rfl ?_
    -- R1.25 28 := frame.go:64 pick
    refine WL.v (by first | exact r_pickT (v := .bool _) rfl rfl | exact r_pickF (v := .bool _) rfl rfl) rfl rfl rfl ?_
    -- R1.26 29 := frame.go:64 move
    refine WL.v (by first | exact r_move (v := .bool _) rfl | exact r_move rfl) rfl rfl rfl ?_
    -- R1.27 30 := frame.go:64 move
    refine WL.v (by first | exact r_move (v := .pointer _) rfl | exact r_move rfl) rfl rfl rfl ?_
    -- R1.28 31 := frame.go:64 nilCheck
    refine WL.v (by exact r_nilCheck rfl) rfl rfl rfl ?_
    -- R1.29 32 := frame.go:64 fieldAddr
    refine WL.v (by exact r_field ty_fld36_4 rfl) rfl rfl rfl ?_
    -- R1.30 33 := frame.go:64 load
    refine WL.v (by first | exact r_load1 ty_one30 rfl (hr [] _ st 4 (by decide)) | exact r_load1 ty_one30 rfl (hr _ _ st 4 (by decide)) | exact r_load1 ty_one30 rfl (hr [_] _ st 4 (by decide)) | exact r_load1 ty_one30 rfl (hr [_, _] _ st 4 (by decide)) | exact r_load1 ty_one30 rfl (hr [_, _, _] _ st 4 (by decide))) rfl rfl rfl ?_
    -- R1.31 34 := frame.go:64 binOp
    refine WL.v (by first | exact r_eql rfl rfl (decide_eq_true (by omega)) | exact r_eql rfl rfl (decide_eq_false (by omega)) | exact r_eql rfl rfl rfl) rfl rfl rfl ?_
    -- R1.32 35 := frame.go:64 pick
    refine WL.v (by first | exact r_pickT (v := .bool _) rfl rfl | exact r_pickF (v := .bool _) rfl rfl) rfl rfl rfl ?_
    -- R1.33 36 := frame.go:64 move
    refine WL.v (by first | exact r_move (v := .bool _) rfl | exact r_move rfl) rfl rfl rfl ?_
    -- R1.34 37 := frame.go:64 move
    refine WL.no rfl rfl ?_
    -- R1.35 38 := frame.go:64 nilCheck
    refine WL.no rfl rfl ?_
    -- R1.36 39 := frame.go:64 fieldAddr
    refine WL.no rfl rfl ?_
    -- R1.37 40 := frame.go:64 load
    refine WL.no rfl rfl ?_
    -- R1.38 41 := frame.go:64 binOp
    refine WL.no rfl rfl ?_
    -- R1.39 42 := frame.go:64 pick
    refine WL.v (by first | exact r_pickT (v := .bool _) rfl rfl | exact r_pickF (v := .bool _) rfl rfl) rfl rfl rfl ?_
    -- R1.40 43 := frame.go:64 move
    refine WL.v (by first | exact r_move (v := .bool _) rfl | exact r_move rfl) rfl rfl rfl ?_
    -- R1.41 44 := frame.go:64 move
    refine WL.no rfl rfl ?_
    -- R1.42 45 := frame.go:64 nilCheck
    refine WL.no rfl rfl ?_
    -- R1.43 46 := frame.go:64 fieldAddr
    refine WL.no rfl rfl ?_
    -- R1.44 47 := frame.go:64 load
    refine WL.no rfl rfl ?_
    -- R1.45 48 := frame.go:64 binOp
    refine WL.no rfl rfl ?_
    -- R1.46 49 := frame.go:64 pick
    refine WL.v (by first | exact r_pickT (v := .bool _) rfl rfl | exact r_pickF (v := .bool _) rfl rfl) rfl rfl rfl ?_
    -- R1.47 50 := frame.go:64 move
    refine WL.v (by first | exact r_move (v := .bool _) rfl | exact r_move rfl) rfl rfl rfl ?_
    -- R1.48 51 := frame.go:64 move
    refine WL.no rfl rfl ?_
    -- R1.49 52 := frame.go:64 nilCheck
    refine WL.no rfl rfl ?_
    -- R1.50 53 := frame.go:64 fieldAddr
    refine WL.no rfl rfl ?_
    -- R1.51 54 := frame.go:64 load
    refine WL.no rfl rfl ?_
    -- R1.52 55 := frame.go:64 binOp
    refine WL.no rfl rfl ?_
    -- R1.53 56 := frame.go:64 pick
    refine WL.v (by first | exact r_pickT (v := .bool _) rfl rfl | exact r_pickF (v := .bool _) rfl rfl) rfl rfl rfl ?_
    -- R1.54 57 := frame.go:64 move
    refine WL.v (by first | exact r_move (v := .bool _) rfl | exact r_move rfl) rfl rfl rfl ?_
    -- R1.55 58 := frame.go:64 move
    refine WL.no rfl rfl ?_
    -- R1.56 59 := frame.go:64 nilCheck
    refine WL.no rfl rfl ?_
    -- R1.57 60 := frame.go:64 fieldAddr
    refine WL.no rfl rfl ?_
    -- R1.58 61 := frame.go:64 load
    refine WL.no rfl rfl ?_
    -- R1.59 62 := frame.go:64 build
    refine WL.no rfl rfl ?_
    -- R1.60 63 := frame.go:64 binOp
    refine WL.no rfl rfl ?_
    -- R1.61 64 := frame.go:64 pick
    refine WL.v (by first | exact r_pickT (v := .bool _) rfl rfl | exact r_pickF (v := .bool _) rfl rfl) rfl rfl rfl ?_
    -- R1.62 65 := frame.go:64 move
    refine WL.v (by first | exact r_move (v := .bool _) rfl | exact r_move rfl) rfl rfl rfl ?_
    -- R1.63 66 := frame.go:64 move
    refine WL.no rfl rfl ?_
    -- R1.64 67 := frame.go:64 nilCheck
    refine WL.no rfl rfl ?_
    -- R1.65 68 := frame.go:64 fieldAddr
    refine WL.no rfl rfl ?_
    -- R1.66 69 := frame.go:64 load
    refine WL.no rfl rfl ?_
    -- R1.67 70 := frame.go:64 build
    refine WL.no rfl rfl ?_
    -- R1.68 71 := frame.go:64 binOp
    refine WL.no rfl rfl ?_
    -- R1.69 72 := frame.go:64 pick
    refine WL.v (by first | exact r_pickT (v := .bool _) rfl rfl | exact r_pickF (v := .bool _) rfl rfl) rfl rfl rfl ?_
    -- R1.70 73 := frame.go:64 move
    refine WL.v (by first | exact r_move (v := .bool _) rfl | exact r_move rfl) rfl rfl rfl ?_
    -- R1.71 74 := frame.go:64 move
    refine WL.no rfl rfl ?_
    -- R1.72 75 := frame.go:64 nilCheck
    refine WL.no rfl rfl ?_
    -- R1.73 76 := frame.go:64 fieldAddr
    refine WL.no rfl rfl ?_
    -- R1.74 77 := frame.go:64 load
    refine WL.no rfl rfl ?_
    -- R1.75 78 := frame.go:64 call
    refine WL.no rfl rfl ?_
    -- R1.76 79 := frame.go:64 binOp
    refine WL.no rfl rfl ?_
    -- R1.77 80 := frame.go:64 pick
    refine WL.v (by first | exact r_pickT (v := .bool _) rfl rfl | exact r_pickF (v := .bool _) rfl rfl) rfl rfl rfl ?_
    -- R1.78 2 := frame.go:64 assign
    refine WL.v (by first | exact r_assign (v := .bool _) rfl | exact r_assign rfl) rfl rfl rfl ?_
    refine WL.fin hK435 (fun _ _ h => h) ?_
    refine WC.ret1 Tryd.results70 (fun _ _ h => h) rfl ?_
    exact ⟨_, rfl, .inr ⟨rfl, fun h => by simp only [zIp] at h; omega⟩, st⟩
  by_cases c5 : x 5 = 0
  case neg =>
    refine enter [.pointer (some ⟨b, o, none⟩)] Tryd.func70 rfl Tryd.ntmps70 rfl ?_
    show WC _ _ _ 81 [] [(0, .pointer (some ⟨b, o, none⟩))] _
    refine WC.seq fun K436 hK436 => ?_
    -- region 0
    refine WC.region ?_
    -- R0.0 2 := frame.go:63 assign
    refine WL.v (by first | exact r_assign (v := .bool _) rfl | exact r_assign rfl) rfl rfl rfl ?_
    refine WL.fin hK436 (fun _ _ h => h) ?_
    refine WC.seq fun K437 hK437 => ?_
    -- region 1
    refine WC.region ?_
    -- R1.0 3 := frame.go:64 move
    refine WL.v (by first | exact r_move (v := .pointer _) rfl | exact r_move rfl) rfl rfl rfl ?_
    -- R1.1 4 := frame.go:64 nilCheck
    refine WL.v (by exact r_nilCheck rfl) rfl rfl rfl ?_
    -- R1.2 5 := frame.go:64 fieldAddr
    refine WL.v (by exact r_field ty_fld36_0 rfl) rfl rfl rfl ?_
    -- R1.3 6 := frame.go:64 load
    refine WL.v (by first | exact r_load1 ty_one5 rfl (hr [] _ st 0 (by decide)) | exact r_load1 ty_one5 rfl (hr _ _ st 0 (by decide)) | exact r_load1 ty_one5 rfl (hr [_] _ st 0 (by decide)) | exact r_load1 ty_one5 rfl (hr [_, _] _ st 0 (by decide)) | exact r_load1 ty_one5 rfl (hr [_, _, _] _ st 0 (by decide))) rfl rfl rfl ?_
    -- R1.4 7 := frame.go:64 binOp
    refine WL.v (by first | exact r_eql rfl rfl (decide_eq_true (by omega)) | exact r_eql rfl rfl (decide_eq_false (by omega)) | exact r_eql rfl rfl rfl) rfl rfl rfl ?_
    -- R1.5 8 := frame.go:64 move
    refine WL.v (by first | exact r_move (v := .bool _) rfl | exact r_move rfl) rfl rfl rfl ?_
    -- R1.6 9 := frame.go:64 move
    refine WL.v (by first | exact r_move (v := .pointer _) rfl | exact r_move rfl) rfl rfl rfl ?_
    -- R1.7 10 := frame.go:64 nilCheck
    refine WL.v (by exact r_nilCheck rfl) rfl rfl rfl ?_
    -- R1.8 11 := frame.go:64 fieldAddr
    refine WL.v (by exact r_field ty_fld36_1 rfl) rfl rfl rfl ?_
    -- R1.9 12 := frame.go:64 load
    refine WL.v (by first | exact r_load1 ty_one30 rfl (hr [] _ st 1 (by decide)) | exact r_load1 ty_one30 rfl (hr _ _ st 1 (by decide)) | exact r_load1 ty_one30 rfl (hr [_] _ st 1 (by decide)) | exact r_load1 ty_one30 rfl (hr [_, _] _ st 1 (by decide)) | exact r_load1 ty_one30 rfl (hr [_, _, _] _ st 1 (by decide))) rfl rfl rfl ?_
    -- R1.10 13 := frame.go:64 binOp
    refine WL.v (by first | exact r_eql rfl rfl (decide_eq_true (by omega)) | exact r_eql rfl rfl (decide_eq_false (by omega)) | exact r_eql rfl rfl rfl) rfl rfl rfl ?_
    -- R1.11 14 := frame.go:64 pick
    refine WL.v (by first | exact r_pickT (v := .bool _) rfl rfl | exact r_pickF (v := .bool _) rfl rfl) rfl rfl rfl ?_
    -- R1.12 15 := frame.go:64 move
    refine WL.v (by first | exact r_move (v := .bool _) rfl | exact r_move rfl) rfl rfl rfl ?_
    -- R1.13 16 := frame.go:64 move
    refine WL.v (by first | exact r_move (v := .pointer _) rfl | exact r_move rfl) rfl rfl rfl ?_
    -- R1.14 17 := frame.go:64 nilCheck
    refine WL.v (by exact r_nilCheck rfl) rfl rfl rfl ?_
    -- R1.15 18 := frame.go:64 fieldAddr
    refine WL.v (by exact r_field ty_fld36_2 rfl) rfl rfl rfl ?_
    -- R1.16 19 := frame.go:64 load
    refine WL.v (by first | exact r_load1 ty_one30 rfl (hr [] _ st 2 (by decide)) | exact r_load1 ty_one30 rfl (hr _ _ st 2 (by decide)) | exact r_load1 ty_one30 rfl (hr [_] _ st 2 (by decide)) | exact r_load1 ty_one30 rfl (hr [_, _] _ st 2 (by decide)) | exact r_load1 ty_one30 rfl (hr [_, _, _] _ st 2 (by decide))) rfl rfl rfl ?_
    -- R1.17 20 := frame.go:64 binOp
    refine WL.v (by first | exact r_eql rfl rfl (decide_eq_true (by omega)) | exact r_eql rfl rfl (decide_eq_false (by omega)) | exact r_eql rfl rfl rfl) rfl rfl rfl ?_
    -- R1.18 21 := frame.go:64 pick
    refine WL.v (by first | exact r_pickT (v := .bool _) rfl rfl | exact r_pickF (v := .bool _) rfl rfl) rfl rfl rfl ?_
    -- R1.19 22 := frame.go:64 move
    refine WL.v (by first | exact r_move (v := .bool _) rfl | exact r_move rfl) rfl rfl rfl ?_
    -- R1.20 23 := frame.go:64 move
    refine WL.v (by first | exact r_move (v := .pointer _) rfl | exact r_move rfl) rfl rfl rfl ?_
    -- R1.21 24 := frame.go:64 nilCheck
    refine WL.v (by exact r_nilCheck rfl) rfl rfl rfl ?_
    -- R1.22 25 := frame.go:64 fieldAddr
    refine WL.v (by exact r_field ty_fld36_3 rfl) rfl rfl rfl ?_
    -- R1.23 26 := frame.go:64 load
    refine WL.v (by first | exact r_load1 ty_one5 rfl (hr [] _ st 3 (by decide)) | exact r_load1 ty_one5 rfl (hr _ _ st 3 (by decide)) | exact r_load1 ty_one5 rfl (hr [_] _ st 3 (by decide)) | exact r_load1 ty_one5 rfl (hr [_, _] _ st 3 (by decide)) | exact r_load1 ty_one5 rfl (hr [_, _, _] _ st 3 (by decide))) rfl rfl rfl ?_
    -- R1.24 27 := frame.go:64 binOp
    refine WL.v (by first | exact r_eql rfl rfl (decide_eq_true (by omega)) | exact r_eql rfl rfl (decide_eq_false (by omega)) | exact r_eql rfl rfl rfl) rfl rfl rfl ?_
    -- R1.25 28 := frame.go:64 pick
    refine WL.v (by first | exact r_pickT (v := .bool _) rfl rfl | exact r_pickF (v := .bool _) rfl rfl) rfl rfl rfl ?_
    -- R1.26 29 := frame.go:64 move
    refine WL.v (by first | exact r_move (v := .bool _) rfl | exact r_move rfl) rfl rfl rfl ?_
    -- R1.27 30 := frame.go:64 move
    refine WL.v (by first | exact r_move (v := .pointer _) rfl | exact r_move rfl) rfl rfl rfl ?_
    -- R1.28 31 := frame.go:64 nilCheck
    refine WL.v (by exact r_nilCheck rfl) rfl rfl rfl ?_
    -- R1.29 32 := frame.go:64 fieldAddr
    refine WL.v (by exact r_field ty_fld36_4 rfl) rfl rfl rfl ?_
    -- R1.30 33 := frame.go:64 load
    refine WL.v (by first | exact r_load1 ty_one30 rfl (hr [] _ st 4 (by decide)) | exact r_load1 ty_one30 rfl (hr _ _ st 4 (by decide)) | exact r_load1 ty_one30 rfl (hr [_] _ st 4 (by decide)) | exact r_load1 ty_one30 rfl (hr [_, _] _ st 4 (by decide)) | exact r_load1 ty_one30 rfl (hr [_, _, _] _ st 4 (by decide))) rfl rfl rfl ?_
    -- R1.31 34 := frame.go:64 binOp
    refine WL.v (by first | exact r_eql rfl rfl (decide_eq_true (by omega)) | exact r_eql rfl rfl (decide_eq_false (by omega)) | exact r_eql rfl rfl rfl) rfl rfl rfl ?_
    -- R1.32 35 := frame.go:64 pick
    refine WL.v (by first | exact r_pickT (v := .bool _) rfl rfl | exact r_pickF (v := .bool _) rfl rfl) rfl rfl rfl ?_
    -- R1.33 36 := frame.go:64 move
    refine WL.v (by first | exact r_move (v := .bool _) rfl | exact r_move rfl) rfl rfl rfl ?_
    -- R1.34 37 := frame.go:64 move
    refine WL.v (by first | exact r_move (v := .pointer _) rfl | exact r_move rfl) rfl rfl rfl ?_
    -- R1.35 38 := frame.go:64 nilCheck
    refine WL.v (by exact r_nilCheck rfl) rfl rfl rfl ?_
    -- R1.36 39 := frame.go:64 fieldAddr
    refine WL.v (by exact r_field ty_fld36_5 rfl) rfl rfl rfl ?_
    -- R1.37 40 := frame.go:64 load
    refine WL.v (by first | exact r_load1 ty_one5 rfl (hr [] _ st 5 (by decide)) | exact r_load1 ty_one5 rfl (hr _ _ st 5 (by decide)) | exact r_load1 ty_one5 rfl (hr [_] _ st 5 (by decide)) | exact r_load1 ty_one5 rfl (hr [_, _] _ st 5 (by decide)) | exact r_load1 ty_one5 rfl (hr [_, _, _] _ st 5 (by decide))) rfl rfl rfl ?_
    -- R1.38 41 := frame.go:64 binOp
    refine WL.v (by first | exact r_eql rfl rfl (decide_eq_true (by omega)) | exact r_eql rfl rfl (decide_eq_false (by omega)) | exact r_eql rfl rfl rfl) rfl rfl rfl ?_
    -- R1.39 42 := frame.go:64 pick
    refine WL.v (by first | exact r_pickT (v := .bool _) rfl rfl | exact r_pickF (v := .bool _) rfl rfl) rfl rfl rfl ?_
    -- R1.40 43 := frame.go:64 move
    refine WL.v (by first | exact r_move (v := .bool _) rfl | exact r_move rfl) rfl rfl rfl ?_
    -- R1.41 44 := frame.go:64 move
    refine WL.no rfl rfl ?_
    -- R1.42 45 := frame.go:64 nilCheck
    refine WL.no rfl rfl ?_
    -- R1.43 46 := frame.go:64 fieldAddr
    refine WL.no rfl rfl ?_
    -- R1.44 47 := frame.go:64 load
    refine WL.no rfl rfl ?_
    -- R1.45 48 := frame.go:64 binOp
    refine WL.no rfl rfl ?_
    -- R1.46 49 := frame.go:64 pick
    refine WL.v (by first | exact r_pickT (v := .bool _) rfl rfl | exact r_pickF (v := .bool _) rfl rfl) rfl rfl rfl ?_
    -- R1.47 50 := frame.go:64 move
    refine WL.v (by first | exact r_move (v := .bool _) rfl | exact r_move rfl) rfl rfl rfl ?_
    -- R1.48 51 := frame.go:64 move
    refine WL.no rfl rfl ?_
    -- R1.49 52 := frame.go:64 nilCheck
    refine WL.no rfl rfl ?_
    -- R1.50 53 := frame.go:64 fieldAddr
    refine WL.no rfl rfl ?_
    -- R1.51 54 := frame.go:64 load
    refine WL.no rfl rfl ?_
    -- R1.52 55 := frame.go:64 binOp
    refine WL.no rfl rfl ?_
    -- R1.53 56 := frame.go:64 pick
    refine WL.v (by first | exact r_pickT (v := .bool _) rfl rfl | exact r_pickF (v := .bool _) rfl rfl) rfl rfl rfl ?_
    -- R1.54 57 := frame.go:64 move
    refine WL.v (by first | exact r_move (v := .bool _) rfl | exact r_move rfl) rfl rfl rfl ?_
    -- R1.55 58 := frame.go:64 move
    refine WL.no rfl rfl ?_
    -- R1.56 59 := frame.go:64 nilCheck
    refine WL.no rfl rfl ?_
    -- R1.57 60 := frame.go:64 fieldAddr
    refine WL.no rfl rfl ?_
    -- R1.58 61 := frame.go:64 load
    refine WL.no rfl rfl ?_
    -- R1.59 62 := frame.go:64 build
    refine WL.no rfl rfl ?_
    -- R1.60 63 := frame.go:64 binOp
    refine WL.no rfl rfl ?_
    -- R1.61 64 := frame.go:64 pick
    refine WL.v (by first | exact r_pickT (v := .bool _) rfl rfl | exact r_pickF (v := .bool _) rfl rfl) rfl rfl rfl ?_
    -- R1.62 65 := frame.go:64 move
    refine WL.v (by first | exact r_move (v := .bool _) rfl | exact r_move rfl) rfl rfl rfl ?_
    -- R1.63 66 := frame.go:64 move
    refine WL.no rfl rfl ?_
    -- R1.64 67 := frame.go:64 nilCheck
    refine WL.no rfl rfl ?_
    -- R1.65 68 := frame.go:64 fieldAddr
    refine WL.no rfl rfl ?_
    -- R1.66 69 := frame.go:64 load
    refine WL.no rfl rfl ?_
    -- R1.67 70 := frame.go:64 build
    refine WL.no rfl rfl ?_
    -- R1.68 71 := frame.go:64 binOp
    refine WL.no rfl rfl ?_
    -- R1.69 72 := frame.go:64 pick
    refine WL.v (by first | exact r_pickT (v := .bool _) rfl rfl | exact r_pickF (v := .bool _) rfl rfl) rfl rfl rfl ?_
    -- R1.70 73 := frame.go:64 move
    refine WL.v (by first | exact r_move (v := .bool _) rfl | exact r_move rfl) rfl rfl rfl ?_
    -- R1.71 74 := frame.go:64 move
    refine WL.no rfl rfl ?_
    -- R1.72 75 := frame.go:64 nilCheck
    refine WL.no rfl rfl ?_
    -- R1.73 76 := frame.go:64 fieldAddr
    refine WL.no rfl rfl ?_
    -- R1.74 77 := frame.go:64 load
    refine WL.no rfl rfl ?_
    -- R1.75 78 := frame.go:64 call
    refine WL.no rfl rfl ?_
    -- R1.76 79 := frame.go:64 binOp
    refine WL.no rfl rfl ?_
    -- R1.77 80 := frame.go:64 pick
    refine WL.v (by first | exact r_pickT (v := .bool _) rfl rfl | exact r_pickF (v := .bool _) rfl rfl) rfl rfl rfl ?_
    -- R1.78 2 := frame.go:64 assign
    refine WL.v (by first | exact r_assign (v := .bool _) rfl | exact r_assign rfl) rfl rfl rfl ?_
    refine WL.fin hK437 (fun _ _ h => h) ?_
    refine WC.ret1 Tryd.results70 (fun _ _ h => h) rfl ?_
    exact ⟨_, rfl, .inr ⟨rfl, fun h => by simp only [zIp] at h; omega⟩, st⟩
  by_cases c6 : x 6 = 0
  case neg =>
    refine enter [.pointer (some ⟨b, o, none⟩)] Tryd.func70 rfl Tryd.ntmps70 rfl ?_
    show WC _ _ _ 81 [] [(0, .pointer (some ⟨b, o, none⟩))] _
    refine WC.seq fun K438 hK438 => ?_
    -- region 0
    refine WC.region ?_
    -- R0.0 2 := frame.go:63 assign
    refine WL.v (by first | exact r_assign (v := .bool _) rfl | exact r_assign rfl) rfl rfl rfl ?_
    refine WL.fin hK438 (fun _ _ h => h) ?_
    refine WC.seq fun K439 hK439 => ?_
    -- region 1
    refine WC.region ?_
    -- R1.0 3 := frame.go:64 move
    refine WL.v (by first | exact r_move (v := .pointer _) rfl | exact r_move rfl) rfl rfl rfl ?_
    -- R1.1 4 := frame.go:64 nilCheck
    refine WL.v (by exact r_nilCheck rfl) rfl rfl rfl ?_
    -- R1.2 5 := frame.go:64 fieldAddr
    refine WL.v (by exact r_field ty_fld36_0 rfl) rfl rfl rfl ?_
    -- R1.3 6 := frame.go:64 load
    refine WL.v (by first | exact r_load1 ty_one5 rfl (hr [] _ st 0 (by decide)) | exact r_load1 ty_one5 rfl (hr _ _ st 0 (by decide)) | exact r_load1 ty_one5 rfl (hr [_] _ st 0 (by decide)) | exact r_load1 ty_one5 rfl (hr [_, _] _ st 0 (by decide)) | exact r_load1 ty_one5 rfl (hr [_, _, _] _ st 0 (by decide))) rfl rfl rfl ?_
    -- R1.4 7 := frame.go:64 binOp
    refine WL.v (by first | exact r_eql rfl rfl (decide_eq_true (by omega)) | exact r_eql rfl rfl (decide_eq_false (by omega)) | exact r_eql rfl rfl rfl) rfl rfl rfl ?_
    -- R1.5 8 := frame.go:64 move
    refine WL.v (by first | exact r_move (v := .bool _) rfl | exact r_move rfl) rfl rfl rfl ?_
    -- R1.6 9 := frame.go:64 move
    refine WL.v (by first | exact r_move (v := .pointer _) rfl | exact r_move rfl) rfl rfl rfl ?_
    -- R1.7 10 := frame.go:64 nilCheck
    refine WL.v (by exact r_nilCheck rfl) rfl rfl rfl ?_
    -- R1.8 11 := frame.go:64 fieldAddr
    refine WL.v (by exact r_field ty_fld36_1 rfl) rfl rfl rfl ?_
    -- R1.9 12 := frame.go:64 load
    refine WL.v (by first | exact r_load1 ty_one30 rfl (hr [] _ st 1 (by decide)) | exact r_load1 ty_one30 rfl (hr _ _ st 1 (by decide)) | exact r_load1 ty_one30 rfl (hr [_] _ st 1 (by decide)) | exact r_load1 ty_one30 rfl (hr [_, _] _ st 1 (by decide)) | exact r_load1 ty_one30 rfl (hr [_, _, _] _ st 1 (by decide))) rfl rfl rfl ?_
    -- R1.10 13 := frame.go:64 binOp
    refine WL.v (by first | exact r_eql rfl rfl (decide_eq_true (by omega)) | exact r_eql rfl rfl (decide_eq_false (by omega)) | exact r_eql rfl rfl rfl) rfl rfl rfl ?_
    -- R1.11 14 := frame.go:64 pick
    refine WL.v (by first | exact r_pickT (v := .bool _) rfl rfl | exact r_pickF (v := .bool _) rfl rfl) rfl rfl rfl ?_
    -- R1.12 15 := frame.go:64 move
    refine WL.v (by first | exact r_move (v := .bool _) rfl | exact r_move rfl) rfl rfl rfl ?_
    -- R1.13 16 := frame.go:64 move
    refine WL.v (by first | exact r_move (v := .pointer _) rfl | exact r_move rfl) rfl rfl rfl ?_
    -- R1.14 17 := frame.go:64 nilCheck
    refine WL.v (by exact r_nilCheck rfl) rfl rfl rfl ?_
    -- R1.15 18 := frame.go:64 fieldAddr
    refine WL.v (by exact r_field ty_fld36_2 rfl) rfl rfl rfl ?_
    -- R1.16 19 := frame.go:64 load
    refine WL.v (by first | exact r_load1 ty_one30 rfl (hr [] _ st 2 (by decide)) | exact r_load1 ty_one30 rfl (hr _ _ st 2 (by decide)) | exact r_load1 ty_one30 rfl (hr [_] _ st 2 (by decide)) | exact r_load1 ty_one30 rfl (hr [_, _] _ st 2 (by decide)) | exact r_load1 ty_one30 rfl (hr [_, _, _] _ st 2 (by decide))) rfl rfl rfl ?_
    -- R1.17 20 := frame.go:64 binOp
    refine WL.v (by first | exact r_eql rfl rfl (decide_eq_true (by omega)) | exact r_eql rfl rfl (decide_eq_false (by omega)) | exact r_eql rfl rfl rfl) rfl rfl rfl ?_
    -- R1.18 21 := frame.go:64 pick
    refine WL.v (by first | exact r_pickT (v := .bool _) rfl rfl | exact r_pickF (v := .bool _) rfl rfl) rfl rfl rfl ?_
    -- R1.19 22 := frame.go:64 move
    refine WL.v (by first | exact r_move (v := .bool _) rfl | exact r_move rfl) rfl rfl rfl ?_
    -- R1.20 23 := frame.go:64 move
    refine WL.v (by first | exact r_move (v := .pointer _) rfl | exact r_move rfl) rfl rfl rfl ?_
    -- R1.21 24 := frame.go:64 nilCheck
    refine WL.v (by exact r_nilCheck rfl) rfl rfl rfl ?_
    -- R1.22 25 := frame.go:64 fieldAddr
    refine WL.v (by exact r_field ty_fld36_3 rfl) rfl rfl rfl ?_
    -- R1.23 26 := frame.go:64 load
    refine WL.v (by first | exact r_load1 ty_one5 rfl (hr [] _ st 3 (by decide)) | exact r_load1 ty_one5 rfl (hr _ _ st 3 (by decide)) | exact r_load1 ty_one5 rfl (hr [_] _ st 3 (by decide)) | exact r_load1 ty_one5 rfl (hr [_, _] _ st 3 (by decide)) | exact r_load1 ty_one5 rfl (hr [_, _, _] _ st 3 (by decide))) rfl rfl rfl ?_
    -- R1.24 27 := frame.go:64 binOp
    refine WL.v (by first | exact r_eql rfl rfl (decide_eq_true (by omega)) | exact r_eql rfl rfl (decide_eq_false (by omega)) | exact r_eql rfl rfl rfl) rfl rfl rfl ?_
    -- R1.25 28 := frame.go:64 pick
    refine WL.v (by first | exact r_pickT (v := .bool _) rfl rfl | exact r_pickF (v := .bool _) rfl rfl) rfl rfl rfl ?_
    -- R1.26 29 := frame.go:64 move
    refine WL.v (by first | exact r_move (v := .bool _) rfl | exact r_move rfl) rfl rfl rfl ?_
    -- R1.27 30 := frame.go:64 move
    refine WL.v (by first | exact r_move (v := .pointer _) rfl | exact r_move rfl) rfl rfl rfl ?_
    -- R1.28 31 := frame.go:64 nilCheck
    refine WL.v (by exact r_nilCheck rfl) rfl rfl rfl ?_
    -- R1.29 32 := frame.go:64 fieldAddr
    refine WL.v (by exact r_field ty_fld36_4 rfl) rfl rfl rfl ?_
    -- R1.30 33 := frame.go:64 load
    refine WL.v (by first | exact r_load1 ty_one30 rfl (hr [] _ st 4 (by decide)) | exact r_load1 ty_one30 rfl (hr _ _ st 4 (by decide)) | exact r_load1 ty_one30 rfl (hr [_] _ st 4 (by decide)) | exact r_load1 ty_one30 rfl (hr [_, _] _ st 4 (by decide)) | exact r_load1 ty_one30 rfl (hr [_, _, _] _ st 4 (by decide))) rfl rfl rfl ?_
    -- R1.31 34 := frame.go:64 binOp
    refine WL.v (by first | exact r_eql rfl rfl (decide_eq_true (by omega)) | exact r_eql rfl rfl (decide_eq_false (by omega)) | exact r_eql rfl rfl rfl) rfl rfl rfl ?_
    -- R1.32 35 := frame.go:64 pick
    refine WL.v (by first | exact r_pickT (v := .bool _) rfl rfl | exact r_pickF (v := .bool _) rfl rfl) rfl rfl rfl ?_
    -- R1.33 36 := frame.go:64 move
    refine WL.v (by first | exact r_move (v := .bool _) rfl | exact r_move rfl) rfl rfl rfl ?_
    -- R1.34 37 := frame.go:64 move
    refine WL.v (by first | exact r_move (v := .pointer _) rfl | exact r_move rfl) rfl rfl rfl ?_
    -- R1.35 38 := frame.go:64 nilCheck
    refine WL.v (by exact r_nilCheck rfl) rfl rfl rfl ?_
    -- R1.36 39 := frame.go:64 fieldAddr
    refine WL.v (by exact r_field ty_fld36_5 rfl) rfl rfl rfl ?_
    -- R1.37 40 := frame.go:64 load
    refine WL.v (by first | exact r_load1 ty_one5 rfl (hr [] _ st 5 (by decide)) | exact r_load1 ty_one5 rfl (hr _ _ st 5 (by decide)) | exact r_load1 ty_one5 rfl (hr [_] _ st 5 (by decide)) | exact r_load1 ty_one5 rfl (hr [_, _] _ st 5 (by decide)) | exact r_load1 ty_one5 rfl (hr [_, _, _] _ st 5 (by decide))) rfl rfl rfl ?_
    -- R1.38 41 := frame.go:64 binOp
    refine WL.v (by first | exact r_eql rfl rfl (decide_eq_true (by omega)) | exact r_eql rfl rfl (decide_eq_false (by omega)) | exact r_eql rfl rfl rfl) rfl rfl rfl ?_
    -- R1.39 42 := frame.go:64 pick
    refine WL.v (by first | exact r_pickT (v := .bool _) rfl rfl | exact r_pickF (v := .bool _) rfl rfl) rfl rfl rfl ?_
    -- R1.40 43 := frame.go:64 move
    refine WL.v (by first | exact r_move (v := .bool _) rfl | exact r_move rfl) rfl rfl rfl ?_
    -- R1.41 44 := frame.go:64 move
    refine WL.v (by first | exact r_move (v := .pointer _) rfl | exact r_move rfl) rfl rfl rfl ?_
    -- R1.42 45 := frame.go:64 nilCheck
    refine WL.v (by exact r_nilCheck rfl) rfl rfl rfl ?_
    -- R1.43 46 := frame.go:64 fieldAddr
    refine WL.v (by exact r_field ty_fld36_6 rfl) rfl rfl rfl ?_
    -- R1.44 47 := frame.go:64 load
    refine WL.v (by first | exact r_load1 ty_one5 rfl (hr [] _ st 6 (by decide)) | exact r_load1 ty_one5 rfl (hr _ _ st 6 (by decide)) | exact r_load1 ty_one5 rfl (hr [_] _ st 6 (by decide)) | exact r_load1 ty_one5 rfl (hr [_, _] _ st 6 (by decide)) | exact r_load1 ty_one5 rfl (hr [_, _, _] _ st 6 (by decide))) rfl rfl rfl ?_
    -- R1.45 48 := frame.go:64 binOp
    refine WL.v (by first | exact r_eql rfl rfl (decide_eq_true (by omega)) | exact r_eql rfl rfl (decide_eq_false (by omega)) | exact r_eql rfl rfl rfl) rfl rfl rfl ?_
    -- R1.46 49 := frame.go:64 pick
    refine WL.v (by first | exact r_pickT (v := .bool _) rfl rfl | exact r_pickF (v := .bool _) rfl rfl) rfl rfl rfl ?_
    -- R1.47 50 := frame.go:64 move
    refine WL.v (by first | exact r_move (v := .bool _) rfl | exact r_move rfl) rfl rfl rfl ?_
    -- R1.48 51 := frame.go:64 move
    refine WL.no rfl rfl ?_
    -- R1.49 52 := frame.go:64 nilCheck
    refine WL.no rfl rfl ?_
    -- R1.50 53 := frame.go:64 fieldAddr
    refine WL.no rfl rfl ?_
    -- R1.51 54 := frame.go:64 load
    refine WL.no rfl rfl ?_
    -- R1.52 55 := frame.go:64 binOp
    refine WL.no rfl rfl ?_
    -- R1.53 56 := frame.go:64 pick
    refine WL.v (by first | exact r_pickT (v := .bool _) rfl rfl | exact r_pickF (v := .bool _) rfl rfl) rfl rfl rfl ?_
    -- R1.54 57 := frame.go:64 move
    refine WL.v (by first | exact r_move (v := .bool _) rfl | exact r_move rfl) rfl rfl rfl ?_
    -- R1.55 58 := frame.go:64 move
    refine WL.no rfl rfl ?_
    -- R1.56 59 := frame.go:64 nilCheck
    refine WL.no rfl rfl ?_
    -- R1.57 60 := frame.go:64 fieldAddr
    refine WL.no rfl rfl ?_
    -- R1.58 61 := frame.go:64 load
    refine WL.no rfl rfl ?_
    -- R1.59 62 := frame.go:64 build
    refine WL.no rfl rfl ?_
    -- R1.60 63 := frame.go:64 binOp
    refine WL.no rfl rfl ?_
    -- R1.61 64 := frame.go:64 pick
    refine WL.v (by first | exact r_pickT (v := .bool _) rfl rfl | exact r_pickF (v := .bool _) rfl rfl) rfl rfl rfl ?_
    -- R1.62 65 := frame.go:64 move
    refine WL.v (by first | exact r_move (v := .bool _) rfl | exact r_move rfl) rfl rfl rfl ?_
    -- R1.63 66 := frame.go:64 move
    refine WL.no rfl rfl ?_
    -- R1.64 67 := frame.go:64 nilCheck
    refine WL.no rfl rfl ?_
    -- R1.65 68 := frame.go:64 fieldAddr
    refine WL.no rfl rfl ?_
    -- R1.66 69 := frame.go:64 load
    refine WL.no rfl rfl ?_
    -- R1.67 70 := frame.go:64 build
    refine WL.no rfl rfl ?_
    -- R1.68 71 := frame.go:64 binOp
    refine WL.no rfl rfl ?_
    -- R1.69 72 := frame.go:64 pick
    refine WL.v (by first | exact r_pickT (v := .bool _) rfl rfl | exact r_pickF (v := .bool _) rfl rfl) rfl rfl rfl ?_
    -- R1.70 73 := frame.go:64 move
    refine WL.v (by first | exact r_move (v := .bool _) rfl | exact r_move rfl) rfl rfl rfl ?_
    -- R1.71 74 := frame.go:64 move
    refine WL.no rfl rfl ?_
    -- R1.72 75 := frame.go:64 nilCheck
    refine WL.no rfl rfl ?_
    -- R1.73 76 := frame.go:64 fieldAddr
    refine WL.no rfl rfl ?_
    -- R1.74 77 := frame.go:64 load
    refine WL.no rfl rfl ?_
    -- R1.75 78 := frame.go:64 call
    refine WL.no rfl rfl ?_
    -- R1.76 79 := frame.go:64 binOp
    refine WL.no rfl rfl ?_
    -- R1.77 80 := frame.go:64 pick
    refine WL.v (by first | exact r_pickT (v := .bool _) rfl rfl | exact r_pickF (v := .bool _) rfl rfl) rfl rfl rfl ?_
    -- R1.78 2 := frame.go:64 assign
    refine WL.v (by first | exact r_assign (v := .bool _) rfl | exact r_assign rfl) rfl rfl rfl ?_
    refine WL.fin hK439 (fun _ _ h => h) ?_
    refine WC.ret1 Tryd.results70 (fun _ _ h => h) rfl ?_
    exact ⟨_, rfl, .inr ⟨rfl, fun h => by simp only [zIp] at h; omega⟩, st⟩
  by_cases c7 : x 7 = 0
  case neg =>
    refine enter [.pointer (some ⟨b, o, none⟩)] Tryd.func70 rfl Tryd.ntmps70 rfl ?_
    show WC _ _ _ 81 [] [(0, .pointer (some ⟨b, o, none⟩))] _
    refine WC.seq fun K440 hK440 => ?_
    -- region 0
    refine WC.region ?_
    -- R0.0 2 := frame.go:63 assign
    refine WL.v (by first | exact r_assign (v := .bool _) rfl | exact r_assign rfl) rfl rfl rfl ?_
    refine WL.fin hK440 (fun _ _ h => h) ?_
    refine WC.seq fun K441 hK441 => ?_
    -- region 1
    refine WC.region ?_
    -- R1.0 3 := frame.go:64 move
    refine WL.v (by first | exact r_move (v := .pointer _) rfl | exact r_move rfl) rfl rfl rfl ?_
    -- R1.1 4 := frame.go:64 nilCheck
    refine WL.v (by exact r_nilCheck rfl) rfl rfl rfl ?_
    -- R1.2 5 := frame.go:64 fieldAddr
    refine WL.v (by exact r_field ty_fld36_0 rfl) rfl rfl rfl ?_
    -- R1.3 6 := frame.go:64 load
    refine WL.v (by first | exact r_load1 ty_one5 rfl (hr [] _ st 0 (by decide)) | exact r_load1 ty_one5 rfl (hr _ _ st 0 (by decide)) | exact r_load1 ty_one5 rfl (hr [_] _ st 0 (by decide)) | exact r_load1 ty_one5 rfl (hr [_, _] _ st 0 (by decide)) | exact r_load1 ty_one5 rfl (hr [_, _, _] _ st 0 (by decide))) rfl rfl rfl ?_
    -- R1.4 7 := frame.go:64 binOp
    refine WL.v (by first | exact r_eql rfl rfl (decide_eq_true (by omega)) | exact r_eql rfl rfl (decide_eq_false (by omega)) | exact r_eql rfl rfl rfl) rfl rfl rfl ?_
    -- R1.5 8 := frame.go:64 move
    refine WL.v (by first | exact r_move (v := .bool _) rfl | exact r_move rfl) rfl rfl rfl ?_
    -- R1.6 9 := frame.go:64 move
    refine WL.v (by first | exact r_move (v := .pointer _) rfl | exact r_move rfl) rfl rfl rfl ?_
    -- R1.7 10 := frame.go:64 nilCheck
    refine WL.v (by exact r_nilCheck rfl) rfl rfl rfl ?_
    -- R1.8 11 := frame.go:64 fieldAddr
    refine WL.v (by exact r_field ty_fld36_1 rfl) rfl rfl rfl ?_
    -- R1.9 12 := frame.go:64 load
    refine WL.v (by first | exact r_load1 ty_one30 rfl (hr [] _ st 1 (by decide)) | exact r_load1 ty_one30 rfl (hr _ _ st 1 (by decide)) | exact r_load1 ty_one30 rfl (hr [_] _ st 1 (by decide)) | exact r_load1 ty_one30 rfl (hr [_, _] _ st 1 (by decide)) | exact r_load1 ty_one30 rfl (hr [_, _, _] _ st 1 (by decide))) rfl rfl rfl ?_
    -- R1.10 13 := frame.go:64 binOp
    refine WL.v (by first | exact r_eql rfl rfl (decide_eq_true (by omega)) | exact r_eql rfl rfl (decide_eq_false (by omega)) | exact r_eql rfl rfl rfl) rfl rfl rfl ?_
    -- R1.11 14 := frame.go:64 pick
    refine WL.v (by first | exact r_pickT (v := .bool _) rfl rfl | exact r_pickF (v := .bool _) rfl rfl) rfl rfl rfl ?_
    -- R1.12 15 := frame.go:64 move
    refine WL.v (by first | exact r_move (v := .bool _) rfl | exact r_move rfl) rfl rfl rfl ?_
    -- R1.13 16 := frame.go:64 move
    refine WL.v (by first | exact r_move (v := .pointer _) rfl | exact r_move rfl) rfl rfl rfl ?_
    -- R1.14 17 := frame.go:64 nilCheck
    refine WL.v (by exact r_nilCheck rfl) rfl rfl rfl ?_
    -- R1.15 18 := frame.go:64 fieldAddr
    refine WL.v (by exact r_field ty_fld36_2 rfl) rfl rfl rfl ?_
    -- R1.16 19 := frame.go:64 load
    refine WL.v (by first | exact r_load1 ty_one30 rfl (hr [] _ st 2 (by decide)) | exact r_load1 ty_one30 rfl (hr _ _ st 2 (by decide)) | exact r_load1 ty_one30 rfl (hr [_] _ st 2 (by decide)) | exact r_load1 ty_one30 rfl (hr [_, _] _ st 2 (by decide)) | exact r_load1 ty_one30 rfl (hr [_, _, _] _ st 2 (by decide))) rfl rfl rfl ?_
    -- R1.17 20 := frame.go:64 binOp
    refine WL.v (by first | exact r_eql rfl rfl (decide_eq_true (by omega)) | exact r_eql rfl rfl (decide_eq_false (by omega)) | exact r_eql rfl rfl rfl) rfl rfl rfl ?_
    -- R1.18 21 := frame.go:64 pick
    refine WL.v (by first | exact r_pickT (v := .bool _) rfl rfl | exact r_pickF (v := .bool _) rfl rfl) rfl rfl rfl ?_
    -- R1.19 22 := frame.go:64 move
    refine WL.v (by first | exact r_move (v := .bool _) rfl | exact r_move rfl) rfl rfl rfl ?_
    -- R1.20 23 := frame.go:64 move
    refine WL.v (by first | exact r_move (v := .pointer _) rfl | exact r_move rfl) rfl rfl rfl ?_
    -- R1.21 24 := frame.go:64 nilCheck
    refine WL.v (by exact r_nilCheck rfl) rfl rfl rfl ?_
    -- R1.22 25 := frame.go:64 fieldAddr
    refine WL.v (by exact r_field ty_fld36_3 rfl) rfl rfl rfl ?_
    -- R1.23 26 := frame.go:64 load
    refine WL.v (by first | exact r_load1 ty_one5 rfl (hr [] _ st 3 (by decide)) | exact r_load1 ty_one5 rfl (hr _ _ st 3 (by decide)) | exact r_load1 ty_one5 rfl (hr [_] _ st 3 (by decide)) | exact r_load1 ty_one5 rfl (hr [_, _] _ st 3 (by decide)) | exact r_load1 ty_one5 rfl (hr [_, _, _] _ st 3 (by decide))) rfl rfl rfl ?_
    -- R1.24 27 := frame.go:64 binOp
    refine WL.v (by first | exact r_eql rfl rfl (decide_eq_true (by omega)) | exact r_eql rfl rfl (decide_eq_false (by omega)) | exact r_eql rfl rfl rfl) rfl rfl rfl ?_
    -- R1.25 28 := frame.go:64 pick
    refine WL.v (by first | exact r_pickT (v := .bool _) rfl rfl | exact r_pickF (v := .bool _) rfl rfl) rfl rfl rfl ?_
    -- R1.26 29 := frame.go:64 move
    refine WL.v (by first | exact r_move (v := .bool _) rfl | exact r_move rfl) rfl rfl rfl ?_
    -- R1.27 30 := frame.go:64 move
    refine WL.v (by first | exact r_move (v := .pointer _) rfl | exact r_move rfl) rfl rfl rfl ?_
    -- R1.28 31 := frame.go:64 nilCheck
    refine WL.v (by exact r_nilCheck rfl) rfl rfl rfl ?_
    -- R1.29 32 := frame.go:64 fieldAddr
    refine WL.v (by exact r_field ty_fld36_4 rfl) rfl rfl rfl ?_
    -- R1.30 33 := frame.go:64 load
    refine WL.v (by first | exact r_load1 ty_one30 rfl (hr [] _ st 4 (by decide)) | exact r_load1 ty_one30 rfl (hr _ _ st 4 (by decide)) | exact r_load1 ty_one30 rfl (hr [_] _ st 4 (by decide)) | exact r_load1 ty_one30 rfl (hr [_, _] _ st 4 (by decide)) | exact r_load1 ty_one30 rfl (hr [_, _, _] _ st 4 (by decide))) rfl rfl rfl ?_
    -- R1.31 34 := frame.go:64 binOp
    refine WL.v (by first | exact r_eql rfl rfl (decide_eq_true (by omega)) | exact r_eql rfl rfl (decide_eq_false (by omega)) | exact r_eql rfl rfl rfl) rfl rfl rfl ?_
    -- R1.32 35 := frame.go:64 pick
    refine WL.v (by first | exact r_pickT (v := .bool _) rfl rfl | exact r_pickF (v := .bool _) rfl rfl) rfl rfl rfl ?_
    -- R1.33 36 := frame.go:64 move
    refine WL.v (by first | exact r_move (v := .bool _) rfl | exact r_move rfl) rfl rfl rfl ?_
    -- R1.34 37 := frame.go:64 move
    refine WL.v (by first | exact r_move (v := .pointer _) rfl | exact r_move rfl) rfl rfl rfl ?_
    -- R1.35 38 := frame.go:64 nilCheck
    refine WL.v (by exact r_nilCheck rfl) rfl rfl rfl ?_
    -- R1.36 39 := frame.go:64 fieldAddr
    refine WL.v (by exact r_field ty_fld36_5 rfl) rfl rfl rfl ?_
    -- R1.37 40 := frame.go:64 load
    refine WL.v (by first | exact r_load1 ty_one5 rfl (hr [] _ st 5 (by decide)) | exact r_load1 ty_one5 rfl (hr _ _ st 5 (by decide)) | exact r_load1 ty_one5 rfl (hr [_] _ st 5 (by decide)) | exact r_load1 ty_one5 rfl (hr [_, _] _ st 5 (by decide)) | exact r_load1 ty_one5 rfl (hr [_, _, _] _ st 5 (by decide))) rfl rfl rfl ?_
    -- R1.38 41 := frame.go:64 binOp
    refine WL.v (by first | exact r_eql rfl rfl (decide_eq_true (by omega)) | exact r_eql rfl rfl (decide_eq_false (by omega)) | exact r_eql rfl rfl rfl) rfl rfl rfl ?_
    -- R1.39 42 := frame.go:64 pick
    refine WL.v (by first | exact r_pickT (v := .bool _) rfl rfl | exact r_pickF (v := .bool _) rfl rfl) rfl rfl rfl ?_
    -- R1.40 43 := frame.go:64 move
    refine WL.v (by first | exact r_move (v := .bool _) rfl | exact r_move rfl) rfl rfl rfl ?_
    -- R1.41 44 := frame.go:64 move
    refine WL.v (by first | exact r_move (v := .pointer _) rfl | exact r_move rfl) rfl rfl rfl ?_
    -- R1.42 45 := frame.go:64 nilCheck
    refine WL.v (by exact r_nilCheck rfl) rfl rfl rfl ?_
    -- R1.43 46 := frame.go:64 fieldAddr
    refine WL.v (by exact r_field ty_fld36_6 rfl) rfl rfl rfl ?_
    -- R1.44 47 := frame.go:64 load
    refine WL.v (by first | exact r_load1 ty_one5 rfl (hr [] _ st 6 (by decide)) | exact r_load1 ty_one5 rfl (hr _ _ st 6 (by decide)) | exact r_load1 ty_one5 rfl (hr [_] _ st 6 (by decide)) | exact r_load1 ty_one5 rfl (hr [_, _] _ st 6 (by decide)) | exact r_load1 ty_one5 rfl (hr [_, _, _] _ st 6 (by decide))) rfl rfl rfl ?_
    -- R1.45 48 := frame.go:64 binOp
    refine WL.v (by first | exact r_eql rfl rfl (decide_eq_true (by omega)) | exact r_eql rfl rfl (decide_eq_false (by omega)) | exact r_eql rfl rfl rfl) rfl rfl rfl ?_
    -- R1.46 49 := frame.go:64 pick
    refine WL.v (by first | exact r_pickT (v := .bool _) rfl rfl | exact r_pickF (v := .bool _) rfl rfl) rfl rfl rfl ?_
    -- R1.47 50 := frame.go:64 move
    refine WL.v (by first | exact r_move (v := .bool _) rfl | exact r_move rfl) rfl rfl rfl ?_
    -- R1.48 51 := frame.go:64 move
    refine WL.v (by first | exact r_move (v := .pointer _) rfl | exact r_move rfl) rfl rfl rfl ?_
    -- R1.49 52 := frame.go:64 nilCheck
    refine WL.v (by exact r_nilCheck rfl) rfl rfl rfl ?_
    -- R1.50 53 := frame.go:64 fieldAddr
    refine WL.v (by exact r_field ty_fld36_7 rfl) rfl rfl rfl ?_
    -- R1.51 54 := frame.go:64 load
    refine WL.v (by first | exact r_load1 ty_one30 rfl (hr [] _ st 7 (by decide)) | exact r_load1 ty_one30 rfl (hr _ _ st 7 (by decide)) | exact r_load1 ty_one30 rfl (hr [_] _ st 7 (by decide)) | exact r_load1 ty_one30 rfl (hr [_, _] _ st 7 (by decide)) | exact r_load1 ty_one30 rfl (hr [_, _, _] _ st 7 (by decide))) rfl rfl rfl ?_
    -- R1.52 55 := frame.go:64 binOp
    refine WL.v (by first | exact r_eql rfl rfl (decide_eq_true (by omega)) | exact r_eql rfl rfl (decide_eq_false (by omega)) | exact r_eql rfl rfl rfl) rfl rfl rfl ?_
    -- R1.53 56 := frame.go:64 pick
    refine WL.v (by first | exact r_pickT (v := .bool _) rfl rfl | exact r_pickF (v := .bool _) rfl rfl) rfl rfl rfl ?_
    -- R1.54 57 := frame.go:64 move
    refine WL.v (by first | exact r_move (v := .bool _) rfl | exact r_move rfl) rfl rfl rfl ?_
    -- R1.55 58 := frame.go:64 move
    refine WL.no rfl rfl ?_
    -- R1.56 59 := frame.go:64 nilCheck
    refine WL.no rfl rfl ?_
    -- R1.57 60 := frame.go:64 fieldAddr
    refine WL.no rfl rfl ?_
    -- R1.58 61 := frame.go:64 load
    refine WL.no rfl rfl ?_
    -- R1.59 62 := frame.go:64 build
    refine WL.no rfl rfl ?_
    -- R1.60 63 := frame.go:64 binOp
    refine WL.no rfl rfl ?_
    -- R1.61 64 := frame.go:64 pick
    refine WL.v (by first | exact r_pickT (v := .bool _) rfl rfl | exact r_pickF (v := .bool _) rfl rfl) rfl rfl rfl ?_
    -- R1.62 65 := frame.go:64 move
    refine WL.v (by first | exact r_move (v := .bool _) rfl | exact r_move rfl) rfl rfl rfl ?_
    -- R1.63 66 := frame.go:64 move
    refine WL.no rfl rfl ?_
    -- R1.64 67 := frame.go:64 nilCheck
    refine WL.no rfl rfl ?_
    -- R1.65 68 := frame.go:64 fieldAddr
    refine WL.no rfl rfl ?_
    -- R1.66 69 := frame.go:64 load
    refine WL.no rfl rfl ?_
    -- R1.67 70 := frame.go:64 build
    refine WL.no rfl rfl ?_
    -- R1.68 71 := frame.go:64 binOp
    refine WL.no rfl rfl ?_
    -- R1.69 72 := frame.go:64 pick
    refine WL.v (by first | exact r_pickT (v := .bool _) rfl rfl | exact r_pickF (v := .bool _) rfl rfl) rfl rfl rfl ?_
    -- R1.70 73 := frame.go:64 move
    refine WL.v (by first | exact r_move (v := .bool _) rfl | exact r_move rfl) rfl rfl rfl ?_
    -- R1.71 74 := frame.go:64 move
    refine WL.no rfl rfl ?_
    -- R1.72 75 := frame.go:64 nilCheck
    refine WL.no rfl rfl ?_
    -- R1.73 76 := frame.go:64 fieldAddr
    refine WL.no rfl rfl ?_
    -- R1.74 77 := frame.go:64 load
    refine WL.no rfl rfl ?_
    -- R1.75 78 := frame.go:64 call
    refine WL.no rfl rfl ?_
    -- R1.76 79 := frame.go:64 binOp
    refine WL.no rfl rfl ?_
    -- R1.77 80 := frame.go:64 pick
    refine WL.v (by first | exact r_pickT (v := .bool _) rfl rfl | exact r_pickF (v := .bool _) rfl rfl) rfl rfl rfl ?_
    -- R1.78 2 := frame.go:64 assign
    refine WL.v (by first | exact r_assign (v := .bool _) rfl | exact r_assign rfl) rfl rfl rfl ?_
    refine WL.fin hK441 (fun _ _ h => h) ?_
    refine WC.ret1 Tryd.results70 (fun _ _ h => h) rfl ?_
    exact ⟨_, rfl, .inr ⟨rfl, fun h => by simp only [zIp] at h; omega⟩, st⟩
  by_cases c8 : x 8 = 0 ∧ x 9 = 0 ∧ x 10 = 0 ∧ x 11 = 0
  case neg =>
    refine enter [.pointer (some ⟨b, o, none⟩)] Tryd.func70 rfl Tryd.ntmps70 rfl ?_
    show WC _ _ _ 81 [] [(0, .pointer (some ⟨b, o, none⟩))] _
    refine WC.seq fun K442 hK442 => ?_
    -- region 0
    refine WC.region ?_
    -- R0.0 2 := frame.go:63 assign
    refine WL.v (by first | exact r_assign (v := .bool _) rfl | exact r_assign rfl) rfl rfl rfl ?_
    refine WL.fin hK442 (fun _ _ h => h) ?_
    refine WC.seq fun K443 hK443 => ?_
    -- region 1
    refine WC.region ?_
    -- R1.0 3 := frame.go:64 move
    refine WL.v (by first | exact r_move (v := .pointer _) rfl | exact r_move rfl) rfl rfl rfl ?_
    -- R1.1 4 := frame.go:64 nilCheck
    refine WL.v (by exact r_nilCheck rfl) rfl rfl rfl ?_
    -- R1.2 5 := frame.go:64 fieldAddr
    refine WL.v (by exact r_field ty_fld36_0 rfl) rfl rfl rfl ?_
    -- R1.3 6 := frame.go:64 load
    refine WL.v (by first | exact r_load1 ty_one5 rfl (hr [] _ st 0 (by decide)) | exact r_load1 ty_one5 rfl (hr _ _ st 0 (by decide)) | exact r_load1 ty_one5 rfl (hr [_] _ st 0 (by decide)) | exact r_load1 ty_one5 rfl (hr [_, _] _ st 0 (by decide)) | exact r_load1 ty_one5 rfl (hr [_, _, _] _ st 0 (by decide))) rfl rfl rfl ?_
    -- R1.4 7 := frame.go:64 binOp
    refine WL.v (by first | exact r_eql rfl rfl (decide_eq_true (by omega)) | exact r_eql rfl rfl (decide_eq_false (by omega)) | exact r_eql rfl rfl rfl) rfl rfl rfl ?_
    -- R1.5 8 := frame.go:64 move
    refine WL.v (by first | exact r_move (v := .bool _) rfl | exact r_move rfl) rfl rfl rfl ?_
    -- R1.6 9 := frame.go:64 move
    refine WL.v (by first | exact r_move (v := .pointer _) rfl | exact r_move rfl) rfl rfl rfl ?_
    -- R1.7 10 := frame.go:64 nilCheck
    refine WL.v (by exact r_nilCheck rfl) rfl rfl rfl ?_
    -- R1.8 11 := frame.go:64 fieldAddr
    refine WL.v (by exact r_field ty_fld36_1 rfl) rfl rfl rfl ?_
    -- R1.9 12 := frame.go:64 load
    refine WL.v (by first | exact r_load1 ty_one30 rfl (hr [] _ st 1 (by decide)) | exact r_load1 ty_one30 rfl (hr _ _ st 1 (by decide)) | exact r_load1 ty_one30 rfl (hr [_] _ st 1 (by decide)) | exact r_load1 ty_one30 rfl (hr [_, _] _ st 1 (by decide)) | exact r_load1 ty_one30 rfl (hr [_, _, _] _ st 1 (by decide))) rfl rfl rfl ?_
    -- R1.10 13 := frame.go:64 binOp
    refine WL.v (by first | exact r_eql rfl rfl (decide_eq_true (by omega)) | exact r_eql rfl rfl (decide_eq_false (by omega)) | exact r_eql rfl rfl rfl) rfl rfl rfl ?_
    -- R1.11 14 := frame.go:64 pick
    refine WL.v (by first | exact r_pickT (v := .bool _) rfl rfl | exact r_pickF (v := .bool _) rfl rfl) rfl rfl rfl ?_
    -- R1.12 15 := frame.go:64 move
    refine WL.v (by first | exact r_move (v := .bool _) rfl | exact r_move rfl) rfl rfl rfl ?_
    -- R1.13 16 := frame.go:64 move
    refine WL.v (by first | exact r_move (v := .pointer _) rfl | exact r_move rfl) rfl rfl rfl ?_
    -- R1.14 17 := frame.go:64 nilCheck
    refine WL.v (by exact r_nilCheck rfl) rfl rfl rfl ?_
    -- R1.15 18 := frame.go:64 fieldAddr
    refine WL.v (by exact r_field ty_fld36_2 rfl) rfl rfl rfl ?_
    -- R1.16 19 := frame.go:64 load
    refine WL.v (by first | exact r_load1 ty_one30 rfl (hr [] _ st 2 (by decide)) | exact r_load1 ty_one30 rfl (hr _ _ st 2 (by decide)) | exact r_load1 ty_one30 rfl (hr [_] _ st 2 (by decide)) | exact r_load1 ty_one30 rfl (hr [_, _] _ st 2 (by decide)) | exact r_load1 ty_one30 rfl (hr [_, _, _] _ st 2 (by decide))) rfl rfl rfl ?_
    -- R1.17 20 := frame.go:64 binOp
    refine WL.v (by first | exact r_eql rfl rfl (decide_eq_true (by omega)) | exact r_eql rfl rfl (decide_eq_false (by omega)) | exact r_eql rfl rfl rfl) rfl rfl rfl ?_
    -- R1.18 21 := frame.go:64 pick
    refine WL.v (by first | exact r_pickT (v := .bool _) rfl rfl | exact r_pickF (v := .bool _) rfl rfl) rfl rfl rfl ?_
    -- R1.19 22 := frame.go:64 move
    refine WL.v (by first | exact r_move (v := .bool _) rfl | exact r_move rfl) rfl rfl rfl ?_
    -- R1.20 23 := frame.go:64 move
    refine WL.v (by first | exact r_move (v := .pointer _) rfl | exact r_move rfl) rfl rfl rfl ?_
    -- R1.21 24 := frame.go:64 nilCheck
    refine WL.v (by exact r_nilCheck rfl) rfl rfl rfl ?_
    -- R1.22 25 := frame.go:64 fieldAddr
    refine WL.v (by exact r_field ty_fld36_3 rfl) rfl rfl rfl ?_
    -- R1.23 26 := frame.go:64 load
    refine WL.v (by first | exact r_load1 ty_one5 rfl (hr [] _ st 3 (by decide)) | exact r_load1 ty_one5 rfl (hr _ _ st 3 (by decide)) | exact r_load1 ty_one5 rfl (hr [_] _ st 3 (by decide)) | exact r_load1 ty_one5 rfl (hr [_, _] _ st 3 (by decide)) | exact r_load1 ty_one5 rfl (hr [_, _, _] _ st 3 (by decide))) rfl rfl rfl ?_
    -- R1.24 27 := frame.go:64 binOp
    refine WL.v (by first | exact r_eql rfl rfl (decide_eq_true (by omega)) | exact r_eql rfl rfl (decide_eq_false (by omega)) | exact r_eql rfl rfl rfl) rfl rfl rfl ?_
    -- R1.25 28 := frame.go:64 pick
    refine WL.v (by first | exact r_pickT (v := .bool _) rfl rfl | exact r_pickF (v := .bool _) rfl rfl) rfl rfl rfl ?_
    -- R1.26 29 := frame.go:64 move
    refine WL.v (by first | exact r_move (v := .bool _) rfl | exact r_move rfl) rfl rfl rfl ?_
    -- R1.27 30 := frame.go:64 move
    refine WL.v (by first | exact r_move (v := .pointer _) rfl | exact r_move rfl) rfl rfl rfl ?_
    -- R1.28 31 := frame.go:64 nilCheck
    refine WL.v (by exact r_nilCheck rfl) rfl rfl rfl ?_
    -- R1.29 32 := frame.go:64 fieldAddr
    refine WL.v (by exact r_field ty_fld36_4 rfl) rfl rfl rfl ?_
    -- R1.30 33 := frame.go:64 load
    refine WL.v (by first | exact r_load1 ty_one30 rfl (hr [] _ st 4 (by decide)) | exact r_load1 ty_one30 rfl (hr _ _ st 4 (by decide)) | exact r_load1 ty_one30 rfl (hr [_] _ st 4 (by decide)) | exact r_load1 ty_one30 rfl (hr [_, _] _ st 4 (by decide)) | exact r_load1 ty_one30 rfl (hr [_, _, _] _ st 4 (by decide))) rfl rfl rfl ?_
    -- R1.31 34 := frame.go:64 binOp
    refine WL.v (by first | exact r_eql rfl rfl (decide_eq_true (by omega)) | exact r_eql rfl rfl (decide_eq_false (by omega)) | exact r_eql rfl rfl rfl) rfl rfl rfl ?_
    -- R1.32 35 := frame.go:64 pick
    refine WL.v (by first | exact r_pickT (v := .bool _) rfl rfl | exact r_pickF (v := .bool _) rfl rfl) rfl rfl rfl ?_
    -- R1.33 36 := frame.go:64 move
    refine WL.v (by first | exact r_move (v := .bool _) rfl | exact r_move rfl) rfl rfl rfl ?_
    -- R1.34 37 := frame.go:64 move
    refine WL.v (by first | exact r_move (v := .pointer _) rfl | exact r_move rfl) rfl rfl rfl ?_
    -- R1.35 38 := frame.go:64 nilCheck
    refine WL.v (by exact r_nilCheck rfl) rfl rfl rfl ?_
    -- R1.36 39 := frame.go:64 fieldAddr
    refine WL.v (by exact r_field ty_fld36_5 rfl) rfl rfl rfl ?_
    -- R1.37 40 := frame.go:64 load
    refine WL.v (by first | exact r_load1 ty_one5 rfl (hr [] _ st 5 (by decide)) | exact r_load1 ty_one5 rfl (hr _ _ st 5 (by decide)) | exact r_load1 ty_one5 rfl (hr [_] _ st 5 (by decide)) | exact r_load1 ty_one5 rfl (hr [_, _] _ st 5 (by decide)) | exact r_load1 ty_one5 rfl (hr [_, _, _] _ st 5 (by decide))) rfl rfl rfl ?_
    -- R1.38 41 := frame.go:64 binOp
    refine WL.v (by first | exact r_eql rfl rfl (decide_eq_true (by omega)) | exact r_eql rfl rfl (decide_eq_false (by omega)) | exact r_eql rfl rfl rfl) rfl rfl rfl ?_
    -- R1.39 42 := frame.go:64 pick
    refine WL.v (by first | exact r_pickT (v := .bool _) rfl rfl | exact r_pickF (v := .bool _) rfl rfl) rfl rfl rfl ?_
    -- R1.40 43 := frame.go:64 move
    refine WL.v (by first | exact r_move (v := .bool _) rfl | exact r_move rfl) rfl rfl rfl ?_
    -- R1.41 44 := frame.go:64 move
    refine WL.v (by first | exact r_move (v := .pointer _) rfl | exact r_move rfl) rfl rfl rfl ?_
    -- R1.42 45 := frame.go:64 nilCheck
    refine WL.v (by exact r_nilCheck rfl) rfl rfl rfl ?_
    -- R1.43 46 := frame.go:64 fieldAddr
    refine WL.v (by exact r_field ty_fld36_6 rfl) rfl rfl rfl ?_
    -- R1.44 47 := frame.go:64 load
    refine WL.v (by first | exact r_load1 ty_one5 rfl (hr [] _ st 6 (by decide)) | exact r_load1 ty_one5 rfl (hr _ _ st 6 (by decide)) | exact r_load1 ty_one5 rfl (hr [_] _ st 6 (by decide)) | exact r_load1 ty_one5 rfl (hr [_, _] _ st 6 (by decide)) | exact r_load1 ty_one5 rfl (hr [_, _, _] _ st 6 (by decide))) rfl rfl rfl ?_
    -- R1.45 48 := frame.go:64 binOp
    refine WL.v (by first | exact r_eql rfl rfl (decide_eq_true (by omega)) | exact r_eql rfl rfl (decide_eq_false (by omega)) | exact r_eql rfl rfl rfl) rfl rfl rfl ?_
    -- R1.46 49 := frame.go:64 pick
    refine WL.v (by first | exact r_pickT (v := .bool _) rfl rfl | exact r_pickF (v := .bool _) rfl rfl) rfl rfl rfl ?_
    -- R1.47 50 := frame.go:64 move
    refine WL.v (by first | exact r_move (v := .bool _) rfl | exact r_move rfl) rfl rfl rfl ?_
    -- R1.48 51 := frame.go:64 move
    refine WL.v (by first | exact r_move (v := .pointer _) rfl | exact r_move rfl) rfl rfl rfl ?_
    -- R1.49 52 := frame.go:64 nilCheck
    refine WL.v (by exact r_nilCheck rfl) rfl rfl rfl ?_
    -- R1.50 53 := frame.go:64 fieldAddr
    refine WL.v (by exact r_field ty_fld36_7 rfl) rfl rfl rfl ?_
    -- R1.51 54 := frame.go:64 load
    refine WL.v (by first | exact r_load1 ty_one30 rfl (hr [] _ st 7 (by decide)) | exact r_load1 ty_one30 rfl (hr _ _ st 7 (by decide)) | exact r_load1 ty_one30 rfl (hr [_] _ st 7 (by decide)) | exact r_load1 ty_one30 rfl (hr [_, _] _ st 7 (by decide)) | exact r_load1 ty_one30 rfl (hr [_, _, _] _ st 7 (by decide))) rfl rfl rfl ?_
    -- R1.52 55 := frame.go:64 binOp
    refine WL.v (by first | exact r_eql rfl rfl (decide_eq_true (by omega)) | exact r_eql rfl rfl (decide_eq_false (by omega)) | exact r_eql rfl rfl rfl) rfl rfl rfl ?_
    -- R1.53 56 := frame.go:64 pick
    refine WL.v (by first | exact r_pickT (v := .bool _) rfl rfl | exact r_pickF (v := .bool _) rfl rfl) rfl rfl rfl ?_
    -- R1.54 57 := frame.go:64 move
    refine WL.v (by first | exact r_move (v := .bool _) rfl | exact r_move rfl) rfl rfl rfl ?_
    -- R1.55 58 := frame.go:64 move
    refine WL.v (by first | exact r_move (v := .pointer _) rfl | exact r_move rfl) rfl rfl rfl ?_
    -- R1.56 59 := frame.go:64 nilCheck
    refine WL.v (by exact r_nilCheck rfl) rfl rfl rfl ?_
    -- R1.57 60 := frame.go:64 fieldAddr
    refine WL.v (by exact r_field ty_fld36_8 rfl) rfl rfl rfl ?_
    -- R1.58 61 := frame.go:64 load
    refine WL.v (by first | exact r_loadL (vs := [_, _, _, _]) ty_agg34 rfl ⟨hr [] _ st 8 (by decide), hr [] _ st 9 (by decide), hr [] _ st 10 (by decide), hr [] _ st 11 (by decide), trivial⟩ | exact r_loadL (vs := [_, _, _, _]) ty_agg34 rfl ⟨hr _ _ st 8 (by decide), hr _ _ st 9 (by decide), hr _ _ st 10 (by decide), hr _ _ st 11 (by decide), trivial⟩ | exact r_loadL (vs := [_, _, _, _]) ty_agg34 rfl ⟨hr [_] _ st 8 (by decide), hr [_] _ st 9 (by decide), hr [_] _ st 10 (by decide), hr [_] _ st 11 (by decide), trivial⟩ | exact r_loadL (vs := [_, _, _, _]) ty_agg34 rfl ⟨hr [_, _] _ st 8 (by decide), hr [_, _] _ st 9 (by decide), hr [_, _] _ st 10 (by decide), hr [_, _] _ st 11 (by decide), trivial⟩ | exact r_loadL (vs := [_, _, _, _]) ty_agg34 rfl ⟨hr [_, _, _] _ st 8 (by decide), hr [_, _, _] _ st 9 (by decide), hr [_, _, _] _ st 10 (by decide), hr [_, _, _] _ st 11 (by decide), trivial⟩) rfl rfl rfl ?_
    -- R1.59 62 := frame.go:64 build
    refine WL.v (by exact r_build (ps := []) (vs := [_, _, _, _]) ty_pl34 ty_zero34 rfl (fill_nil)) rfl rfl rfl ?_
    -- R1.60 63 := frame.go:64 binOp
    refine WL.v (by first | exact r_ar4_eql (t := true) ty_ar34 ty_uint5 ty_eqg34 hx.r8 hx.r9 hx.r10 hx.r11 rfl rfl (decide_eq_true (by omega)) | exact r_ar4_eql (t := false) ty_ar34 ty_uint5 ty_eqg34 hx.r8 hx.r9 hx.r10 hx.r11 rfl rfl (decide_eq_false (by omega))) rfl rfl rfl ?_
    -- R1.61 64 := frame.go:64 pick
    refine WL.v (by first | exact r_pickT (v := .bool _) rfl rfl | exact r_pickF (v := .bool _) rfl rfl) rfl rfl rfl ?_
    -- R1.62 65 := frame.go:64 move
    refine WL.v (by first | exact r_move (v := .bool _) rfl | exact r_move rfl) rfl rfl rfl ?_
    -- R1.63 66 := frame.go:64 move
    refine WL.no rfl rfl ?_
    -- R1.64 67 := frame.go:64 nilCheck
    refine WL.no rfl rfl ?_
    -- R1.65 68 := frame.go:64 fieldAddr
    refine WL.no rfl rfl ?_
    -- R1.66 69 := frame.go:64 load
    refine WL.no rfl rfl ?_
    -- R1.67 70 := frame.go:64 build
    refine WL.no rfl rfl ?_
    -- R1.68 71 := frame.go:64 binOp
    refine WL.no rfl rfl ?_
    -- R1.69 72 := frame.go:64 pick
    refine WL.v (by first | exact r_pickT (v := .bool _) rfl rfl | exact r_pickF (v := .bool _) rfl rfl) rfl rfl rfl ?_
    -- R1.70 73 := frame.go:64 move
    refine WL.v (by first | exact r_move (v := .bool _) rfl | exact r_move rfl) rfl rfl rfl ?_
    -- R1.71 74 := frame.go:64 move
    refine WL.no rfl rfl ?_
    -- R1.72 75 := frame.go:64 nilCheck
    refine WL.no rfl rfl ?_
    -- R1.73 76 := frame.go:64 fieldAddr
    refine WL.no rfl rfl ?_
    -- R1.74 77 := frame.go:64 load
    refine WL.no rfl rfl ?_
    -- R1.75 78 := frame.go:64 call
    refine WL.no rfl rfl ?_
    -- R1.76 79 := frame.go:64 binOp
    refine WL.no rfl rfl ?_
    -- R1.77 80 := frame.go:64 pick
    refine WL.v (by first | exact r_pickT (v := .bool _) rfl rfl | exact r_pickF (v := .bool _) rfl rfl) rfl rfl rfl ?_
    -- R1.78 2 := frame.go:64 assign
    refine WL.v (by first | exact r_assign (v := .bool _) rfl | exact r_assign rfl) rfl rfl rfl ?_
    refine WL.fin hK443 (fun _ _ h => h) ?_
    refine WC.ret1 Tryd.results70 (fun _ _ h => h) rfl ?_
    exact ⟨_, rfl, .inr ⟨rfl, fun h => by simp only [zIp] at h; omega⟩, st⟩
  by_cases c9 : x 12 = 0 ∧ x 13 = 0 ∧ x 14 = 0 ∧ x 15 = 0
  case neg =>
    refine enter [.pointer (some ⟨b, o, none⟩)] Tryd.func70 rfl Tryd.ntmps70 rfl ?_
    show WC _ _ _ 81 [] [(0, .pointer (some ⟨b, o, none⟩))] _
    refine WC.seq fun K444 hK444 => ?_
    -- region 0
    refine WC.region ?_
    -- R0.0 2 := frame.go:63 assign
    refine WL.v (by first | exact r_assign (v := .bool _) rfl | exact r_assign rfl) rfl rfl rfl ?_
    refine WL.fin hK444 (fun _ _ h => h) ?_
    refine WC.seq fun K445 hK445 => ?_
    -- region 1
    refine WC.region ?_
    -- R1.0 3 := frame.go:64 move
    refine WL.v (by first | exact r_move (v := .pointer _) rfl | exact r_move rfl) rfl rfl rfl ?_
    -- R1.1 4 := frame.go:64 nilCheck
    refine WL.v (by exact r_nilCheck rfl) rfl rfl rfl ?_
    -- R1.2 5 := frame.go:64 fieldAddr
    refine WL.v (by exact r_field ty_fld36_0 rfl) rfl rfl rfl ?_
    -- R1.3 6 := frame.go:64 load
    refine WL.v (by first | exact r_load1 ty_one5 rfl (hr [] _ st 0 (by decide)) | exact r_load1 ty_one5 rfl (hr _ _ st 0 (by decide)) | exact r_load1 ty_one5 rfl (hr [_] _ st 0 (by decide)) | exact r_load1 ty_one5 rfl (hr [_, _] _ st 0 (by decide)) | exact r_load1 ty_one5 rfl (hr [_, _, _] _ st 0 (by decide))) rfl rfl rfl ?_
    -- R1.4 7 := frame.go:64 binOp
    refine WL.v (by first | exact r_eql rfl rfl (decide_eq_true (by omega)) | exact r_eql rfl rfl (decide_eq_false (by omega)) | exact r_eql rfl rfl rfl) rfl rfl rfl ?_
    -- R1.5 8 := frame.go:64 move
    refine WL.v (by first | exact r_move (v := .bool _) rfl | exact r_move rfl) rfl rfl rfl ?_
    -- R1.6 9 := frame.go:64 move
    refine WL.v (by first | exact r_move (v := .pointer _) rfl | exact r_move rfl) rfl rfl rfl ?_
    -- R1.7 10 := frame.go:64 nilCheck
    refine WL.v (by exact r_nilCheck rfl) rfl rfl rfl ?_
    -- R1.8 11 := frame.go:64 fieldAddr
    refine WL.v (by exact r_field ty_fld36_1 rfl) rfl rfl rfl ?_
    -- R1.9 12 := frame.go:64 load
    refine WL.v (by first | exact r_load1 ty_one30 rfl (hr [] _ st 1 (by decide)) | exact r_load1 ty_one30 rfl (hr _ _ st 1 (by decide)) | exact r_load1 ty_one30 rfl (hr [_] _ st 1 (by decide)) | exact r_load1 ty_one30 rfl (hr [_, _] _ st 1 (by decide)) | exact r_load1 ty_one30 rfl (hr [_, _, _] _ st 1 (by decide))) rfl rfl rfl ?_
    -- R1.10 13 := frame.go:64 binOp
    refine WL.v (by first | exact r_eql rfl rfl (decide_eq_true (by omega)) | exact r_eql rfl rfl (decide_eq_false (by omega)) | exact r_eql rfl rfl rfl) rfl rfl rfl ?_
    -- R1.11 14 := frame.go:64 pick
    refine WL.v (by first | exact r_pickT (v := .bool _) rfl rfl | exact r_pickF (v := .bool _) rfl rfl) rfl rfl rfl ?_
    -- R1.12 15 := frame.go:64 move
    refine WL.v (by first | exact r_move (v := .bool _) rfl | exact r_move rfl) rfl rfl rfl ?_
    -- R1.13 16 := frame.go:64 move
    refine WL.v (by first | exact r_move (v := .pointer _) rfl | exact r_move rfl) rfl rfl rfl ?_
    -- R1.14 17 := frame.go:64 nilCheck
    refine WL.v (by exact r_nilCheck rfl) rfl rfl rfl ?_
    -- R1.15 18 := frame.go:64 fieldAddr
    refine WL.v (by exact r_field ty_fld36_2 rfl) rfl rfl rfl ?_
    -- R1.16 19 := frame.go:64 load
    refine WL.v (by first | exact r_load1 ty_one30 rfl (hr [] _ st 2 (by decide)) | exact r_load1 ty_one30 rfl (hr _ _ st 2 (by decide)) | exact r_load1 ty_one30 rfl (hr [_] _ st 2 (by decide)) | exact r_load1 ty_one30 rfl (hr [_, _] _ st 2 (by decide)) | exact r_load1 ty_one30 rfl (hr [_, _, _] _ st 2 (by decide))) rfl rfl rfl ?_
    -- R1.17 20 := frame.go:64 binOp
    refine WL.v (by first | exact r_eql rfl rfl (decide_eq_true (by omega)) | exact r_eql rfl rfl (decide_eq_false (by omega)) | exact r_eql rfl rfl rfl) rfl rfl rfl ?_
    -- R1.18 21 := frame.go:64 pick
    refine WL.v (by first | exact r_pickT (v := .bool _) rfl rfl | exact r_pickF (v := .bool _) rfl rfl) rfl rfl rfl ?_
    -- R1.19 22 := frame.go:64 move
    refine WL.v (by first | exact r_move (v := .bool _) rfl | exact r_move rfl) rfl rfl rfl ?_
    -- R1.20 23 := frame.go:64 move
    refine WL.v (by first | exact r_move (v := .pointer _) rfl | exact r_move rfl) rfl rfl rfl ?_
    -- R1.21 24 := frame.go:64 nilCheck
    refine WL.v (by exact r_nilCheck rfl) rfl rfl rfl ?_
    -- R1.22 25 := frame.go:64 fieldAddr
    refine WL.v (by exact r_field ty_fld36_3 rfl) rfl rfl rfl ?_
    -- R1.23 26 := frame.go:64 load
    refine WL.v (by first | exact r_load1 ty_one5 rfl (hr [] _ st 3 (by decide)) | exact r_load1 ty_one5 rfl (hr _ _ st 3 (by decide)) | exact r_load1 ty_one5 rfl (hr [_] _ st 3 (by decide)) | exact r_load1 ty_one5 rfl (hr [_, _] _ st 3 (by decide)) | exact r_load1 ty_one5 rfl (hr [_, _, _] _ st 3 (by decide))) rfl rfl rfl ?_
    -- R1.24 27 := frame.go:64 binOp
    refine WL.v (by first | exact r_eql rfl rfl (decide_eq_true (by omega)) | exact r_eql rfl rfl (decide_eq_false (by omega)) | exact r_eql rfl rfl rfl) rfl rfl rfl ?_
    -- R1.25 28 := frame.go:64 pick
    refine WL.v (by first | exact r_pickT (v := .bool _) rfl rfl | exact r_pickF (v := .bool _) rfl rfl) rfl rfl rfl ?_
    -- R1.26 29 := frame.go:64 move
    refine WL.v (by first | exact r_move (v := .bool _) rfl | exact r_move rfl) rfl rfl rfl ?_
    -- R1.27 30 := frame.go:64 move
    refine WL.v (by first | exact r_move (v := .pointer _) rfl | exact r_move rfl) rfl rfl rfl ?_
    -- R1.28 31 := frame.go:64 nilCheck
    refine WL.v (by exact r_nilCheck rfl) rfl rfl rfl ?_
    -- R1.29 32 := frame.go:64 fieldAddr
    refine WL.v (by exact r_field ty_fld36_4 rfl) rfl rfl rfl ?_
    -- R1.30 33 := frame.go:64 load
    refine WL.v (by first | exact r_load1 ty_one30 rfl (hr [] _ st 4 (by decide)) | exact r_load1 ty_one30 rfl (hr _ _ st 4 (by decide)) | exact r_load1 ty_one30 rfl (hr [_] _ st 4 (by decide)) | exact r_load1 ty_one30 rfl (hr [_, _] _ st 4 (by decide)) | exact r_load1 ty_one30 rfl (hr [_, _, _] _ st 4 (by decide))) rfl rfl rfl ?_
    -- R1.31 34 := frame.go:64 binOp
    refine WL.v (by first | exact r_eql rfl rfl (decide_eq_true (by omega)) | exact r_eql rfl rfl (decide_eq_false (by omega)) | exact r_eql rfl rfl rfl) rfl rfl rfl ?_
    -- R1.32 35 := frame.go:64 pick
    refine WL.v (by first | exact r_pickT (v := .bool _) rfl rfl | exact r_pickF (v := .bool _) rfl rfl) rfl rfl rfl ?_
    -- R1.33 36 := frame.go:64 move
    refine WL.v (by first | exact r_move (v := .bool _) rfl | exact r_move rfl) rfl rfl rfl ?_
    -- R1.34 37 := frame.go:64 move
    refine WL.v (by first | exact r_move (v := .pointer _) rfl | exact r_move rfl) rfl rfl rfl ?_
    -- R1.35 38 := frame.go:64 nilCheck
    refine WL.v (by exact r_nilCheck rfl) rfl rfl rfl ?_
    -- R1.36 39 := frame.go:64 fieldAddr
    refine WL.v (by exact r_field ty_fld36_5 rfl) rfl rfl rfl ?_
    -- R1.37 40 := frame.go:64 load
    refine WL.v (by first | exact r_load1 ty_one5 rfl (hr [] _ st 5 (by decide)) | exact r_load1 ty_one5 rfl (hr _ _ st 5 (by decide)) | exact r_load1 ty_one5 rfl (hr [_] _ st 5 (by decide)) | exact r_load1 ty_one5 rfl (hr [_, _] _ st 5 (by decide)) | exact r_load1 ty_one5 rfl (hr [_, _, _] _ st 5 (by decide))) rfl rfl rfl ?_
    -- R1.38 41 := frame.go:64 binOp
    refine WL.v (by first | exact r_eql rfl rfl (decide_eq_true (by omega)) | exact r_eql rfl rfl (decide_eq_false (by omega)) | exact r_eql rfl rfl rfl) rfl rfl rfl ?_
    -- R1.39 42 := frame.go:64 pick
    refine WL.v (by first | exact r_pickT (v := .bool _) rfl rfl | exact r_pickF (v := .bool _) rfl rfl) rfl rfl rfl ?_
    -- R1.40 43 := frame.go:64 move
    refine WL.v (by first | exact r_move (v := .bool _) rfl | exact r_move rfl) rfl rfl rfl ?_
    -- R1.41 44 := frame.go:64 move
    refine WL.v (by first | exact r_move (v := .pointer _) rfl | exact r_move rfl) rfl rfl rfl ?_
    -- R1.42 45 := frame.go:64 nilCheck
    refine WL.v (by exact r_nilCheck rfl) rfl rfl rfl ?_
    -- R1.43 46 := frame.go:64 fieldAddr
    refine WL.v (by exact r_field ty_fld36_6 rfl) rfl rfl rfl ?_
    -- R1.44 47 := frame.go:64 load
    refine WL.v (by first | exact r_load1 ty_one5 rfl (hr [] _ st 6 (by decide)) | exact r_load1 ty_one5 rfl (hr _ _ st 6 (by decide)) | exact r_load1 ty_one5 rfl (hr [_] _ st 6 (by decide)) | exact r_load1 ty_one5 rfl (hr [_, _] _ st 6 (by decide)) | exact r_load1 ty_one5 rfl (hr [_, _, _] _ st 6 (by decide))) rfl rfl rfl ?_
    -- R1.45 48 := frame.go:64 binOp
    refine WL.v (by first | exact r_eql rfl rfl (decide_eq_true (by omega)) | exact r_eql rfl rfl (decide_eq_false (by omega)) | exact r_eql rfl rfl rfl) rfl rfl rfl ?_
    -- R1.46 49 := frame.go:64 pick
    refine WL.v (by first | exact r_pickT (v := .bool _) rfl rfl | exact r_pickF (v := .bool _) rfl rfl) rfl rfl rfl ?_
    -- R1.47 50 := frame.go:64 move
    refine WL.v (by first | exact r_move (v := .bool _) rfl | exact r_move rfl) rfl rfl rfl ?_
    -- R1.48 51 := frame.go:64 move
    refine WL.v (by first | exact r_move (v := .pointer _) rfl | exact r_move rfl) rfl rfl rfl ?_
    -- R1.49 52 := frame.go:64 nilCheck
    refine WL.v (by exact r_nilCheck rfl) rfl rfl rfl ?_
    -- R1.50 53 := frame.go:64 fieldAddr
    refine WL.v (by exact r_field ty_fld36_7 rfl) rfl rfl rfl ?_
    -- R1.51 54 := frame.go:64 load
    refine WL.v (by first | exact r_load1 ty_one30 rfl (hr [] _ st 7 (by decide)) | exact r_load1 ty_one30 rfl (hr _ _ st 7 (by decide)) | exact r_load1 ty_one30 rfl (hr [_] _ st 7 (by decide)) | exact r_load1 ty_one30 rfl (hr [_, _] _ st 7 (by decide)) | exact r_load1 ty_one30 rfl (hr [_, _, _] _ st 7 (by decide))) rfl rfl rfl ?_
    -- R1.52 55 := frame.go:64 binOp
    refine WL.v (by first | exact r_eql rfl rfl (decide_eq_true (by omega)) | exact r_eql rfl rfl (decide_eq_false (by omega)) | exact r_eql rfl rfl rfl) rfl rfl rfl ?_
    -- R1.53 56 := frame.go:64 pick
    refine WL.v (by first | exact r_pickT (v := .bool _) rfl rfl | exact r_pickF (v := .bool _) rfl rfl) rfl rfl rfl ?_
    -- R1.54 57 := frame.go:64 move
    refine WL.v (by first | exact r_move (v := .bool _) rfl | exact r_move rfl) rfl rfl rfl ?_
    -- R1.55 58 := frame.go:64 move
    refine WL.v (by first | exact r_move (v := .pointer _) rfl | exact r_move rfl) rfl rfl rfl ?_
    -- R1.56 59 := frame.go:64 nilCheck
    refine WL.v (by exact r_nilCheck rfl) rfl rfl rfl ?_
    -- R1.57 60 := frame.go:64 fieldAddr
    refine WL.v (by exact r_field ty_fld36_8 rfl) rfl rfl rfl ?_
    -- R1.58 61 := frame.go:64 load
    refine WL.v (by first | exact r_loadL (vs := [_, _, _, _]) ty_agg34 rfl ⟨hr [] _ st 8 (by decide), hr [] _ st 9 (by decide), hr [] _ st 10 (by decide), hr [] _ st 11 (by decide), trivial⟩ | exact r_loadL (vs := [_, _, _, _]) ty_agg34 rfl ⟨hr _ _ st 8 (by decide), hr _ _ st 9 (by decide), hr _ _ st 10 (by decide), hr _ _ st 11 (by decide), trivial⟩ | exact r_loadL (vs := [_, _, _, _]) ty_agg34 rfl ⟨hr [_] _ st 8 (by decide), hr [_] _ st 9 (by decide), hr [_] _ st 10 (by decide), hr [_] _ st 11 (by decide), trivial⟩ | exact r_loadL (vs := [_, _, _, _]) ty_agg34 rfl ⟨hr [_, _] _ st 8 (by decide), hr [_, _] _ st 9 (by decide), hr [_, _] _ st 10 (by decide), hr [_, _] _ st 11 (by decide), trivial⟩ | exact r_loadL (vs := [_, _, _, _]) ty_agg34 rfl ⟨hr [_, _, _] _ st 8 (by decide), hr [_, _, _] _ st 9 (by decide), hr [_, _, _] _ st 10 (by decide), hr [_, _, _] _ st 11 (by decide), trivial⟩) rfl rfl rfl ?_
    -- R1.59 62 := frame.go:64 build
    refine WL.v (by exact r_build (ps := []) (vs := [_, _, _, _]) ty_pl34 ty_zero34 rfl (fill_nil)) rfl rfl rfl ?_
    -- R1.60 63 := frame.go:64 binOp
    refine WL.v (by first | exact r_ar4_eql (t := true) ty_ar34 ty_uint5 ty_eqg34 hx.r8 hx.r9 hx.r10 hx.r11 rfl rfl (decide_eq_true (by omega)) | exact r_ar4_eql (t := false) ty_ar34 ty_uint5 ty_eqg34 hx.r8 hx.r9 hx.r10 hx.r11 rfl rfl (decide_eq_false (by omega))) rfl rfl rfl ?_
    -- R1.61 64 := frame.go:64 pick
    refine WL.v (by first | exact r_pickT (v := .bool _) rfl rfl | exact r_pickF (v := .bool _) rfl rfl) rfl rfl rfl ?_
    -- R1.62 65 := frame.go:64 move
    refine WL.v (by first | exact r_move (v := .bool _) rfl | exact r_move rfl) rfl rfl rfl ?_
    -- R1.63 66 := frame.go:64 move
    refine WL.v (by first | exact r_move (v := .pointer _) rfl | exact r_move rfl) rfl rfl rfl ?_
    -- R1.64 67 := frame.go:64 nilCheck
    refine WL.v (by exact r_nilCheck rfl) rfl rfl rfl ?_
    -- R1.65 68 := frame.go:64 fieldAddr
    refine WL.v (by exact r_field ty_fld36_9 rfl) rfl rfl rfl ?_
    -- R1.66 69 := frame.go:64 load
    refine WL.v (by first | exact r_loadL (vs := [_, _, _, _]) ty_agg34 rfl ⟨hr [] _ st 12 (by decide), hr [] _ st 13 (by decide), hr [] _ st 14 (by decide), hr [] _ st 15 (by decide), trivial⟩ | exact r_loadL (vs := [_, _, _, _]) ty_agg34 rfl ⟨hr _ _ st 12 (by decide), hr _ _ st 13 (by decide), hr _ _ st 14 (by decide), hr _ _ st 15 (by decide), trivial⟩ | exact r_loadL (vs := [_, _, _, _]) ty_agg34 rfl ⟨hr [_] _ st 12 (by decide), hr [_] _ st 13 (by decide), hr [_] _ st 14 (by decide), hr [_] _ st 15 (by decide), trivial⟩ | exact r_loadL (vs := [_, _, _, _]) ty_agg34 rfl ⟨hr [_, _] _ st 12 (by decide), hr [_, _] _ st 13 (by decide), hr [_, _] _ st 14 (by decide), hr [_, _] _ st 15 (by decide), trivial⟩ | exact r_loadL (vs := [_, _, _, _]) ty_agg34 rfl ⟨hr [_, _, _] _ st 12 (by decide), hr [_, _, _] _ st 13 (by decide), hr [_, _, _] _ st 14 (by decide), hr [_, _, _] _ st 15 (by decide), trivial⟩) rfl rfl rfl ?_
    -- R1.67 70 := frame.go:64 build
    refine WL.v (by exact r_build (ps := []) (vs := [_, _, _, _]) ty_pl34 ty_zero34 rfl (fill_nil)) rfl rfl rfl ?_
    -- R1.68 71 := frame.go:64 binOp
    refine WL.v (by first | exact r_ar4_eql (t := true) ty_ar34 ty_uint5 ty_eqg34 hx.r12 hx.r13 hx.r14 hx.r15 rfl rfl (decide_eq_true (by omega)) | exact r_ar4_eql (t := false) ty_ar34 ty_uint5 ty_eqg34 hx.r12 hx.r13 hx.r14 hx.r15 rfl rfl (decide_eq_false (by omega))) rfl rfl rfl ?_
    -- R1.69 72 := frame.go:64 pick
    refine WL.v (by first | exact r_pickT (v := .bool _) rfl rfl | exact r_pickF (v := .bool _) rfl rfl) rfl rfl rfl ?_
    -- R1.70 73 := frame.go:64 move
    refine WL.v (by first | exact r_move (v := .bool _) rfl | exact r_move rfl) rfl rfl rfl ?_
    -- R1.71 74 := frame.go:64 move
    refine WL.no rfl rfl ?_
    -- R1.72 75 := frame.go:64 nilCheck
    refine WL.no rfl rfl ?_
    -- R1.73 76 := frame.go:64 fieldAddr
    refine WL.no rfl rfl ?_
    -- R1.74 77 := frame.go:64 load
    refine WL.no rfl rfl ?_
    -- R1.75 78 := frame.go:64 call
    refine WL.no rfl rfl ?_
    -- R1.76 79 := frame.go:64 binOp
    refine WL.no rfl rfl ?_
    -- R1.77 80 := frame.go:64 pick
    refine WL.v (by first | exact r_pickT (v := .bool _) rfl rfl | exact r_pickF (v := .bool _) rfl rfl) rfl rfl rfl ?_
    -- R1.78 2 := frame.go:64 assign
    refine WL.v (by first | exact r_assign (v := .bool _) rfl | exact r_assign rfl) rfl rfl rfl ?_
    refine WL.fin hK445 (fun _ _ h => h) ?_
    refine WC.ret1 Tryd.results70 (fun _ _ h => h) rfl ?_
    exact ⟨_, rfl, .inr ⟨rfl, fun h => by simp only [zIp] at h; omega⟩, st⟩
  by_cases c10 : s.bs.length = 0
  case neg =>
    refine enter [.pointer (some ⟨b, o, none⟩)] Tryd.func70 rfl Tryd.ntmps70 rfl ?_
    show WC _ _ _ 81 [] [(0, .pointer (some ⟨b, o, none⟩))] _
    refine WC.seq fun K446 hK446 => ?_
    -- region 0
    refine WC.region ?_
    -- R0.0 2 := frame.go:63 assign
    refine WL.v (by first | exact r_assign (v := .bool _) rfl | exact r_assign rfl) rfl rfl rfl ?_
    refine WL.fin hK446 (fun _ _ h => h) ?_
    refine WC.seq fun K447 hK447 => ?_
    -- region 1
    refine WC.region ?_
    -- R1.0 3 := frame.go:64 move
    refine WL.v (by first | exact r_move (v := .pointer _) rfl | exact r_move rfl) rfl rfl rfl ?_
    -- R1.1 4 := frame.go:64 nilCheck
    refine WL.v (by exact r_nilCheck rfl) rfl rfl rfl ?_
    -- R1.2 5 := frame.go:64 fieldAddr
    refine WL.v (by exact r_field ty_fld36_0 rfl) rfl rfl rfl ?_
    -- R1.3 6 := frame.go:64 load
    refine WL.v (by first | exact r_load1 ty_one5 rfl (hr [] _ st 0 (by decide)) | exact r_load1 ty_one5 rfl (hr _ _ st 0 (by decide)) | exact r_load1 ty_one5 rfl (hr [_] _ st 0 (by decide)) | exact r_load1 ty_one5 rfl (hr [_, _] _ st 0 (by decide)) | exact r_load1 ty_one5 rfl (hr [_, _, _] _ st 0 (by decide))) rfl rfl rfl ?_
    -- R1.4 7 := frame.go:64 binOp
    refine WL.v (by first | exact r_eql rfl rfl (decide_eq_true (by omega)) | exact r_eql rfl rfl (decide_eq_false (by omega)) | exact r_eql rfl rfl rfl) rfl rfl rfl ?_
    -- R1.5 8 := frame.go:64 move
    refine WL.v (by first | exact r_move (v := .bool _) rfl | exact r_move rfl) rfl rfl rfl ?_
    -- R1.6 9 := frame.go:64 move
    refine WL.v (by first | exact r_move (v := .pointer _) rfl | exact r_move rfl) rfl rfl rfl ?_
    -- R1.7 10 := frame.go:64 nilCheck
    refine WL.v (by exact r_nilCheck rfl) rfl rfl rfl ?_
    -- R1.8 11 := frame.go:64 fieldAddr
    refine WL.v (by exact r_field ty_fld36_1 rfl) rfl rfl rfl ?_
    -- R1.9 12 := frame.go:64 load
    refine WL.v (by first | exact r_load1 ty_one30 rfl (hr [] _ st 1 (by decide)) | exact r_load1 ty_one30 rfl (hr _ _ st 1 (by decide)) | exact r_load1 ty_one30 rfl (hr [_] _ st 1 (by decide)) | exact r_load1 ty_one30 rfl (hr [_, _] _ st 1 (by decide)) | exact r_load1 ty_one30 rfl (hr [_, _, _] _ st 1 (by decide))) rfl rfl rfl ?_
    -- R1.10 13 := frame.go:64 binOp
    refine WL.v (by first | exact r_eql rfl rfl (decide_eq_true (by omega)) | exact r_eql rfl rfl (decide_eq_false (by omega)) | exact r_eql rfl rfl rfl) rfl rfl rfl ?_
    -- R1.11 14 := frame.go:64 pick
    refine WL.v (by first | exact r_pickT (v := .bool _) rfl rfl | exact r_pickF (v := .bool _) rfl rfl) rfl rfl rfl ?_
    -- R1.12 15 := frame.go:64 move
    refine WL.v (by first | exact r_move (v := .bool _) rfl | exact r_move rfl) rfl rfl rfl ?_
    -- R1.13 16 := frame.go:64 move
    refine WL.v (by first | exact r_move (v := .pointer _) rfl | exact r_move rfl) rfl rfl rfl ?_
    -- R1.14 17 := frame.go:64 nilCheck
    refine WL.v (by exact r_nilCheck rfl) rfl rfl rfl ?_
    -- R1.15 18 := frame.go:64 fieldAddr
    refine WL.v (by exact r_field ty_fld36_2 rfl) rfl rfl rfl ?_
    -- R1.16 19 := frame.go:64 load
    refine WL.v (by first | exact r_load1 ty_one30 rfl (hr [] _ st 2 (by decide)) | exact r_load1 ty_one30 rfl (hr _ _ st 2 (by decide)) | exact r_load1 ty_one30 rfl (hr [_] _ st 2 (by decide)) | exact r_load1 ty_one30 rfl (hr [_, _] _ st 2 (by decide)) | exact r_load1 ty_one30 rfl (hr [_, _, _] _ st 2 (by decide))) rfl rfl rfl ?_
    -- R1.17 20 := frame.go:64 binOp
    refine WL.v (by first | exact r_eql rfl rfl (decide_eq_true (by omega)) | exact r_eql rfl rfl (decide_eq_false (by omega)) | exact r_eql rfl rfl rfl) rfl rfl rfl ?_
    -- R1.18 21 := frame.go:64 pick
    refine WL.v (by first | exact r_pickT (v := .bool _) rfl rfl | exact r_pickF (v := .bool _) rfl rfl) rfl rfl rfl ?_
    -- R1.19 22 := frame.go:64 move
    refine WL.v (by first | exact r_move (v := .bool _) rfl | exact r_move rfl) rfl rfl rfl ?_
    -- R1.20 23 := frame.go:64 move
    refine WL.v (by first | exact r_move (v := .pointer _) rfl | exact r_move rfl) rfl rfl rfl ?_
    -- R1.21 24 := frame.go:64 nilCheck
    refine WL.v (by exact r_nilCheck rfl) rfl rfl rfl ?_
    -- R1.22 25 := frame.go:64 fieldAddr
    refine WL.v (by exact r_field ty_fld36_3 rfl) rfl rfl rfl ?_
    -- R1.23 26 := frame.go:64 load
    refine WL.v (by first | exact r_load1 ty_one5 rfl (hr [] _ st 3 (by decide)) | exact r_load1 ty_one5 rfl (hr _ _ st 3 (by decide)) | exact r_load1 ty_one5 rfl (hr [_] _ st 3 (by decide)) | exact r_load1 ty_one5 rfl (hr [_, _] _ st 3 (by decide)) | exact r_load1 ty_one5 rfl (hr [_, _, _] _ st 3 (by decide))) rfl rfl rfl ?_
    -- R1.24 27 := frame.go:64 binOp
    refine WL.v (by first | exact r_eql rfl rfl (decide_eq_true (by omega)) | exact r_eql rfl rfl (decide_eq_false (by omega)) | exact r_eql rfl rfl rfl) rfl rfl rfl ?_
    -- R1.25 28 := frame.go:64 pick
    refine WL.v (by first | exact r_pickT (v := .bool _) rfl rfl | exact r_pickF (v := .bool _) rfl rfl) rfl rfl rfl ?_
    -- R1.26 29 := frame.go:64 move
    refine WL.v (by first | exact r_move (v := .bool _) rfl | exact r_move rfl) rfl rfl rfl ?_
    -- R1.27 30 := frame.go:64 move
    refine WL.v (by first | exact r_move (v := .pointer _) rfl | exact r_move rfl) rfl rfl rfl ?_
    -- R1.28 31 := frame.go:64 nilCheck
    refine WL.v (by exact r_nilCheck rfl) rfl rfl rfl ?_
    -- R1.29 32 := frame.go:64 fieldAddr
    refine WL.v (by exact r_field ty_fld36_4 rfl) rfl rfl rfl ?_
    -- R1.30 33 := frame.go:64 load
    refine WL.v (by first | exact r_load1 ty_one30 rfl (hr [] _ st 4 (by decide)) | exact r_load1 ty_one30 rfl (hr _ _ st 4 (by decide)) | exact r_load1 ty_one30 rfl (hr [_] _ st 4 (by decide)) | exact r_load1 ty_one30 rfl (hr [_, _] _ st 4 (by decide)) | exact r_load1 ty_one30 rfl (hr [_, _, _] _ st 4 (by decide))) rfl rfl rfl ?_
    -- R1.31 34 := frame.go:64 binOp
    refine WL.v (by first | exact r_eql rfl rfl (decide_eq_true (by omega)) | exact r_eql rfl rfl (decide_eq_false (by omega)) | exact r_eql rfl rfl rfl) rfl rfl rfl ?_
    -- R1.32 35 := frame.go:64 pick
    refine WL.v (by first | exact r_pickT (v := .bool _) rfl rfl | exact r_pickF (v := .bool _) rfl rfl) rfl rfl rfl ?_
    -- R1.33 36 := frame.go:64 move
    refine WL.v (by first | exact r_move (v := .bool _) rfl | exact r_move rfl) rfl rfl rfl ?_
    -- R1.34 37 := frame.go:64 move
    refine WL.v (by first | exact r_move (v := .pointer _) rfl | exact r_move rfl) rfl rfl rfl ?_
    -- R1.35 38 := frame.go:64 nilCheck
    refine WL.v (by exact r_nilCheck rfl) rfl rfl rfl ?_
    -- R1.36 39 := frame.go:64 fieldAddr
    refine WL.v (by exact r_field ty_fld36_5 rfl) rfl rfl rfl ?_
    -- R1.37 40 := frame.go:64 load
    refine WL.v (by first | exact r_load1 ty_one5 rfl (hr [] _ st 5 (by decide)) | exact r_load1 ty_one5 rfl (hr _ _ st 5 (by decide)) | exact r_load1 ty_one5 rfl (hr [_] _ st 5 (by decide)) | exact r_load1 ty_one5 rfl (hr [_, _] _ st 5 (by decide)) | exact r_load1 ty_one5 rfl (hr [_, _, _] _ st 5 (by decide))) rfl rfl rfl ?_
    -- R1.38 41 := frame.go:64 binOp
    refine WL.v (by first | exact r_eql rfl rfl (decide_eq_true (by omega)) | exact r_eql rfl rfl (decide_eq_false (by omega)) | exact r_eql rfl rfl rfl) rfl rfl rfl ?_
    -- R1.39 42 := frame.go:64 pick
    refine WL.v (by first | exact r_pickT (v := .bool _) rfl rfl | exact r_pickF (v := .bool _) rfl rfl) rfl rfl rfl ?_
    -- R1.40 43 := frame.go:64 move
    refine WL.v (by first | exact r_move (v := .bool _) rfl | exact r_move rfl) rfl rfl rfl ?_
    -- R1.41 44 := frame.go:64 move
    refine WL.v (by first | exact r_move (v := .pointer _) rfl | exact r_move rfl) rfl rfl rfl ?_
    -- R1.42 45 := frame.go:64 nilCheck
    refine WL.v (by exact r_nilCheck rfl) rfl rfl rfl ?_
    -- R1.43 46 := frame.go:64 fieldAddr
    refine WL.v (by exact r_field ty_fld36_6 rfl) rfl rfl rfl ?_
    -- R1.44 47 := frame.go:64 load
    refine WL.v (by first | exact r_load1 ty_one5 rfl (hr [] _ st 6 (by decide)) | exact r_load1 ty_one5 rfl (hr _ _ st 6 (by decide)) | exact r_load1 ty_one5 rfl (hr [_] _ st 6 (by decide)) | exact r_load1 ty_one5 rfl (hr [_, _] _ st 6 (by decide)) | exact r_load1 ty_one5 rfl (hr [_, _, _] _ st 6 (by decide))) rfl rfl rfl ?_
    -- R1.45 48 := frame.go:64 binOp
    refine WL.v (by first | exact r_eql rfl rfl (decide_eq_true (by omega)) | exact r_eql rfl rfl (decide_eq_false (by omega)) | exact r_eql rfl rfl rfl) rfl rfl rfl ?_
    -- R1.46 49 := frame.go:64 pick
    refine WL.v (by first | exact r_pickT (v := .bool _) rfl rfl | exact r_pickF (v := .bool _) rfl rfl) rfl rfl rfl ?_
    -- R1.47 50 := frame.go:64 move
    refine WL.v (by first | exact r_move (v := .bool _) rfl | exact r_move rfl) rfl rfl rfl ?_
    -- R1.48 51 := frame.go:64 move
    refine WL.v (by first | exact r_move (v := .pointer _) rfl | exact r_move rfl) rfl rfl rfl ?_
    -- R1.49 52 := frame.go:64 nilCheck
    refine WL.v (by exact r_nilCheck rfl) rfl rfl rfl ?_
    -- R1.50 53 := frame.go:64 fieldAddr
    refine WL.v (by exact r_field ty_fld36_7 rfl) rfl rfl rfl ?_
    -- R1.51 54 := frame.go:64 load
    refine WL.v (by first | exact r_load1 ty_one30 rfl (hr [] _ st 7 (by decide)) | exact r_load1 ty_one30 rfl (hr _ _ st 7 (by decide)) | exact r_load1 ty_one30 rfl (hr [_] _ st 7 (by decide)) | exact r_load1 ty_one30 rfl (hr [_, _] _ st 7 (by decide)) | exact r_load1 ty_one30 rfl (hr [_, _, _] _ st 7 (by decide))) rfl rfl rfl ?_
    -- R1.52 55 := frame.go:64 binOp
    refine WL.v (by first | exact r_eql rfl rfl (decide_eq_true (by omega)) | exact r_eql rfl rfl (decide_eq_false (by omega)) | exact r_eql rfl rfl rfl) rfl rfl rfl ?_
    -- R1.53 56 := frame.go:64 pick
    refine WL.v (by first | exact r_pickT (v := .bool _) rfl rfl | exact r_pickF (v := .bool _) rfl rfl) rfl rfl rfl ?_
    -- R1.54 57 := frame.go:64 move
    refine WL.v (by first | exact r_move (v := .bool _) rfl | exact r_move rfl) rfl rfl rfl ?_
    -- R1.55 58 := frame.go:64 move
    refine WL.v (by first | exact r_move (v := .pointer _) rfl | exact r_move rfl) rfl rfl rfl ?_
    -- R1.56 59 := frame.go:64 nilCheck
    refine WL.v (by exact r_nilCheck rfl) rfl rfl rfl ?_
    -- R1.57 60 := frame.go:64 fieldAddr
    refine WL.v (by exact r_field ty_fld36_8 rfl) rfl rfl rfl ?_
    -- R1.58 61 := frame.go:64 load
    refine WL.v (by first | exact r_loadL (vs := [_, _, _, _]) ty_agg34 rfl ⟨hr [] _ st 8 (by decide), hr [] _ st 9 (by decide), hr [] _ st 10 (by decide), hr [] _ st 11 (by decide), trivial⟩ | exact r_loadL (vs := [_, _, _, _]) ty_agg34 rfl ⟨hr _ _ st 8 (by decide), hr _ _ st 9 (by decide), hr _ _ st 10 (by decide), hr _ _ st 11 (by decide), trivial⟩ | exact r_loadL (vs := [_, _, _, _]) ty_agg34 rfl ⟨hr [_] _ st 8 (by decide), hr [_] _ st 9 (by decide), hr [_] _ st 10 (by decide), hr [_] _ st 11 (by decide), trivial⟩ | exact r_loadL (vs := [_, _, _, _]) ty_agg34 rfl ⟨hr [_, _] _ st 8 (by decide), hr [_, _] _ st 9 (by decide), hr [_, _] _ st 10 (by decide), hr [_, _] _ st 11 (by decide), trivial⟩ | exact r_loadL (vs := [_, _, _, _]) ty_agg34 rfl ⟨hr [_, _, _] _ st 8 (by decide), hr [_, _, _] _ st 9 (by decide), hr [_, _, _] _ st 10 (by decide), hr [_, _, _] _ st 11 (by decide), trivial⟩) rfl rfl rfl ?_
    -- R1.59 62 := frame.go:64 build
    refine WL.v (by exact r_build (ps := []) (vs := [_, _, _, _]) ty_pl34 ty_zero34 rfl (fill_nil)) rfl rfl rfl ?_
    -- R1.60 63 := frame.go:64 binOp
    refine WL.v (by first | exact r_ar4_eql (t := true) ty_ar34 ty_uint5 ty_eqg34 hx.r8 hx.r9 hx.r10 hx.r11 rfl rfl (decide_eq_true (by omega)) | exact r_ar4_eql (t := false) ty_ar34 ty_uint5 ty_eqg34 hx.r8 hx.r9 hx.r10 hx.r11 rfl rfl (decide_eq_false (by omega))) rfl rfl rfl ?_
    -- R1.61 64 := frame.go:64 pick
    refine WL.v (by first | exact r_pickT (v := .bool _) rfl rfl | exact r_pickF (v := .bool _) rfl rfl) rfl rfl rfl ?_
    -- R1.62 65 := frame.go:64 move
    refine WL.v (by first | exact r_move (v := .bool _) rfl | exact r_move rfl) rfl rfl rfl ?_
    -- R1.63 66 := frame.go:64 move
    refine WL.v (by first | exact r_move (v := .pointer _) rfl | exact r_move rfl) rfl rfl rfl ?_
    -- R1.64 67 := frame.go:64 nilCheck
    refine WL.v (by exact r_nilCheck rfl) rfl rfl rfl ?_
    -- R1.65 68 := frame.go:64 fieldAddr
    refine WL.v (by exact r_field ty_fld36_9 rfl) rfl rfl rfl ?_
    -- R1.66 69 := frame.go:64 load
    refine WL.v (by first | exact r_loadL (vs := [_, _, _, _]) ty_agg34 rfl ⟨hr [] _ st 12 (by decide), hr [] _ st 13 (by decide), hr [] _ st 14 (by decide), hr [] _ st 15 (by decide), trivial⟩ | exact r_loadL (vs := [_, _, _, _]) ty_agg34 rfl ⟨hr _ _ st 12 (by decide), hr _ _ st 13 (by decide), hr _ _ st 14 (by decide), hr _ _ st 15 (by decide), trivial⟩ | exact r_loadL (vs := [_, _, _, _]) ty_agg34 rfl ⟨hr [_] _ st 12 (by decide), hr [_] _ st 13 (by decide), hr [_] _ st 14 (by decide), hr [_] _ st 15 (by decide), trivial⟩ | exact r_loadL (vs := [_, _, _, _]) ty_agg34 rfl ⟨hr [_, _] _ st 12 (by decide), hr [_, _] _ st 13 (by decide), hr [_, _] _ st 14 (by decide), hr [_, _] _ st 15 (by decide), trivial⟩ | exact r_loadL (vs := [_, _, _, _]) ty_agg34 rfl ⟨hr [_, _, _] _ st 12 (by decide), hr [_, _, _] _ st 13 (by decide), hr [_, _, _] _ st 14 (by decide), hr [_, _, _] _ st 15 (by decide), trivial⟩) rfl rfl rfl ?_
    -- R1.67 70 := frame.go:64 build
    refine WL.v (by exact r_build (ps := []) (vs := [_, _, _, _]) ty_pl34 ty_zero34 rfl (fill_nil)) rfl rfl rfl ?_
    -- R1.68 71 := frame.go:64 binOp
    refine WL.v (by first | exact r_ar4_eql (t := true) ty_ar34 ty_uint5 ty_eqg34 hx.r12 hx.r13 hx.r14 hx.r15 rfl rfl (decide_eq_true (by omega)) | exact r_ar4_eql (t := false) ty_ar34 ty_uint5 ty_eqg34 hx.r12 hx.r13 hx.r14 hx.r15 rfl rfl (decide_eq_false (by omega))) rfl rfl rfl ?_
    -- R1.69 72 := frame.go:64 pick
    refine WL.v (by first | exact r_pickT (v := .bool _) rfl rfl | exact r_pickF (v := .bool _) rfl rfl) rfl rfl rfl ?_
    -- R1.70 73 := frame.go:64 move
    refine WL.v (by first | exact r_move (v := .bool _) rfl | exact r_move rfl) rfl rfl rfl ?_
    -- R1.71 74 := frame.go:64 move
    refine WL.v (by first | exact r_move (v := .pointer _) rfl | exact r_move rfl) rfl rfl rfl ?_
    -- R1.72 75 := frame.go:64 nilCheck
    refine WL.v (by exact r_nilCheck rfl) rfl rfl rfl ?_
    -- R1.73 76 := frame.go:64 fieldAddr
    refine WL.v (by exact r_field ty_fld36_10 rfl) rfl rfl rfl ?_
    -- R1.74 77 := frame.go:64 load
    refine WL.v (by first | exact r_load1 ty_one25 rfl (hr [] _ st 16 (by decide)) | exact r_load1 ty_one25 rfl (hr _ _ st 16 (by decide)) | exact r_load1 ty_one25 rfl (hr [_] _ st 16 (by decide)) | exact r_load1 ty_one25 rfl (hr [_, _] _ st 16 (by decide)) | exact r_load1 ty_one25 rfl (hr [_, _, _] _ st 16 (by decide))) rfl rfl rfl ?_
    -- R1.75 78 := frame.go:64 call
    refine WL.v (by exact r_len ty_usl25 rfl) rfl rfl rfl ?_
    -- R1.76 79 := frame.go:64 binOp
    refine WL.v (by first | exact r_eql rfl rfl (decide_eq_true (by omega)) | exact r_eql rfl rfl (decide_eq_false (by omega)) | exact r_eql rfl rfl rfl) rfl rfl rfl ?_
    -- R1.77 80 := frame.go:64 pick
    refine WL.v (by first | exact r_pickT (v := .bool _) rfl rfl | exact r_pickF (v := .bool _) rfl rfl) rfl rfl rfl ?_
    -- R1.78 2 := frame.go:64 assign
    refine WL.v (by first | exact r_assign (v := .bool _) rfl | exact r_assign rfl) rfl rfl rfl ?_
    refine WL.fin hK447 (fun _ _ h => h) ?_
    refine WC.ret1 Tryd.results70 (fun _ _ h => h) rfl ?_
    exact ⟨_, rfl, .inr ⟨rfl, fun h => by simp only [zIp] at h; omega⟩, st⟩
  refine enter [.pointer (some ⟨b, o, none⟩)] Tryd.func70 rfl Tryd.ntmps70 rfl ?_
  show WC _ _ _ 81 [] [(0, .pointer (some ⟨b, o, none⟩))] _
  refine WC.seq fun K448 hK448 => ?_
  -- region 0
  refine WC.region ?_
  -- R0.0 2 := frame.go:63 assign
  refine WL.v (by first | exact r_assign (v := .bool _) rfl | exact r_assign rfl) rfl rfl rfl ?_
  refine WL.fin hK448 (fun _ _ h => h) ?_
  refine WC.seq fun K449 hK449 => ?_
  -- region 1
  refine WC.region ?_
  -- R1.0 3 := frame.go:64 move
  refine WL.v (by first | exact r_move (v := .pointer _) rfl | exact r_move rfl) rfl rfl rfl ?_
  -- R1.1 4 := frame.go:64 nilCheck
  refine WL.v (by exact r_nilCheck rfl) rfl rfl rfl ?_
  -- R1.2 5 := frame.go:64 fieldAddr
  refine WL.v (by exact r_field ty_fld36_0 rfl) rfl rfl rfl ?_
  -- R1.3 6 := frame.go:64 load
  refine WL.v (by first | exact r_load1 ty_one5 rfl (hr [] _ st 0 (by decide)) | exact r_load1 ty_one5 rfl (hr _ _ st 0 (by decide)) | exact r_load1 ty_one5 rfl (hr [_] _ st 0 (by decide)) | exact r_load1 ty_one5 rfl (hr [_, _] _ st 0 (by decide)) | exact r_load1 ty_one5 rfl (hr [_, _, _] _ st 0 (by decide))) rfl rfl rfl ?_
  -- R1.4 7 := frame.go:64 binOp
  refine WL.v (by first | exact r_eql rfl rfl (decide_eq_true (by omega)) | exact r_eql rfl rfl (decide_eq_false (by omega)) | exact r_eql rfl rfl rfl) rfl rfl rfl ?_
  -- R1.5 8 := frame.go:64 move
  refine WL.v (by first | exact r_move (v := .bool _) rfl | exact r_move rfl) rfl rfl rfl ?_
  -- R1.6 9 := frame.go:64 move
  refine WL.v (by first | exact r_move (v := .pointer _) rfl | exact r_move rfl) rfl rfl rfl ?_
  -- R1.7 10 := frame.go:64 nilCheck
  refine WL.v (by exact r_nilCheck rfl) rfl rfl rfl ?_
  -- R1.8 11 := frame.go:64 fieldAddr
  refine WL.v (by exact r_field ty_fld36_1 rfl) rfl rfl rfl ?_
  -- R1.9 12 := frame.go:64 load
  refine WL.v (by first | exact r_load1 ty_one30 rfl (hr [] _ st 1 (by decide)) | exact r_load1 ty_one30 rfl (hr _ _ st 1 (by decide)) | exact r_load1 ty_one30 rfl (hr [_] _ st 1 (by decide)) | exact r_load1 ty_one30 rfl (hr [_, _] _ st 1 (by decide)) | exact r_load1 ty_one30 rfl (hr [_, _, _] _ st 1 (by decide))) rfl rfl rfl ?_
  -- R1.10 13 := frame.go:64 binOp
  refine WL.v (by first | exact r_eql rfl rfl (decide_eq_true (by omega)) | exact r_eql rfl rfl (decide_eq_false (by omega)) | exact r_eql rfl rfl rfl) rfl rfl rfl ?_
  -- R1.11 14 := frame.go:64 pick
  refine WL.v (by first | exact r_pickT (v := .bool _) rfl rfl | exact r_pickF (v := .bool _) rfl rfl) rfl rfl rfl ?_
  -- R1.12 15 := frame.go:64 move
  refine WL.v (by first | exact r_move (v := .bool _) rfl | exact r_move rfl) rfl rfl rfl ?_
  -- R1.13 16 := frame.go:64 move
  refine WL.v (by first | exact r_move (v := .pointer _) rfl | exact r_move rfl) rfl rfl rfl ?_
  -- R1.14 17 := frame.go:64 nilCheck
  refine WL.v (by exact r_nilCheck rfl) rfl rfl rfl ?_
  -- R1.15 18 := frame.go:64 fieldAddr
  refine WL.v (by exact r_field ty_fld36_2 rfl) rfl rfl rfl ?_
  -- R1.16 19 := frame.go:64 load
  refine WL.v (by first | exact r_load1 ty_one30 rfl (hr [] _ st 2 (by decide)) | exact r_load1 ty_one30 rfl (hr _ _ st 2 (by decide)) | exact r_load1 ty_one30 rfl (hr [_] _ st 2 (by decide)) | exact r_load1 ty_one30 rfl (hr [_, _] _ st 2 (by decide)) | exact r_load1 ty_one30 rfl (hr [_, _, _] _ st 2 (by decide))) rfl rfl rfl ?_
  -- R1.17 20 := frame.go:64 binOp
  refine WL.v (by first | exact r_eql rfl rfl (decide_eq_true (by omega)) | exact r_eql rfl rfl (decide_eq_false (by omega)) | exact r_eql rfl rfl rfl) rfl rfl rfl ?_
  -- R1.18 21 := frame.go:64 pick
  refine WL.v (by first | exact r_pickT (v := .bool _) rfl rfl | exact r_pickF (v := .bool _) rfl rfl) rfl rfl rfl ?_
  -- R1.19 22 := frame.go:64 move
  refine WL.v (by first | exact r_move (v := .bool _) rfl | exact r_move rfl) rfl rfl rfl ?_
  -- R1.20 23 := frame.go:64 move
  refine WL.v (by first | exact r_move (v := .pointer _) rfl | exact r_move rfl) rfl rfl rfl ?_
  -- R1.21 24 := frame.go:64 nilCheck
  refine WL.v (by exact r_nilCheck rfl) rfl rfl rfl ?_
  -- R1.22 25 := frame.go:64 fieldAddr
  refine WL.v (by exact r_field ty_fld36_3 rfl) rfl rfl rfl ?_
  -- R1.23 26 := frame.go:64 load
  refine WL.v (by first | exact r_load1 ty_one5 rfl (hr [] _ st 3 (by decide)) | exact r_load1 ty_one5 rfl (hr _ _ st 3 (by decide)) | exact r_load1 ty_one5 rfl (hr [_] _ st 3 (by decide)) | exact r_load1 ty_one5 rfl (hr [_, _] _ st 3 (by decide)) | exact r_load1 ty_one5 rfl (hr [_, _, _] _ st 3 (by decide))) rfl rfl rfl ?_
  -- R1.24 27 := frame.go:64 binOp
  refine WL.v (by first | exact r_eql rfl rfl (decide_eq_true (by omega)) | exact r_eql rfl rfl (decide_eq_false (by omega)) | exact r_eql rfl rfl rfl) rfl rfl rfl ?_
  -- R1.25 28 := frame.go:64 pick
  refine WL.v (by first | exact r_pickT (v := .bool _) rfl rfl | exact r_pickF (v := .bool _) rfl rfl) rfl rfl rfl ?_
  -- R1.26 29 := frame.go:64 move
  refine WL.v (by first | exact r_move (v := .bool _) rfl | exact r_move rfl) rfl rfl rfl ?_
  -- R1.27 30 := frame.go:64 move
  refine WL.v (by first | exact r_move (v := .pointer _) rfl | exact r_move rfl) rfl rfl rfl ?_
  -- R1.28 31 := frame.go:64 nilCheck
  refine WL.v (by exact r_nilCheck rfl) rfl rfl rfl ?_
  -- R1.29 32 := frame.go:64 fieldAddr
  refine WL.v (by exact r_field ty_fld36_4 rfl) rfl rfl rfl ?_
  -- R1.30 33 := frame.go:64 load
  refine WL.v (by first | exact r_load1 ty_one30 rfl (hr [] _ st 4 (by decide)) | exact r_load1 ty_one30 rfl (hr _ _ st 4 (by decide)) | exact r_load1 ty_one30 rfl (hr [_] _ st 4 (by decide)) | exact r_load1 ty_one30 rfl (hr [_, _] _ st 4 (by decide)) | exact r_load1 ty_one30 rfl (hr [_, _, _] _ st 4 (by decide))) rfl rfl rfl ?_
  -- R1.31 34 := frame.go:64 binOp
  refine WL.v (by first | exact r_eql rfl rfl (decide_eq_true (by omega)) | exact r_eql rfl rfl (decide_eq_false (by omega)) | exact r_eql rfl rfl rfl) rfl rfl rfl ?_
  -- R1.32 35 := frame.go:64 pick
  refine WL.v (by first | exact r_pickT (v := .bool _) rfl rfl | exact r_pickF (v := .bool _) rfl rfl) rfl rfl rfl ?_
  -- R1.33 36 := frame.go:64 move
  refine WL.v (by first | exact r_move (v := .bool _) rfl | exact r_move rfl) rfl rfl rfl ?_
  -- R1.34 37 := frame.go:64 move
  refine WL.v (by first | exact r_move (v := .pointer _) rfl | exact r_move rfl) rfl rfl rfl ?_
  -- R1.35 38 := frame.go:64 nilCheck
  refine WL.v (by exact r_nilCheck rfl) rfl rfl rfl ?_
  -- R1.36 39 := frame.go:64 fieldAddr
  refine WL.v (by exact r_field ty_fld36_5 rfl) rfl rfl rfl ?_
  -- R1.37 40 := frame.go:64 load
  refine WL.v (by first | exact r_load1 ty_one5 rfl (hr [] _ st 5 (by decide)) | exact r_load1 ty_one5 rfl (hr _ _ st 5 (by decide)) | exact r_load1 ty_one5 rfl (hr [_] _ st 5 (by decide)) | exact r_load1 ty_one5 rfl (hr [_, _] _ st 5 (by decide)) | exact r_load1 ty_one5 rfl (hr [_, _, _] _ st 5 (by decide))) rfl rfl rfl ?_
  -- R1.38 41 := frame.go:64 binOp
  refine WL.v (by first | exact r_eql rfl rfl (decide_eq_true (by omega)) | exact r_eql rfl rfl (decide_eq_false (by omega)) | exact r_eql rfl rfl rfl) rfl rfl rfl ?_
  -- R1.39 42 := frame.go:64 pick
  refine WL.v (by first | exact r_pickT (v := .bool _) rfl rfl | exact r_pickF (v := .bool _) rfl rfl) rfl rfl rfl ?_
  -- R1.40 43 := frame.go:64 move
  refine WL.v (by first | exact r_move (v := .bool _) rfl | exact r_move rfl) rfl rfl rfl ?_
  -- R1.41 44 := frame.go:64 move
  refine WL.v (by first | exact r_move (v := .pointer _) rfl | exact r_move rfl) rfl rfl rfl ?_
  -- R1.42 45 := frame.go:64 nilCheck
  refine WL.v (by exact r_nilCheck rfl) rfl rfl rfl ?_
  -- R1.43 46 := frame.go:64 fieldAddr
  refine WL.v (by exact r_field ty_fld36_6 rfl) rfl rfl rfl ?_
  -- R1.44 47 := frame.go:64 load
  refine WL.v (by first | exact r_load1 ty_one5 rfl (hr [] _ st 6 (by decide)) | exact r_load1 ty_one5 rfl (hr _ _ st 6 (by decide)) | exact r_load1 ty_one5 rfl (hr [_] _ st 6 (by decide)) | exact r_load1 ty_one5 rfl (hr [_, _] _ st 6 (by decide)) | exact r_load1 ty_one5 rfl (hr [_, _, _] _ st 6 (by decide))) rfl rfl rfl ?_
  -- R1.45 48 := frame.go:64 binOp
  refine WL.v (by first | exact r_eql rfl rfl (decide_eq_true (by omega)) | exact r_eql rfl rfl (decide_eq_false (by omega)) | exact r_eql rfl rfl rfl) rfl rfl rfl ?_
  -- R1.46 49 := frame.go:64 pick
  refine WL.v (by first | exact r_pickT (v := .bool _) rfl rfl | exact r_pickF (v := .bool _) rfl rfl) rfl rfl rfl ?_
  -- R1.47 50 := frame.go:64 move
  refine WL.v (by first | exact r_move (v := .bool _) rfl | exact r_move rfl) rfl rfl rfl ?_
  -- R1.48 51 := frame.go:64 move
  refine WL.v (by first | exact r_move (v := .pointer _) rfl | exact r_move rfl) rfl rfl rfl ?_
  -- R1.49 52 := frame.go:64 nilCheck
  refine WL.v (by exact r_nilCheck rfl) rfl rfl rfl ?_
  -- R1.50 53 := frame.go:64 fieldAddr
  refine WL.v (by exact r_field ty_fld36_7 rfl) rfl rfl rfl ?_
  -- R1.51 54 := frame.go:64 load
  refine WL.v (by first | exact r_load1 ty_one30 rfl (hr [] _ st 7 (by decide)) | exact r_load1 ty_one30 rfl (hr _ _ st 7 (by decide)) | exact r_load1 ty_one30 rfl (hr [_] _ st 7 (by decide)) | exact r_load1 ty_one30 rfl (hr [_, _] _ st 7 (by decide)) | exact r_load1 ty_one30 rfl (hr [_, _, _] _ st 7 (by decide))) rfl rfl rfl ?_
  -- R1.52 55 := frame.go:64 binOp
  refine WL.v (by first | exact r_eql rfl rfl (decide_eq_true (by omega)) | exact r_eql rfl rfl (decide_eq_false (by omega)) | exact r_eql rfl rfl rfl) rfl rfl rfl ?_
  -- R1.53 56 := frame.go:64 pick
  refine WL.v (by first | exact r_pickT (v := .bool _) rfl rfl | exact r_pickF (v := .bool _) rfl rfl) rfl rfl rfl ?_
  -- R1.54 57 := frame.go:64 move
  refine WL.v (by first | exact r_move (v := .bool _) rfl | exact r_move rfl) rfl rfl rfl ?_
  -- R1.55 58 := frame.go:64 move
  refine WL.v (by first | exact r_move (v := .pointer _) rfl | exact r_move rfl) rfl rfl rfl ?_
  -- R1.56 59 := frame.go:64 nilCheck
  refine WL.v (by exact r_nilCheck rfl) rfl rfl rfl ?_
  -- R1.57 60 := frame.go:64 fieldAddr
  refine WL.v (by exact r_field ty_fld36_8 rfl) rfl rfl rfl ?_
  -- R1.58 61 := frame.go:64 load
  refine WL.v (by first | exact r_loadL (vs := [_, _, _, _]) ty_agg34 rfl ⟨hr [] _ st 8 (by decide), hr [] _ st 9 (by decide), hr [] _ st 10 (by decide), hr [] _ st 11 (by decide), trivial⟩ | exact r_loadL (vs := [_, _, _, _]) ty_agg34 rfl ⟨hr _ _ st 8 (by decide), hr _ _ st 9 (by decide), hr _ _ st 10 (by decide), hr _ _ st 11 (by decide), trivial⟩ | exact r_loadL (vs := [_, _, _, _]) ty_agg34 rfl ⟨hr [_] _ st 8 (by decide), hr [_] _ st 9 (by decide), hr [_] _ st 10 (by decide), hr [_] _ st 11 (by decide), trivial⟩ | exact r_loadL (vs := [_, _, _, _]) ty_agg34 rfl ⟨hr [_, _] _ st 8 (by decide), hr [_, _] _ st 9 (by decide), hr [_, _] _ st 10 (by decide), hr [_, _] _ st 11 (by decide), trivial⟩ | exact r_loadL (vs := [_, _, _, _]) ty_agg34 rfl ⟨hr [_, _, _] _ st 8 (by decide), hr [_, _, _] _ st 9 (by decide), hr [_, _, _] _ st 10 (by decide), hr [_, _, _] _ st 11 (by decide), trivial⟩) rfl rfl rfl ?_
  -- R1.59 62 := frame.go:64 build
  refine WL.v (by exact r_build (ps := []) (vs := [_, _, _, _]) ty_pl34 ty_zero34 rfl (fill_nil)) rfl rfl rfl ?_
  -- R1.60 63 := frame.go:64 binOp
  refine WL.v (by first | exact r_ar4_eql (t := true) ty_ar34 ty_uint5 ty_eqg34 hx.r8 hx.r9 hx.r10 hx.r11 rfl rfl (decide_eq_true (by omega)) | exact r_ar4_eql (t := false) ty_ar34 ty_uint5 ty_eqg34 hx.r8 hx.r9 hx.r10 hx.r11 rfl rfl (decide_eq_false (by omega))) rfl rfl rfl ?_
  -- R1.61 64 := frame.go:64 pick
  refine WL.v (by first | exact r_pickT (v := .bool _) rfl rfl | exact r_pickF (v := .bool _) rfl rfl) rfl rfl rfl ?_
  -- R1.62 65 := frame.go:64 move
  refine WL.v (by first | exact r_move (v := .bool _) rfl | exact r_move rfl) rfl rfl rfl ?_
  -- R1.63 66 := frame.go:64 move
  refine WL.v (by first | exact r_move (v := .pointer _) rfl | exact r_move rfl) rfl rfl rfl ?_
  -- R1.64 67 := frame.go:64 nilCheck
  refine WL.v (by exact r_nilCheck rfl) rfl rfl rfl ?_
  -- R1.65 68 := frame.go:64 fieldAddr
  refine WL.v (by exact r_field ty_fld36_9 rfl) rfl rfl rfl ?_
  -- R1.66 69 := frame.go:64 load
  refine WL.v (by first | exact r_loadL (vs := [_, _, _, _]) ty_agg34 rfl ⟨hr [] _ st 12 (by decide), hr [] _ st 13 (by decide), hr [] _ st 14 (by decide), hr [] _ st 15 (by decide), trivial⟩ | exact r_loadL (vs := [_, _, _, _]) ty_agg34 rfl ⟨hr _ _ st 12 (by decide), hr _ _ st 13 (by decide), hr _ _ st 14 (by decide), hr _ _ st 15 (by decide), trivial⟩ | exact r_loadL (vs := [_, _, _, _]) ty_agg34 rfl ⟨hr [_] _ st 12 (by decide), hr [_] _ st 13 (by decide), hr [_] _ st 14 (by decide), hr [_] _ st 15 (by decide), trivial⟩ | exact r_loadL (vs := [_, _, _, _]) ty_agg34 rfl ⟨hr [_, _] _ st 12 (by decide), hr [_, _] _ st 13 (by decide), hr [_, _] _ st 14 (by decide), hr [_, _] _ st 15 (by decide), trivial⟩ | exact r_loadL (vs := [_, _, _, _]) ty_agg34 rfl ⟨hr [_, _, _] _ st 12 (by decide), hr [_, _, _] _ st 13 (by decide), hr [_, _, _] _ st 14 (by decide), hr [_, _, _] _ st 15 (by decide), trivial⟩) rfl rfl rfl ?_
  -- R1.67 70 := frame.go:64 build
  refine WL.v (by exact r_build (ps := []) (vs := [_, _, _, _]) ty_pl34 ty_zero34 rfl (fill_nil)) rfl rfl rfl ?_
  -- R1.68 71 := frame.go:64 binOp
  refine WL.v (by first | exact r_ar4_eql (t := true) ty_ar34 ty_uint5 ty_eqg34 hx.r12 hx.r13 hx.r14 hx.r15 rfl rfl (decide_eq_true (by omega)) | exact r_ar4_eql (t := false) ty_ar34 ty_uint5 ty_eqg34 hx.r12 hx.r13 hx.r14 hx.r15 rfl rfl (decide_eq_false (by omega))) rfl rfl rfl ?_
  -- R1.69 72 := frame.go:64 pick
  refine WL.v (by first | exact r_pickT (v := .bool _) rfl rfl | exact r_pickF (v := .bool _) rfl rfl) rfl rfl rfl ?_
  -- R1.70 73 := frame.go:64 move
  refine WL.v (by first | exact r_move (v := .bool _) rfl | exact r_move rfl) rfl rfl rfl ?_
  -- R1.71 74 := frame.go:64 move
  refine WL.v (by first | exact r_move (v := .pointer _) rfl | exact r_move rfl) rfl rfl rfl ?_
  -- R1.72 75 := frame.go:64 nilCheck
  refine WL.v (by exact r_nilCheck rfl) rfl rfl rfl ?_
  -- R1.73 76 := frame.go:64 fieldAddr
  refine WL.v (by exact r_field ty_fld36_10 rfl) rfl rfl rfl ?_
  -- R1.74 77 := frame.go:64 load
  refine WL.v (by first | exact r_load1 ty_one25 rfl (hr [] _ st 16 (by decide)) | exact r_load1 ty_one25 rfl (hr _ _ st 16 (by decide)) | exact r_load1 ty_one25 rfl (hr [_] _ st 16 (by decide)) | exact r_load1 ty_one25 rfl (hr [_, _] _ st 16 (by decide)) | exact r_load1 ty_one25 rfl (hr [_, _, _] _ st 16 (by decide))) rfl rfl rfl ?_
  -- R1.75 78 := frame.go:64 call
  refine WL.v (by exact r_len ty_usl25 rfl) rfl rfl rfl ?_
  -- R1.76 79 := frame.go:64 binOp
  refine WL.v (by first | exact r_eql rfl rfl (decide_eq_true (by omega)) | exact r_eql rfl rfl (decide_eq_false (by omega)) | exact r_eql rfl rfl rfl) rfl rfl rfl ?_
  -- R1.77 80 := frame.go:64 pick
  refine WL.v (by first | exact r_pickT (v := .bool _) rfl rfl | exact r_pickF (v := .bool _) rfl rfl) rfl rfl rfl ?_
  -- R1.78 2 := frame.go:64 assign
  refine WL.v (by first | exact r_assign (v := .bool _) rfl | exact r_assign rfl) rfl rfl rfl ?_
  refine WL.fin hK449 (fun _ _ h => h) ?_
  refine WC.ret1 Tryd.results70 (fun _ _ h => h) rfl ?_
  exact ⟨_, rfl, .inl ⟨rfl, c0, c1, c2, c3, c4, c5, c6, c7, c8, c9, c10⟩, st⟩

set_option maxHeartbeats 8000000 in
set_option maxRecDepth 20000 in
theorem zTcp_ok (b o : Nat) (x : Nat → Int) (s : SV) (hr : ∀ its w', S0 w0 (its ++ L) w' → CF w' b o 10 (nth (tcpL x s.v))) (st : S0 w0 L w) :
    Calls Tryd.prog 71 #[.pointer (some ⟨b, o, none⟩)] w (Ret fun v w' => BoolIs v (zTcp x s.bs.length) ∧ S0 w0 L w') := by
  by_cases c0 : x 0 = 0
  case neg =>
    refine enter [.pointer (some ⟨b, o, none⟩)] Tryd.func71 rfl Tryd.ntmps71 rfl ?_
    show WC _ _ _ 72 [] [(0, .pointer (some ⟨b, o, none⟩))] _
    refine WC.seq fun K450 hK450 => ?_
    -- region 0
    refine WC.region ?_
    -- R0.0 2 := frame.go:69 assign
    refine WL.v (by first | exact r_assign (v := .bool _) rfl | exact r_assign rfl) rfl rfl rfl ?_
    refine WL.fin hK450 (fun _ _ h => h) ?_
    refine WC.seq fun K451 hK451 => ?_
    -- region 1
    refine WC.region ?_
    -- R1.0 3 := frame.go:70 move
    refine WL.v (by first | exact r_move (v := .pointer _) rfl | exact r_move rfl) rfl rfl rfl ?_
    -- R1.1 4 := frame.go:70 nilCheck
    refine WL.v (by exact r_nilCheck rfl) rfl rfl rfl ?_
    -- R1.2 5 := frame.go:70 fieldAddr
    refine WL.v (by exact r_field ty_fld39_0 rfl) rfl rfl rfl ?_
    -- R1.3 6 := frame.go:70 load
    refine WL.v (by first | exact r_load1 ty_one30 rfl (hr [] _ st 0 (by decide)) | exact r_load1 ty_one30 rfl (hr _ _ st 0 (by decide)) | exact r_load1 ty_one30 rfl (hr [_] _ st 0 (by decide)) | exact r_load1 ty_one30 rfl (hr [_, _] _ st 0 (by decide)) | exact r_load1 ty_one30 rfl (hr [_, _, _] _ st 0 (by decide))) rfl rfl rfl ?_
    -- R1.4 7 := frame.go:70 binOp
    refine WL.v (by first | exact r_eql rfl rfl (decide_eq_true (by omega)) | exact r_eql rfl rfl (decide_eq_false (by omega)) | exact r_eql rfl rfl rfl) rfl rfl rfl ?_
    -- R1.5 8 := frame.go:70 move
    refine WL.v (by first | exact r_move (v := .bool _) rfl | exact r_move rfl) rfl rfl rfl ?_
    -- R1.6 9 := frame.go:70 move
    refine WL.no rfl rfl ?_
    -- R1.7 10 := frame.go:70 nilCheck
    refine WL.no rfl rfl ?_
    -- R1.8 11 := frame.go:70 fieldAddr
    refine WL.no rfl rfl ?_
    -- R1.9 12 := frame.go:70 load
    refine WL.no rfl rfl ?_
    -- R1.10 13 := frame.go:70 binOp
    refine WL.no rfl rfl ?_
    -- R1.11 14 := frame.go:70 pick
    refine WL.v (by first | exact r_pickT (v := .bool _) rfl rfl | exact r_pickF (v := .bool _) rfl rfl) rfl rfl rfl ?_
    -- R1.12 15 := frame.go:70 move
    refine WL.v (by first | exact r_move (v := .bool _) rfl | exact r_move rfl) rfl rfl rfl ?_
    -- R1.13 16 := frame.go:70 move
    refine WL.no rfl rfl ?_
    -- R1.14 17 := frame.go:70 nilCheck
    refine WL.no rfl rfl ?_
    -- R1.15 18 := frame.go:70 fieldAddr
    refine WL.no rfl rfl ?_
    -- R1.16 19 := frame.go:70 load
    refine WL.no rfl rfl ?_
    -- R1.17 20 := frame.go:70 binOp
    refine WL.no rfl rfl ?_
    -- R1.18 21 := frame.go:70 pick
    refine WL.v (by first | exact r_pickT (v := .bool _) rfl rfl | exact r_pickF (v := .bool _) rfl rfl) rfl rfl rfl ?_
    -- R1.19 22 := frame.go:70 move
    refine WL.v (by first | exact r_move (v := .bool _) rfl | exact r_move rfl) rfl rfl rfl ?_
    -- R1.20 23 := frame.go:70 move
    refine WL.no rfl rfl ?_
    -- R1.21 24 := frame.go:70 nilCheck
    refine WL.no rfl rfl ?_
    -- R1.22 25 := frame.go:70 fieldAddr
    refine WL.no rfl rfl ?_
    -- R1.23 26 := frame.go:70 load
    refine WL.no rfl rfl ?_
    -- R1.24 27 := frame.go:70 binOp
    refine WL.no rfl rfl ?_
    -- R1.25 28 := frame.go:70 pick
    refine WL.v (by first | exact r_pickT (v := .bool _) rfl rfl | exact r_pickF (v := .bool _) rfl rfl) rfl rfl rfl ?_
    -- R1.26 29 := frame.go:70 move
    refine WL.v (by first | exact r_move (v := .bool _) rfl | exact r_move rfl) rfl rfl rfl ?_
    -- R1.27 30 := frame.go:70 move
    refine WL.no rfl rfl ?_
    -- R1.28 31 := frame.go:70 nilCheck
    refine WL.no rfl rfl ?_
    -- R1.29 32 := frame.go:70 fieldAddr
    refine WL.no rfl rfl ?_
    -- R1.30 33 := frame.go:70 load
    refine WL.no rfl rfl ?_
    -- R1.31 34 := frame.go:70 binOp
    refine WL.no rfl rfl ?_
    -- R1.32 35 := frame.go:70 pick
    refine WL.v (by first | exact r_pickT (v := .bool _) rfl rfl | exact r_pickF (v := .bool _) rfl rfl) rfl rfl rfl ?_
    -- R1.33 36 := frame.go:70 move
    refine WL.v (by first | exact r_move (v := .bool _) rfl | exact r_move rfl) rfl rfl rfl ?_
    -- R1.34 37 := frame.go:70 move
    refine WL.no rfl rfl ?_
    -- R1.35 38 := frame.go:70 nilCheck
    refine WL.no rfl rfl ?_
    -- R1.36 39 := frame.go:70 fieldAddr
    refine WL.no rfl rfl ?_
    -- R1.37 40 := frame.go:70 load
    refine WL.no rfl rfl ?_
    -- R1.38 41 := frame.go:70 binOp
    refine WL.no rfl rfl ?_
    -- R1.39 42 := frame.go:70 pick
    refine WL.v (by first | exact r_pickT (v := .bool _) rfl rfl | exact r_pickF (v := .bool _) rfl rfl) rfl rfl rfl ?_
    -- R1.40 43 := frame.go:70 move
    refine WL.v (by first | exact r_move (v := .bool _) rfl | exact r_move rfl) rfl rfl rfl ?_
    -- R1.41 44 := frame.go:70 move
    refine WL.no rfl rfl ?_
    -- R1.42 45 := frame.go:70 nilCheck
    refine WL.no rfl rfl ?_
    -- R1.43 46 := frame.go:70 fieldAddr
    refine WL.no rfl rfl ?_
    -- R1.44 47 := frame.go:70 load
    refine WL.no rfl rfl ?_
    -- R1.45 48 := frame.go:70 binOp
    refine WL.no rfl rfl ?_
    -- R1.46 49 := frame.go:70 pick
    refine WL.v (by first | exact r_pickT (v := .bool _) rfl rfl | exact r_pickF (v := .bool _) rfl rfl) rfl rfl rfl ?_
    -- R1.47 50 := frame.go:70 move
    refine WL.v (by first | exact r_move (v := .bool _) rfl | exact r_move rfl) rfl rfl rfl ?_
    -- R1.48 51 := frame.go:70 move
    refine WL.no rfl rfl ?_
    -- R1.49 52 := frame.go:70 nilCheck
    refine WL.no rfl rfl ?_
    -- R1.50 53 := frame.go:70 fieldAddr
    refine WL.no rfl rfl ?_
    -- R1.51 54 := frame.go:70 load
    refine WL.no rfl rfl ?_
    -- R1.52 55 := frame.go:70 binOp
    refine WL.no rfl rfl ?_
    -- R1.53 56 := frame.go:70 pick
    refine WL.v (by first | exact r_pickT (v := .bool _) rfl rfl | exact r_pickF (v := .bool _) rfl rfl) rfl rfl rfl ?_
    -- R1.54 57 := frame.go:70 move
    refine WL.v (by first | exact r_move (v := .bool _) rfl | exact r_move rfl) rfl rfl rfl ?_
    -- R1.55 58 := frame.go:70 move
    refine WL.no rfl rfl ?_
    -- R1.56 59 := frame.go:70 nilCheck
    refine WL.no rfl rfl ?_
    -- R1.57 60 := frame.go:70 fieldAddr
    refine WL.no rfl rfl ?_
    -- R1.58 61 := frame.go:70 load
    refine WL.no rfl rfl ?_
    -- R1.59 62 := frame.go:70 binOp
    refine WL.no rfl rfl ?_
    -- R1.60 63 := frame.go:70 pick
    refine WL.v (by first | exact r_pickT (v := .bool _) rfl rfl | exact r_pickF (v := .bool _) rfl rfl) rfl rfl rfl ?_
    -- R1.61 64 := frame.go:70 move
    refine WL.v (by first | exact r_move (v := .bool _) rfl | exact r_move rfl) rfl rfl rfl ?_
    -- R1.62 65 := frame.go:70 move
    refine WL.no rfl rfl ?_
    -- R1.63 66 := frame.go:70 nilCheck
    refine WL.no rfl rfl ?_
    -- R1.64 67 := frame.go:70 fieldAddr
    refine WL.no rfl rfl ?_
    -- R1.65 68 := frame.go:70 load
    refine WL.no rfl rfl ?_
    -- R1.66 69 := frame.go:70 call
    refine WL.no rfl rfl ?_
    -- R1.67 70 := frame.go:70 binOp
    refine WL.no rfl rfl ?_
    -- R1.68 71 := frame.go:70 pick
    refine WL.v (by first | exact r_pickT (v := .bool _) rfl rfl | exact r_pickF (v := .bool _) rfl rfl) rfl rfl rfl ?_
    -- R1.69 2 := frame.go:70 assign
    refine WL.v (by first | exact r_assign (v := .bool _) rfl | exact r_assign rfl) rfl rfl rfl ?_
    refine WL.fin hK451 (fun _ _ h => h) ?_
    refine WC.ret1 Tryd.results71 (fun _ _ h => h) rfl ?_
    exact ⟨_, rfl, .inr ⟨rfl, fun h => by simp only [zTcp] at h; omega⟩, st⟩
  by_cases c1 : x 1 = 0
  case neg =>
    refine enter [.pointer (some ⟨b, o, none⟩)] Tryd.func71 rfl Tryd.ntmps71 rfl ?_
    show WC _ _ _ 72 [] [(0, .pointer (some ⟨b, o, none⟩))] _
    refine WC.seq fun K452 hK452 => ?_
    -- region 0
    refine WC.region ?_
    -- R0.0 2 := frame.go:69 assign
    refine WL.v (by first | exact r_assign (v := .bool _) rfl | exact r_assign rfl) rfl rfl rfl ?_
    refine WL.fin hK452 (fun _ _ h => h) ?_
    refine WC.seq fun K453 hK453 => ?_
    -- region 1
    refine WC.region ?_
    -- R1.0 3 := frame.go:70 move
    refine WL.v (by first | exact r_move (v := .pointer _) rfl | exact r_move rfl) rfl rfl rfl ?_
    -- R1.1 4 := frame.go:70 nilCheck
    refine WL.v (by exact r_nilCheck rfl) rfl rfl rfl ?_
    -- R1.2 5 := frame.go:70 fieldAddr
    refine WL.v (by exact r_field ty_fld39_0 rfl) rfl rfl rfl ?_
    -- R1.3 6 := frame.go:70 load
    refine WL.v (by first | exact r_load1 ty_one30 rfl (hr [] _ st 0 (by decide)) | exact r_load1 ty_one30 rfl (hr _ _ st 0 (by decide)) | exact r_load1 ty_one30 rfl (hr [_] _ st 0 (by decide)) | exact r_load1 ty_one30 rfl (hr [_, _] _ st 0 (by decide)) | exact r_load1 ty_one30 rfl (hr [_, _, _] _ st 0 (by decide))) rfl rfl rfl ?_
    -- R1.4 7 := frame.go:70 binOp
    refine WL.v (by first | exact r_eql rfl rfl (decide_eq_true (by omega)) | exact r_eql rfl rfl (decide_eq_false (by omega)) | exact r_eql rfl rfl rfl) rfl rfl rfl ?_
    -- R1.5 8 := frame.go:70 move
    refine WL.v (by first | exact r_move (v := .bool _) rfl | exact r_move rfl) rfl rfl rfl ?_
    -- R1.6 9 := frame.go:70 move
    refine WL.v (by first | exact r_move (v := .pointer _) rfl | exact r_move rfl) rfl rfl rfl ?_
    -- R1.7 10 := frame.go:70 nilCheck
    refine WL.v (by exact r_nilCheck rfl) rfl rfl rfl ?_
    -- R1.8 11 := frame.go:70 fieldAddr
    refine WL.v (by exact r_field ty_fld39_1 rfl) rfl rfl rfl ?_
    -- R1.9 12 := frame.go:70 load
    refine WL.v (by first | exact r_load1 ty_one30 rfl (hr [] _ st 1 (by decide)) | exact r_load1 ty_one30 rfl (hr _ _ st 1 (by decide)) | exact r_load1 ty_one30 rfl (hr [_] _ st 1 (by decide)) | exact r_load1 ty_one30 rfl (hr [_, _] _ st 1 (by decide)) | exact r_load1 ty_one30 rfl (hr [_, _, _] _ st 1 (by decide))) rfl rfl rfl ?_
    -- R1.10 13 := frame.go:70 binOp
    refine WL.v (by first | exact r_eql rfl rfl (decide_eq_true (by omega)) | exact r_eql rfl rfl (decide_eq_false (by omega)) | exact r_eql rfl rfl rfl) rfl rfl rfl ?_
    -- R1.11 14 := frame.go:70 pick
    refine WL.v (by first | exact r_pickT (v := .bool _) rfl rfl | exact r_pickF (v := .bool _) rfl rfl) rfl rfl rfl ?_
    -- R1.12 15 := frame.go:70 move
    refine WL.v (by first | exact r_move (v := .bool _) rfl | exact r_move rfl) rfl rfl rfl ?_
    -- R1.13 16 := frame.go:70 move
    refine WL.no rfl rfl ?_
    -- R1.14 17 := frame.go:70 nilCheck
    refine WL.no rfl rfl ?_
    -- R1.15 18 := frame.go:70 fieldAddr
    refine WL.no rfl rfl ?_
    -- R1.16 19 := frame.go:70 load
    refine WL.no rfl rfl ?_
    -- R1.17 20 := frame.go:70 binOp
    refine WL.no rfl rfl ?_
    -- R1.18 21 := frame.go:70 pick
    refine WL.v (by first | exact r_pickT (v := .bool _) rfl rfl | exact r_pickF (v := .bool _) rfl rfl) rfl rfl rfl ?_
    -- R1.19 22 := frame.go:70 move
    refine WL.v (by first | exact r_move (v := .bool _) rfl | exact r_move rfl) rfl rfl rfl ?_
    -- R1.20 23 := frame.go:70 move
    refine WL.no rfl rfl ?_
    -- R1.21 24 := frame.go:70 nilCheck
    refine WL.no rfl rfl ?_
    -- R1.22 25 := frame.go:70 fieldAddr
    refine WL.no rfl rfl ?_
    -- R1.23 26 := frame.go:70 load
    refine WL.no rfl rfl ?_
    -- R1.24 27 := frame.go:70 binOp
    refine WL.no rfl rfl ?_
    -- R1.25 28 := frame.go:70 pick
    refine WL.v (by first | exact r_pickT (v := .bool _) rfl rfl | exact r_pickF (v := .bool _) rfl rfl) rfl rfl rfl ?_
    -- R1.26 29 := frame.go:70 move
    refine WL.v (by first | exact r_move (v := .bool _) rfl | exact r_move rfl) rfl rfl rfl ?_
    -- R1.27 30 := frame.go:70 move
    refine WL.no rfl rfl ?_
    -- R1.28 31 := frame.go:70 nilCheck
    refine WL.no rfl rfl ?_
    -- R1.29 32 := frame.go:70 fieldAddr
    refine WL.no rfl rfl ?_
    -- R1.30 33 := frame.go:70 load
    refine WL.no rfl rfl ?_
    -- R1.31 34 := frame.go:70 binOp
    refine WL.no rfl rfl ?_
    -- R1.32 35 := frame.go:70 pick
    refine WL.v (by first | exact r_pickT (v := .bool _) rfl rfl | exact r_pickF (v := .bool _) rfl rfl) rfl rfl rfl ?_
    -- R1.33 36 := frame.go:70 move
    refine WL.v (by first | exact r_move (v := .bool _) rfl | exact r_move rfl) rfl rfl rfl ?_
    -- R1.34 37 := frame.go:70 move
    refine WL.no rfl rfl ?_
    -- R1.35 38 := frame.go:70 nilCheck
    refine WL.no rfl rfl ?_
    -- R1.36 39 := frame.go:70 fieldAddr
    refine WL.no rfl rfl ?_
    -- R1.37 40 := frame.go:70 load
    refine WL.no rfl rfl ?_
    -- R1.38 41 := frame.go:70 binOp
    refine WL.no rfl rfl ?_
    -- R1.39 42 := frame.go:70 pick
    refine WL.v (by first | exact r_pickT (v := .bool _) rfl rfl | exact r_pickF (v := .bool _) rfl rfl) rfl rfl rfl ?_
    -- R1.40 43 := frame.go:70 move
    refine WL.v (by first | exact r_move (v := .bool _) rfl | exact r_move rfl) rfl rfl rfl ?_
    -- R1.41 44 := frame.go:70 move
    refine WL.no rfl rfl ?_
    -- R1.42 45 := frame.go:70 nilCheck
    refine WL.no rfl rfl ?_
    -- R1.43 46 := frame.go:70 fieldAddr
    refine WL.no rfl rfl ?_
    -- R1.44 47 := frame.go:70 load
    refine WL.no rfl rfl ?_
    -- R1.45 48 := frame.go:70 binOp
    refine WL.no rfl rfl ?_
    -- R1.46 49 := frame.go:70 pick
    refine WL.v (by first | exact r_pickT (v := .bool _) rfl rfl | exact r_pickF (v := .bool _) rfl rfl) rfl rfl rfl ?_
    -- R1.47 50 := frame.go:70 move
    refine WL.v (by first | exact r_move (v := .bool _) rfl | exact r_move rfl) rfl rfl rfl ?_
    -- R1.48 51 := frame.go:70 move
    refine WL.no rfl rfl ?_
    -- R1.49 52 := frame.go:70 nilCheck
    refine WL.no rfl rfl ?_
    -- R1.50 53 := frame.go:70 fieldAddr
    refine WL.no rfl rfl ?_
    -- R1.51 54 := frame.go:70 load
    refine WL.no rfl rfl ?_
    -- R1.52 55 := frame.go:70 binOp
    refine WL.no rfl rfl ?_
    -- R1.53 56 := frame.go:70 pick
    refine WL.v (by first | exact r_pickT (v := .bool _) rfl rfl | exact r_pickF (v := .bool _) rfl rfl) rfl rfl rfl ?_
    -- R1.54 57 := frame.go:70 move
    refine WL.v (by first | exact r_move (v := .bool _) rfl | exact r_move rfl) rfl rfl rfl ?_
    -- R1.55 58 := frame.go:70 move
    refine WL.no rfl rfl ?_
    -- R1.56 59 := frame.go:70 nilCheck
    refine WL.no rfl rfl ?_
    -- R1.57 60 := frame.go:70 fieldAddr
    refine WL.no rfl rfl ?_
    -- R1.58 61 := frame.go:70 load
    refine WL.no rfl rfl ?_
    -- R1.59 62 := frame.go:70 binOp
    refine WL.no rfl rfl ?_
    -- R1.60 63 := frame.go:70 pick
    refine WL.v (by first | exact r_pickT (v := .bool _) rfl rfl | exact r_pickF (v := .bool _) rfl rfl) rfl rfl rfl ?_
    -- R1.61 64 := frame.go:70 move
    refine WL.v (by first | exact r_move (v := .bool _) rfl | exact r_move rfl) rfl rfl rfl ?_
    -- R1.62 65 := frame.go:70 move
    refine WL.no rfl rfl ?_
    -- R1.63 66 := frame.go:70 nilCheck
    refine WL.no rfl rfl ?_
    -- R1.64 67 := frame.go:70 fieldAddr
    refine WL.no rfl rfl ?_
    -- R1.65 68 := frame.go:70 load
    refine WL.no rfl rfl ?_
    -- R1.66 69 := frame.go:70 call
    refine WL.no rfl rfl ?_
    -- R1.67 70 := frame.go:70 binOp
    refine WL.no rfl rfl ?_
    -- R1.68 71 := frame.go:70 pick
    refine WL.v (by first | exact r_pickT (v := .bool _) rfl rfl | exact r_pickF (v := .bool _) rfl rfl) rfl rfl rfl ?_
    -- R1.69 2 := frame.go:70 assign
    refine WL.v (by first | exact r_assign (v := .bool _) rfl | exact r_assign rfl) rfl rfl rfl ?_
    refine WL.fin hK453 (fun _ _ h => h) ?_
    refine WC.ret1 Tryd.results71 (fun _ _ h => h) rfl ?_
    exact ⟨_, rfl, .inr ⟨rfl, fun h => by simp only [zTcp] at h; omega⟩, st⟩
  by_cases c2 : x 2 = 0
  case neg =>
    refine enter [.pointer (some ⟨b, o, none⟩)] Tryd.func71 rfl Tryd.ntmps71 rfl ?_
    show WC _ _ _ 72 [] [(0, .pointer (some ⟨b, o, none⟩))] _
    refine WC.seq fun K454 hK454 => ?_
    -- region 0
    refine WC.region ?_
    -- R0.0 2 := frame.go:69 assign
    refine WL.v (by first | exact r_assign (v := .bool _) rfl | exact r_assign rfl) rfl rfl rfl ?_
    refine WL.fin hK454 (fun _ _ h => h) ?_
    refine WC.seq fun K455 hK455 => ?_
    -- region 1
    refine WC.region ?_
    -- R1.0 3 := frame.go:70 move
    refine WL.v (by first | exact r_move (v := .pointer _) rfl | exact r_move rfl) rfl rfl rfl ?_
    -- R1.1 4 := frame.go:70 nilCheck
    refine WL.v (by exact r_nilCheck rfl) rfl rfl rfl ?_
    -- R1.2 5 := frame.go:70 fieldAddr
    refine WL.v (by exact r_field ty_fld39_0 rfl) rfl rfl rfl ?_
    -- R1.3 6 := frame.go:70 load
    refine WL.v (by first | exact r_load1 ty_one30 rfl (hr [] _ st 0 (by decide)) | exact r_load1 ty_one30 rfl (hr _ _ st 0 (by decide)) | exact r_load1 ty_one30 rfl (hr [_] _ st 0 (by decide)) | exact r_load1 ty_one30 rfl (hr [_, _] _ st 0 (by decide)) | exact r_load1 ty_one30 rfl (hr [_, _, _] _ st 0 (by decide))) rfl rfl rfl ?_
    -- R1.4 7 := frame.go:70 binOp
    refine WL.v (by first | exact r_eql rfl rfl (decide_eq_true (by omega)) | exact r_eql rfl rfl (decide_eq_false (by omega)) | exact r_eql rfl rfl rfl) rfl rfl rfl ?_
    -- R1.5 8 := frame.go:70 move
    refine WL.v (by first | exact r_move (v := .bool _) rfl | exact r_move rfl) rfl rfl rfl ?_
    -- R1.6 9 := frame.go:70 move
    refine WL.v (by first | exact r_move (v := .pointer _) rfl | exact r_move rfl) rfl rfl rfl ?_
    -- R1.7 10 := frame.go:70 nilCheck
    refine WL.v (by exact r_nilCheck rfl) rfl rfl rfl ?_
    -- R1.8 11 := frame.go:70 fieldAddr
    refine WL.v (by exact r_field ty_fld39_1 rfl) rfl rfl rfl ?_
    -- R1.9 12 := frame.go:70 load
    refine WL.v (by first | exact r_load1 ty_one30 rfl (hr [] _ st 1 (by decide)) | exact r_load1 ty_one30 rfl (hr _ _ st 1 (by decide)) | exact r_load1 ty_one30 rfl (hr [_] _ st 1 (by decide)) | exact r_load1 ty_one30 rfl (hr [_, _] _ st 1 (by decide)) | exact r_load1 ty_one30 rfl (hr [_, _, _] _ st 1 (by decide))) rfl rfl rfl ?_
    -- R1.10 13 := frame.go:70 binOp
    refine WL.v (by first | exact r_eql rfl rfl (decide_eq_true (by omega)) | exact r_eql rfl rfl (decide_eq_false (by omega)) | exact r_eql rfl rfl rfl) rfl rfl rfl ?_
    -- R1.11 14 := frame.go:70 pick
    refine WL.v (by first | exact r_pickT (v := .bool _) rfl rfl | exact r_pickF (v := .bool _) rfl rfl) rfl rfl rfl ?_
    -- R1.12 15 := frame.go:70 move
    refine WL.v (by first | exact r_move (v := .bool _) rfl | exact r_move rfl) rfl rfl rfl ?_
    -- R1.13 16 := frame.go:70 move
    refine WL.v (by first | exact r_move (v := .pointer _) rfl | exact r_move rfl) rfl rfl rfl ?_
    -- R1.14 17 := frame.go:70 nilCheck
    refine WL.v (by exact r_nilCheck rfl) rfl rfl rfl ?_
    -- R1.15 18 := frame.go:70 fieldAddr
    refine WL.v (by exact r_field ty_fld39_2 rfl) rfl rfl rfl ?_
    -- R1.16 19 := frame.go:70 load
    refine WL.v (by first | exact r_load1 ty_one37 rfl (hr [] _ st 2 (by decide)) | exact r_load1 ty_one37 rfl (hr _ _ st 2 (by decide)) | exact r_load1 ty_one37 rfl (hr [_] _ st 2 (by decide)) | exact r_load1 ty_one37 rfl (hr [_, _] _ st 2 (by decide)) | exact r_load1 ty_one37 rfl (hr [_, _, _] _ st 2 (by decide))) rfl rfl rfl ?_
    -- R1.17 20 := frame.go:70 binOp
    refine WL.v (by first | exact r_eql rfl rfl (decide_eq_true (by omega)) | exact r_eql rfl rfl (decide_eq_false (by omega)) | exact r_eql rfl rfl rfl) rfl rfl rfl ?_
    -- R1.18 21 := frame.go:70 pick
    refine WL.v (by first | exact r_pickT (v := .bool _) rfl rfl | exact r_pickF (v := .bool _) rfl rfl) rfl rfl rfl ?_
    -- R1.19 22 := frame.go:70 move
    refine WL.v (by first | exact r_move (v := .bool _) rfl | exact r_move rfl) rfl rfl rfl ?_
    -- R1.20 23 := frame.go:70 move
    refine WL.no rfl rfl ?_
    -- R1.21 24 := frame.go:70 nilCheck
    refine WL.no rfl rfl ?_
    -- R1.22 25 := frame.go:70 fieldAddr
    refine WL.no rfl rfl ?_
    -- R1.23 26 := frame.go:70 load
    refine WL.no rfl rfl ?_
    -- R1.24 27 := frame.go:70 binOp
    refine WL.no rfl rfl ?_
    -- R1.25 28 := frame.go:70 pick
    refine WL.v (by first | exact r_pickT (v := .bool _) rfl rfl | exact r_pickF (v := .bool _) rfl rfl) rfl rfl rfl ?_
    -- R1.26 29 := frame.go:70 move
    refine WL.v (by first | exact r_move (v := .bool _) rfl | exact r_move rfl) rfl rfl rfl ?_
    -- R1.27 30 := frame.go:70 move
    refine WL.no rfl rfl ?_
    -- R1.28 31 := frame.go:70 nilCheck
    refine WL.no rfl rfl ?_
    -- R1.29 32 := frame.go:70 fieldAddr
    refine WL.no rfl rfl ?_
    -- R1.30 33 := frame.go:70 load
    refine WL.no rfl rfl ?_
    -- R1.31 34 := frame.go:70 binOp
    refine WL.no rfl rfl ?_
    -- R1.32 35 := frame.go:70 pick
    refine WL.v (by first | exact r_pickT (v := .bool _) rfl rfl | exact r_pickF (v := .bool _) rfl rfl) rfl rfl rfl ?_
    -- R1.33 36 := frame.go:70 move
    refine WL.v (by first | exact r_move (v := .bool _) rfl | exact r_move rfl) rfl rfl rfl ?_
    -- R1.34 37 := frame.go:70 move
    refine WL.no rfl rfl ?_
    -- R1.35 38 := frame.go:70 nilCheck
    refine WL.no rfl rfl ?_
    -- R1.36 39 := frame.go:70 fieldAddr
    refine WL.no rfl rfl ?_
    -- R1.37 40 := frame.go:70 load
    refine WL.no rfl rfl ?_
    -- R1.38 41 := frame.go:70 binOp
    refine WL.no rfl rfl ?_
    -- R1.39 42 := frame.go:70 pick
    refine WL.v (by first | exact r_pickT (v := .bool _) rfl rfl | exact r_pickF (v := .bool _) rfl rfl) rfl rfl rfl ?_
    -- R1.40 43 := frame.go:70 move
    refine WL.v (by first | exact r_move (v := .bool _) rfl | exact r_move rfl) rfl rfl rfl ?_
    -- R1.41 44 := frame.go:70 move
    refine WL.no rfl rfl ?_
    -- R1.42 45 := frame.go:70 nilCheck
    refine WL.no rfl rfl ?_
    -- R1.43 46 := frame.go:70 fieldAddr
    refine WL.no rfl rfl ?_
    -- R1.44 47 := frame.go:70 load
    refine WL.no rfl rfl ?_
    -- R1.45 48 := frame.go:70 binOp
    refine WL.no rfl rfl ?_
    -- R1.46 49 := frame.go:70 pick
    refine WL.v (by first | exact r_pickT (v := .bool _) rfl rfl | exact r_pickF (v := .bool _) rfl rfl) rfl rfl rfl ?_
    -- R1.47 50 := frame.go:70 move
    refine WL.v (by first | exact r_move (v := .bool _) rfl | exact r_move rfl) rfl rfl rfl ?_
    -- R1.48 51 := frame.go:70 move
    refine WL.no rfl rfl ?_
    -- R1.49 52 := frame.go:70 nilCheck
    refine WL.no rfl rfl ?_
    -- R1.50 53 := frame.go:70 fieldAddr
    refine WL.no rfl rfl ?_
    -- R1.51 54 := frame.go:70 load
    refine WL.no rfl rfl ?_
    -- R1.52 55 := frame.go:70 binOp
    refine WL.no rfl rfl ?_
    -- R1.53 56 := frame.go:70 pick
    refine WL.v (by first | exact r_pickT (v := .bool _) rfl rfl | exact r_pickF (v := .bool _) rfl rfl) rfl rfl rfl ?_
    -- R1.54 57 := frame.go:70 move
    refine WL.v (by first | exact r_move (v := .bool _) rfl | exact r_move rfl) rfl rfl rfl ?_
    -- R1.55 58 := frame.go:70 move
    refine WL.no rfl rfl ?_
    -- R1.56 59 := frame.go:70 nilCheck
    refine WL.no rfl rfl ?_
    -- R1.57 60 := frame.go:70 fieldAddr
    refine WL.no rfl rfl ?_
    -- R1.58 61 := frame.go:70 load
    refine WL.no rfl rfl ?_
    -- R1.59 62 := frame.go:70 binOp
    refine WL.no rfl rfl ?_
    -- R1.60 63 := frame.go:70 pick
    refine WL.v (by first | exact r_pickT (v := .bool _) rfl rfl | exact r_pickF (v := .bool _) rfl rfl) rfl rfl rfl ?_
    -- R1.61 64 := frame.go:70 move
    refine WL.v (by first | exact r_move (v := .bool _) rfl | exact r_move rfl) rfl rfl rfl ?_
    -- R1.62 65 := frame.go:70 move
    refine WL.no rfl rfl ?_
    -- R1.63 66 := frame.go:70 nilCheck
    refine WL.no rfl rfl ?_
    -- R1.64 67 := frame.go:70 fieldAddr
    refine WL.no rfl rfl ?_
    -- R1.65 68 := frame.go:70 load
    refine WL.no rfl rfl ?_
    -- R1.66 69 := frame.go:70 call
    refine WL.no rfl rfl ?_
    -- R1.67 70 := frame.go:70 binOp
    refine WL.no rfl rfl ?_
    -- R1.68 71 := frame.go:70 pick
    refine WL.v (by first | exact r_pickT (v := .bool _) rfl rfl | exact r_pickF (v := .bool _) rfl rfl) rfl rfl rfl ?_
    -- R1.69 2 := frame.go:70 assign
    refine WL.v (by first | exact r_assign (v := .bool _) rfl | exact r_assign rfl) rfl rfl rfl ?_
    refine WL.fin hK455 (fun _ _ h => h) ?_
    refine WC.ret1 Tryd.results71 (fun _ _ h => h) rfl ?_
    exact ⟨_, rfl, .inr ⟨rfl, fun h => by simp only [zTcp] at h; omega⟩, st⟩
  by_cases c3 : x 3 = 0
  case neg =>
    refine enter [.pointer (some ⟨b, o, none⟩)] Tryd.func71 rfl Tryd.ntmps71 rfl ?_
    show WC _ _ _ 72 [] [(0, .pointer (some ⟨b, o, none⟩))] _
    refine WC.seq fun K456 hK456 => ?_
    -- region 0
    refine WC.region ?_
    -- R0.0 2 := frame.go:69 assign
    refine WL.v (by first | exact r_assign (v := .bool _) rfl | exact r_assign rfl) rfl rfl rfl ?_
    refine WL.fin hK456 (fun _ _ h => h) ?_
    refine WC.seq fun K457 hK457 => ?_
    -- region 1
    refine WC.region ?_
    -- R1.0 3 := frame.go:70 move
    refine WL.v (by first | exact r_move (v := .pointer _) rfl | exact r_move rfl) rfl rfl rfl ?_
    -- R1.1 4 := frame.go:70 nilCheck
    refine WL.v (by exact r_nilCheck rfl) rfl rfl rfl ?_
    -- R1.2 5 := frame.go:70 fieldAddr
    refine WL.v (by exact r_field ty_fld39_0 rfl) rfl rfl rfl ?_
    -- R1.3 6 := frame.go:70 load
    refine WL.v (by first | exact r_load1 ty_one30 rfl (hr [] _ st 0 (by decide)) | exact r_load1 ty_one30 rfl (hr _ _ st 0 (by decide)) | exact r_load1 ty_one30 rfl (hr [_] _ st 0 (by decide)) | exact r_load1 ty_one30 rfl (hr [_, _] _ st 0 (by decide)) | exact r_load1 ty_one30 rfl (hr [_, _, _] _ st 0 (by decide))) rfl rfl rfl ?_
    -- R1.4 7 := frame.go:70 binOp
    refine WL.v (by first | exact r_eql rfl rfl (decide_eq_true (by omega)) | exact r_eql rfl rfl (decide_eq_false (by omega)) | exact r_eql rfl rfl rfl) rfl rfl rfl ?_
    -- R1.5 8 := frame.go:70 move
    refine WL.v (by first | exact r_move (v := .bool _) rfl | exact r_move rfl) rfl rfl rfl ?_
    -- R1.6 9 := frame.go:70 move
    refine WL.v (by first | exact r_move (v := .pointer _) rfl | exact r_move rfl) rfl rfl rfl ?_
    -- R1.7 10 := frame.go:70 nilCheck
    refine WL.v (by exact r_nilCheck rfl) rfl rfl rfl ?_
    -- R1.8 11 := frame.go:70 fieldAddr
    refine WL.v (by exact r_field ty_fld39_1 rfl) rfl rfl rfl ?_
    -- R1.9 12 := frame.go:70 load
    refine WL.v (by first | exact r_load1 ty_one30 rfl (hr [] _ st 1 (by decide)) | exact r_load1 ty_one30 rfl (hr _ _ st 1 (by decide)) | exact r_load1 ty_one30 rfl (hr [_] _ st 1 (by decide)) | exact r_load1 ty_one30 rfl (hr [_, _] _ st 1 (by decide)) | exact r_load1 ty_one30 rfl (hr [_, _, _] _ st 1 (by decide))) rfl rfl rfl ?_
    -- R1.10 13 := frame.go:70 binOp
    refine WL.v (by first | exact r_eql rfl rfl (decide_eq_true (by omega)) | exact r_eql rfl rfl (decide_eq_false (by omega)) | exact r_eql rfl rfl rfl) rfl rfl rfl ?_
    -- R1.11 14 := frame.go:70 pick
    refine WL.v (by first | exact r_pickT (v := .bool _) rfl rfl | exact r_pickF (v := .bool _) rfl rfl) rfl rfl rfl ?_
    -- R1.12 15 := frame.go:70 move
    refine WL.v (by first | exact r_move (v := .bool _) rfl | exact r_move rfl) rfl rfl rfl ?_
    -- R1.13 16 := frame.go:70 move
    refine WL.v (by first | exact r_move (v := .pointer _) rfl | exact r_move rfl) rfl rfl rfl ?_
    -- R1.14 17 := frame.go:70 nilCheck
    refine WL.v (by exact r_nilCheck rfl) rfl rfl rfl ?_
    -- R1.15 18 := frame.go:70 fieldAddr
    refine WL.v (by exact r_field ty_fld39_2 rfl) rfl rfl rfl ?_
    -- R1.16 19 := frame.go:70 load
    refine WL.v (by first | exact r_load1 ty_one37 rfl (hr [] _ st 2 (by decide)) | exact r_load1 ty_one37 rfl (hr _ _ st 2 (by decide)) | exact r_load1 ty_one37 rfl (hr [_] _ st 2 (by decide)) | exact r_load1 ty_one37 rfl (hr [_, _] _ st 2 (by decide)) | exact r_load1 ty_one37 rfl (hr [_, _, _] _ st 2 (by decide))) rfl rfl rfl ?_
    -- R1.17 20 := frame.go:70 binOp
    refine WL.v (by first | exact r_eql rfl rfl (decide_eq_true (by omega)) | exact r_eql rfl rfl (decide_eq_false (by omega)) | exact r_eql rfl rfl rfl) rfl rfl rfl ?_
    -- R1.18 21 := frame.go:70 pick
    refine WL.v (by first | exact r_pickT (v := .bool _) rfl rfl | exact r_pickF (v := .bool _) rfl rfl) rfl rfl rfl ?_
    -- R1.19 22 := frame.go:70 move
    refine WL.v (by first | exact r_move (v := .bool _) rfl | exact r_move rfl) rfl rfl rfl ?_
    -- R1.20 23 := frame.go:70 move
    refine WL.v (by first | exact r_move (v := .pointer _) rfl | exact r_move rfl) rfl rfl rfl ?_
    -- R1.21 24 := frame.go:70 nilCheck
    refine WL.v (by exact r_nilCheck rfl) rfl rfl rfl ?_
    -- R1.22 25 := frame.go:70 fieldAddr
    refine WL.v (by exact r_field ty_fld39_3 rfl) rfl rfl rfl ?_
    -- R1.23 26 := frame.go:70 load
    refine WL.v (by first | exact r_load1 ty_one37 rfl (hr [] _ st 3 (by decide)) | exact r_load1 ty_one37 rfl (hr _ _ st 3 (by decide)) | exact r_load1 ty_one37 rfl (hr [_] _ st 3 (by decide)) | exact r_load1 ty_one37 rfl (hr [_, _] _ st 3 (by decide)) | exact r_load1 ty_one37 rfl (hr [_, _, _] _ st 3 (by decide))) rfl rfl rfl ?_
    -- R1.24 27 := frame.go:70 binOp
    refine WL.v (by first | exact r_eql rfl rfl (decide_eq_true (by omega)) | exact r_eql rfl rfl (decide_eq_false (by omega)) | exact r_eql rfl rfl rfl) rfl rfl rfl ?_
    -- R1.25 28 := frame.go:70 pick
    refine WL.v (by first | exact r_pickT (v := .bool _) rfl rfl | exact r_pickF (v := .bool _) rfl rfl) rfl rfl rfl ?_
    -- R1.26 29 := frame.go:70 move
    refine WL.v (by first | exact r_move (v := .bool _) rfl | exact r_move rfl) rfl rfl rfl ?_
    -- R1.27 30 := frame.go:70 move
    refine WL.no rfl rfl ?_
    -- R1.28 31 := frame.go:70 nilCheck
    refine WL.no rfl rfl ?_
    -- R1.29 32 := frame.go:70 fieldAddr
    refine WL.no rfl rfl ?_
    -- R1.30 33 := frame.go:70 load
    refine WL.no rfl rfl ?_
    -- R1.31 34 := frame.go:70 binOp
    refine WL.no rfl rfl ?_
    -- R1.32 35 := frame.go:70 pick
    refine WL.v (by first | exact r_pickT (v := .bool _) rfl rfl | exact r_pickF (v := .bool _) rfl rfl) rfl rfl rfl ?_
    -- R1.33 36 := frame.go:70 move
    refine WL.v (by first | exact r_move (v := .bool _) rfl | exact r_move rfl) rfl rfl rfl ?_
    -- R1.34 37 := frame.go:70 move
    refine WL.no rfl rfl ?_
    -- R1.35 38 := frame.go:70 nilCheck
    refine WL.no rfl rfl ?_
    -- R1.36 39 := frame.go:70 fieldAddr
    refine WL.no rfl rfl ?_
    -- R1.37 40 := frame.go:70 load
    refine WL.no rfl rfl ?_
    -- R1.38 41 := frame.go:70 binOp
    refine WL.no rfl rfl ?_
    -- R1.39 42 := frame.go:70 pick
    refine WL.v (by first | exact r_pickT (v := .bool _) rfl rfl | exact r_pickF (v := .bool _) rfl rfl) rfl rfl rfl ?_
    -- R1.40 43 := frame.go:70 move
    refine WL.v (by first | exact r_move (v := .bool _) rfl | exact r_move rfl) rfl rfl rfl ?_
    -- R1.41 44 := frame.go:70 move
    refine WL.no rfl rfl ?_
    -- R1.42 45 := frame.go:70 nilCheck
    refine WL.no rfl rfl ?_
    -- R1.43 46 := frame.go:70 fieldAddr
    refine WL.no rfl rfl ?_
    -- R1.44 47 := frame.go:70 load
    refine WL.no rfl rfl ?_
    -- R1.45 48 := frame.go:70 binOp
    refine WL.no rfl rfl ?_
    -- R1.46 49 := frame.go:70 pick
    refine WL.v (by first | exact r_pickT (v := .bool _) rfl rfl | exact r_pickF (v := .bool _) rfl rfl) rfl rfl rfl ?_
    -- R1.47 50 := frame.go:70 move
    refine WL.v (by first | exact r_move (v := .bool _) rfl | exact r_move rfl) rfl rfl rfl ?_
    -- R1.48 51 := frame.go:70 move
    refine WL.no rfl rfl ?_
    -- R1.49 52 := frame.go:70 nilCheck
    refine WL.no rfl rfl ?_
    -- R1.50 53 := frame.go:70 fieldAddr
    refine WL.no rfl rfl ?_
    -- R1.51 54 := frame.go:70 load
    refine WL.no rfl rfl ?_
    -- R1.52 55 := frame.go:70 binOp
    refine WL.no rfl rfl ?_
    -- R1.53 56 := frame.go:70 pick
    refine WL.v (by first | exact r_pickT (v := .bool _) rfl rfl | exact r_pickF (v := .bool _) rfl rfl) rfl rfl rfl ?_
    -- R1.54 57 := frame.go:70 move
    refine WL.v (by first | exact r_move (v := .bool _) rfl | exact r_move rfl) rfl rfl rfl ?_
    -- R1.55 58 := frame.go:70 move
    refine WL.no rfl rfl ?_
    -- R1.56 59 := frame.go:70 nilCheck
    refine WL.no rfl rfl ?_
    -- R1.57 60 := frame.go:70 fieldAddr
    refine WL.no rfl rfl ?_
    -- R1.58 61 := frame.go:70 load
    refine WL.no rfl rfl ?_
    -- R1.59 62 := frame.go:70 binOp
    refine WL.no rfl rfl ?_
    -- R1.60 63 := frame.go:70 pick
    refine WL.v (by first | exact r_pickT (v := .bool _) rfl rfl | exact r_pickF (v := .bool _) rfl rfl) rfl rfl rfl ?_
    -- R1.61 64 := frame.go:70 move
    refine WL.v (by first | exact r_move (v := .bool _) rfl | exact r_move rfl) rfl rfl rfl ?_
    -- R1.62 65 := frame.go:70 move
    refine WL.no rfl rfl ?_
    -- R1.63 66 := frame.go:70 nilCheck
    refine WL.no rfl rfl ?_
    -- R1.64 67 := frame.go:70 fieldAddr
    refine WL.no rfl rfl ?_
    -- R1.65 68 := frame.go:70 load
    refine WL.no rfl rfl ?_
    -- R1.66 69 := frame.go:70 call
    refine WL.no rfl rfl ?_
    -- R1.67 70 := frame.go:70 binOp
    refine WL.no rfl rfl ?_
    -- R1.68 71 := frame.go:70 pick
    refine WL.v (by first | exact r_pickT (v := .bool _) rfl rfl | exact r_pickF (v := .bool _) rfl rfl) rfl rfl rfl ?_
    -- R1.69 2 := frame.go:70 assign
    refine WL.v (by first | exact r_assign (v := .bool _) rfl | exact r_assign rfl) rfl rfl rfl ?_
    refine WL.fin hK457 (fun _ _ h => h) ?_
    refine WC.ret1 Tryd.results71 (fun _ _ h => h) rfl ?_
    exact ⟨_, rfl, .inr ⟨rfl, fun h => by simp only [zTcp] at h; omega⟩, st⟩
  by_cases c4 : x 4 = 0
  case neg =>
    refine enter [.pointer (some ⟨b, o, none⟩)] Tryd.func71 rfl Tryd.ntmps71 rfl ?_
    show WC _ _ _ 72 [] [(0, .pointer (some ⟨b, o, none⟩))] _
    refine WC.seq fun K458 hK458 => ?_
    -- region 0
    refine WC.region ?_
    -- R0.0 2 := frame.go:69 assign
    refine WL.v (by first | exact r_assign (v := .bool _) rfl | exact r_assign rfl) rfl rfl rfl ?_
    refine WL.fin hK458 (fun _ _ h => h) ?_
    refine WC.seq fun K459 hK459 => ?_
    -- region 1
    refine WC.region ?_
    -- R1.0 3 := frame.go:70 move
    refine WL.v (by first | exact r_move (v := .pointer _) rfl | exact r_move rfl) rfl rfl rfl ?_
    -- R1.1 4 := frame.go:70 nilCheck
    refine WL.v (by exact r_nilCheck rfl) rfl rfl rfl ?_
    -- R1.2 5 := frame.go:70 fieldAddr
    refine WL.v (by exact r_field ty_fld39_0 rfl) rfl rfl rfl ?_
    -- R1.3 6 := frame.go:70 load
    refine WL.v (by first | exact r_load1 ty_one30 rfl (hr [] _ st 0 (by decide)) | exact r_load1 ty_one30 rfl (hr _ _ st 0 (by decide)) | exact r_load1 ty_one30 rfl (hr [_] _ st 0 (by decide)) | exact r_load1 ty_one30 rfl (hr [_, _] _ st 0 (by decide)) | exact r_load1 ty_one30 rfl (hr [_, _, _] _ st 0 (by decide))) rfl rfl rfl ?_
    -- R1.4 7 := frame.go:70 binOp
    refine WL.v (by first | exact r_eql rfl rfl (decide_eq_true (by omega)) | exact r_eql rfl rfl (decide_eq_false (by omega)) | exact r_eql rfl rfl rfl) rfl rfl rfl ?_
    -- R1.5 8 := frame.go:70 move
    refine WL.v (by first | exact r_move (v := .bool _) rfl | exact r_move rfl) rfl rfl rfl ?_
    -- R1.6 9 := frame.go:70 move
    refine WL.v (by first | exact r_move (v := .pointer _) rfl | exact r_move rfl) rfl rfl rfl ?_
    -- R1.7 10 := frame.go:70 nilCheck
    refine WL.v (by exact r_nilCheck rfl) rfl rfl rfl ?_
    -- R1.8 11 := frame.go:70 fieldAddr
    refine WL.v (by exact r_field ty_fld39_1 rfl) rfl rfl rfl ?_
    -- R1.9 12 := frame.go:70 load
    refine WL.v (by first | exact r_load1 ty_one30 rfl (hr [] _ st 1 (by decide)) | exact r_load1 ty_one30 rfl (hr _ _ st 1 (by decide)) | exact r_load1 ty_one30 rfl (hr [_] _ st 1 (by decide)) | exact r_load1 ty_one30 rfl (hr [_, _] _ st 1 (by decide)) | exact r_load1 ty_one30 rfl (hr [_, _, _] _ st 1 (by decide))) rfl rfl rfl ?_
    -- R1.10 13 := frame.go:70 binOp
    refine WL.v (by first | exact r_eql rfl rfl (decide_eq_true (by omega)) | exact r_eql rfl rfl (decide_eq_false (by omega)) | exact r_eql rfl rfl rfl) rfl rfl rfl ?_
    -- R1.11 14 := frame.go:70 pick
    refine WL.v (by first | exact r_pickT (v := .bool _) rfl rfl | exact r_pickF (v := .bool _) rfl rfl) rfl rfl rfl ?_
    -- R1.12 15 := frame.go:70 move
    refine WL.v (by first | exact r_move (v := .bool _) rfl | exact r_move rfl) rfl rfl rfl ?_
    -- R1.13 16 := frame.go:70 move
    refine WL.v (by first | exact r_move (v := .pointer _) rfl | exact r_move rfl) rfl rfl rfl ?_
    -- R1.14 17 := frame.go:70 nilCheck
    refine WL.v (by exact r_nilCheck rfl) rfl rfl rfl ?_
    -- R1.15 18 := frame.go:70 fieldAddr
    refine WL.v (by exact r_field ty_fld39_2 rfl) rfl rfl rfl ?_
    -- R1.16 19 := frame.go:70 load
    refine WL.v (by first | exact r_load1 ty_one37 rfl (hr [] _ st 2 (by decide)) | exact r_load1 ty_one37 rfl (hr _ _ st 2 (by decide)) | exact r_load1 ty_one37 rfl (hr [_] _ st 2 (by decide)) | exact r_load1 ty_one37 rfl (hr [_, _] _ st 2 (by decide)) | exact r_load1 ty_one37 rfl (hr [_, _, _] _ st 2 (by decide))) rfl rfl rfl ?_
    -- R1.17 20 := frame.go:70 binOp
    refine WL.v (by first | exact r_eql rfl rfl (decide_eq_true (by omega)) | exact r_eql rfl rfl (decide_eq_false (by omega)) | exact r_eql rfl rfl rfl) rfl rfl rfl ?_
    -- R1.18 21 := frame.go:70 pick
    refine WL.v (by first | exact r_pickT (v := .bool _) rfl rfl | exact r_pickF (v := .bool _) rfl rfl) rfl rfl rfl ?_
    -- R1.19 22 := frame.go:70 move
    refine WL.v (by first | exact r_move (v := .bool _) rfl | exact r_move rfl) rfl rfl rfl ?_
    -- R1.20 23 := frame.go:70 move
    refine WL.v (by first | exact r_move (v := .pointer _) rfl | exact r_move rfl) rfl rfl rfl ?_
    -- R1.21 24 := frame.go:70 nilCheck
    refine WL.v (by exact r_nilCheck rfl) rfl rfl rfl ?_
    -- R1.22 25 := frame.go:70 fieldAddr
    refine WL.v (by exact r_field ty_fld39_3 rfl) rfl rfl rfl ?_
    -- R1.23 26 := frame.go:70 load
    refine WL.v (by first | exact r_load1 ty_one37 rfl (hr [] _ st 3 (by decide)) | exact r_load1 ty_one37 rfl (hr _ _ st 3 (by decide)) | exact r_load1 ty_one37 rfl (hr [_] _ st 3 (by decide)) | exact r_load1 ty_one37 rfl (hr [_, _] _ st 3 (by decide)) | exact r_load1 ty_one37 rfl (hr [_, _, _] _ st 3 (by decide))) rfl rfl rfl ?_
    -- R1.24 27 := frame.go:70 binOp
    refine WL.v (by first | exact r_eql rfl rfl (decide_eq_true (by omega)) | exact r_eql rfl rfl (decide_eq_false (by omega)) | exact r_eql rfl rfl rfl) rfl rfl rfl ?_
    -- R1.25 28 := frame.go:70 pick
    refine WL.v (by first | exact r_pickT (v := .bool _) rfl rfl | exact r_pickF (v := .bool _) rfl rfl) rfl rfl rfl ?_
    -- R1.26 29 := frame.go:70 move
    refine WL.v (by first | exact r_move (v := .bool _) rfl | exact r_move rfl) rfl rfl rfl ?_
    -- R1.27 30 := frame.go:70 move
    refine WL.v (by first | exact r_move (v := .pointer _) rfl | exact r_move rfl) rfl rfl rfl ?_
    -- R1.28 31 := frame.go:70 nilCheck
    refine WL.v (by exact r_nilCheck rfl) rfl rfl rfl ?_
    -- R1.29 32 := frame.go:70 fieldAddr
    refine WL.v (by exact r_field ty_fld39_4 rfl) rfl rfl rfl ?_
    -- R1.30 33 := frame.go:70 load
    refine WL.v (by first | exact r_load1 ty_one5 rfl (hr [] _ st 4 (by decide)) | exact r_load1 ty_one5 rfl (hr _ _ st 4 (by decide)) | exact r_load1 ty_one5 rfl (hr [_] _ st 4 (by decide)) | exact r_load1 ty_one5 rfl (hr [_, _] _ st 4 (by decide)) | exact r_load1 ty_one5 rfl (hr [_, _, _] _ st 4 (by decide))) rfl rfl rfl ?_
    -- R1.31 34 := frame.go:70 binOp
    refine WL.v (by first | exact r_eql rfl rfl (decide_eq_true (by omega)) | exact r_eql rfl rfl (decide_eq_false (by omega)) | exact r_eql rfl rfl rfl) rfl rfl rfl ?_
    -- R1.32 35 := frame.go:70 pick
    refine WL.v (by first | exact r_pickT (v := .bool _) rfl rfl | exact r_pickF (v := .bool _) rfl rfl) rfl rfl rfl ?_
    -- R1.33 36 := frame.go:70 move
    refine WL.v (by first | exact r_move (v := .bool _) rfl | exact r_move rfl) rfl rfl rfl ?_
    -- R1.34 37 := frame.go:70 move
    refine WL.no rfl rfl ?_
    -- R1.35 38 := frame.go:70 nilCheck
    refine WL.no rfl rfl ?_
    -- R1.36 39 := frame.go:70 fieldAddr
    refine WL.no rfl rfl ?_
    -- R1.37 40 := frame.go:70 load
    refine WL.no rfl rfl ?_
    -- R1.38 41 := frame.go:70 binOp
    refine WL.no rfl rfl ?_
    -- R1.39 42 := frame.go:70 pick
    refine WL.v (by first | exact r_pickT (v := .bool _) rfl rfl | exact r_pickF (v := .bool _) rfl rfl) rfl rfl rfl ?_
    -- R1.40 43 := frame.go:70 move
    refine WL.v (by first | exact r_move (v := .bool _) rfl | exact r_move rfl) rfl rfl rfl ?_
    -- R1.41 44 := frame.go:70 move
    refine WL.no rfl rfl ?_
    -- R1.42 45 := frame.go:70 nilCheck
    refine WL.no rfl rfl ?_
    -- R1.43 46 := frame.go:70 fieldAddr
    refine WL.no rfl rfl ?_
    -- R1.44 47 := frame.go:70 load
    refine WL.no rfl rfl ?_
    -- R1.45 48 := frame.go:70 binOp
    refine WL.no rfl rfl ?_
    -- R1.46 49 := frame.go:70 pick
    refine WL.v (by first | exact r_pickT (v := .bool _) rfl rfl | exact r_pickF (v := .bool _) rfl rfl) rfl rfl rfl ?_
    -- R1.47 50 := frame.go:70 move
    refine WL.v (by first | exact r_move (v := .bool _) rfl | exact r_move rfl) rfl rfl rfl ?_
    -- R1.48 51 := frame.go:70 move
    refine WL.no rfl rfl ?_
    -- R1.49 52 := frame.go:70 nilCheck
    refine WL.no rfl rfl ?_
    -- R1.50 53 := frame.go:70 fieldAddr
    refine WL.no rfl rfl ?_
    -- R1.51 54 := frame.go:70 load
    refine WL.no rfl rfl ?_
    -- R1.52 55 := frame.go:70 binOp
    refine WL.no rfl rfl ?_
    -- R1.53 56 := frame.go:70 pick
    refine WL.v (by first | exact r_pickT (v := .bool _) rfl rfl | exact r_pickF (v := .bool _) rfl rfl) rfl rfl rfl ?_
    -- R1.54 57 := frame.go:70 move
    refine WL.v (by first | exact r_move (v := .bool _) rfl | exact r_move rfl) rfl rfl rfl ?_
    -- R1.55 58 := frame.go:70 move
    refine WL.no rfl rfl ?_
    -- R1.56 59 := frame.go:70 nilCheck
    refine WL.no rfl rfl ?_
    -- R1.57 60 := frame.go:70 fieldAddr
    refine WL.no rfl rfl ?_
    -- R1.58 61 := frame.go:70 load
    refine WL.no rfl rfl ?_
    -- R1.59 62 := frame.go:70 binOp
    refine WL.no rfl rfl ?_
    -- R1.60 63 := frame.go:70 pick
    refine WL.v (by first | exact r_pickT (v := .bool _) rfl rfl | exact r_pickF (v := .bool _) rfl rfl) rfl rfl rfl ?_
    -- R1.61 64 := frame.go:70 move
    refine WL.v (by first | exact r_move (v := .bool _) rfl | exact r_move rfl) rfl rfl rfl ?_
    -- R1.62 65 := frame.go:70 move
    refine WL.no rfl rfl ?_
    -- R1.63 66 := frame.go:70 nilCheck
    refine WL.no rfl rfl ?_
    -- R1.64 67 := frame.go:70 fieldAddr
    refine WL.no rfl rfl ?_
    -- R1.65 68 := frame.go:70 load
    refine WL.no rfl rfl ?_
    -- R1.66 69 := frame.go:70 call
    refine WL.no rfl rfl ?_
    -- R1.67 70 := frame.go:70 binOp
    refine WL.no rfl rfl ?_
    -- R1.68 71 := frame.go:70 pick
    refine WL.v (by first | exact r_pickT (v := .bool _) rfl rfl | exact r_pickF (v := .bool _) rfl rfl) rfl rfl rfl ?_
    -- R1.69 2 := frame.go:70 assign
    refine WL.v (by first | exact r_assign (v := .bool _) rfl | exact r_assign rfl) rfl rfl rfl ?_
    refine WL.fin hK459 (fun _ _ h => h) ?_
    refine WC.ret1 Tryd.results71 (fun _ _ h => h) rfl ?_
    exact ⟨_, rfl, .inr ⟨rfl, fun h => by simp only [zTcp] at h; omega⟩, st⟩
  by_cases c5 : x 5 = 0
  case neg =>
    refine enter [.pointer (some ⟨b, o, none⟩)] Tryd.func71 rfl Tryd.ntmps71 rfl ?_
    show WC _ _ _ 72 [] [(0, .pointer (some ⟨b, o, none⟩))] _
    refine WC.seq fun K460 hK460 => ?_
    -- region 0
    refine WC.region ?_
    -- R0.0 2 := frame.go:69 assign
    refine WL.v (by first | exact r_assign (v := .bool _) rfl | exact r_assign rfl) rfl rfl rfl ?_
    refine WL.fin hK460 (fun _ _ h => h) ?_
    refine WC.seq fun K461 hK461 => ?_
    -- region 1
    refine WC.region ?_
    -- R1.0 3 := frame.go:70 move
    refine WL.v (by first | exact r_move (v := .pointer _) rfl | exact r_move rfl) rfl rfl rfl ?_
    -- R1.1 4 := frame.go:70 nilCheck
    refine WL.v (by exact r_nilCheck rfl) rfl rfl rfl ?_
    -- R1.2 5 := frame.go:70 fieldAddr
    refine WL.v (by exact r_field ty_fld39_0 rfl) rfl rfl rfl ?_
    -- R1.3 6 := frame.go:70 load
    refine WL.v (by first | exact r_load1 ty_one30 rfl (hr [] _ st 0 (by decide)) | exact r_load1 ty_one30 rfl (hr _ _ st 0 (by decide)) | exact r_load1 ty_one30 rfl (hr [_] _ st 0 (by decide)) | exact r_load1 ty_one30 rfl (hr [_, _] _ st 0 (by decide)) | exact r_load1 ty_one30 rfl (hr [_, _, _] _ st 0 (by decide))) rfl rfl rfl ?_
    -- R1.4 7 := frame.go:70 binOp
    refine WL.v (by first | exact r_eql rfl rfl (decide_eq_true (by omega)) | exact r_eql rfl rfl (decide_eq_false (by omega)) | exact r_eql rfl rfl rfl) rfl rfl rfl ?_
    -- R1.5 8 := frame.go:70 move
    refine WL.v (by first | exact r_move (v := .bool _) rfl | exact r_move rfl) rfl rfl rfl ?_
    -- R1.6 9 := frame.go:70 move
    refine WL.v (by first | exact r_move (v := .pointer _) rfl | exact r_move rfl) rfl rfl rfl ?_
    -- R1.7 10 := frame.go:70 nilCheck
    refine WL.v (by exact r_nilCheck rfl) rfl rfl rfl ?_
    -- R1.8 11 := frame.go:70 fieldAddr
    refine WL.v (by exact r_field ty_fld39_1 rfl) rfl rfl rfl ?_
    -- R1.9 12 := frame.go:70 load
    refine WL.v (by first | exact r_load1 ty_one30 rfl (hr [] _ st 1 (by decide)) | exact r_load1 ty_one30 rfl (hr _ _ st 1 (by decide)) | exact r_load1 ty_one30 rfl (hr [_] _ st 1 (by decide)) | exact r_load1 ty_one30 rfl (hr [_, _] _ st 1 (by decide)) | exact r_load1 ty_one30 rfl (hr [_, _, _] _ st 1 (by decide))) rfl rfl rfl ?_
    -- R1.10 13 := frame.go:70 binOp
    refine WL.v (by first | exact r_eql rfl rfl (decide_eq_true (by omega)) | exact r_eql rfl rfl (decide_eq_false (by omega)) | exact r_eql rfl rfl rfl) rfl rfl rfl ?_
    -- R1.11 14 := frame.go:70 pick
    refine WL.v (by first | exact r_pickT (v := .bool _) rfl rfl | exact r_pickF (v := .bool _) rfl rfl) rfl rfl rfl ?_
    -- R1.12 15 := frame.go:70 move
    refine WL.v (by first | exact r_move (v := .bool _) rfl | exact r_move rfl) rfl rfl rfl ?_
    -- R1.13 16 := frame.go:70 move
    refine WL.v (by first | exact r_move (v := .pointer _) rfl | exact r_move rfl) rfl rfl rfl ?_
    -- R1.14 17 := frame.go:70 nilCheck
    refine WL.v (by exact r_nilCheck rfl) rfl rfl rfl ?_
    -- R1.15 18 := frame.go:70 fieldAddr
    refine WL.v (by exact r_field ty_fld39_2 rfl) rfl rfl rfl ?_
    -- R1.16 19 := frame.go:70 load
    refine WL.v (by first | exact r_load1 ty_one37 rfl (hr [] _ st 2 (by decide)) | exact r_load1 ty_one37 rfl (hr _ _ st 2 (by decide)) | exact r_load1 ty_one37 rfl (hr [_] _ st 2 (by decide)) | exact r_load1 ty_one37 rfl (hr [_, _] _ st 2 (by decide)) | exact r_load1 ty_one37 rfl (hr [_, _, _] _ st 2 (by decide))) rfl rfl rfl ?_
    -- R1.17 20 := frame.go:70 binOp
    refine WL.v (by first | exact r_eql rfl rfl (decide_eq_true (by omega)) | exact r_eql rfl rfl (decide_eq_false (by omega)) | exact r_eql rfl rfl rfl) rfl rfl rfl ?_
    -- R1.18 21 := frame.go:70 pick
    refine WL.v (by first | exact r_pickT (v := .bool _) rfl rfl | exact r_pickF (v := .bool _) rfl rfl) rfl rfl rfl ?_
    -- R1.19 22 := frame.go:70 move
    refine WL.v (by first | exact r_move (v := .bool _) rfl | exact r_move rfl) rfl rfl rfl ?_
    -- R1.20 23 := frame.go:70 move
    refine WL.v (by first | exact r_move (v := .pointer _) rfl | exact r_move rfl) rfl rfl rfl ?_
    -- R1.21 24 := frame.go:70 nilCheck
    refine WL.v (by exact r_nilCheck rfl) rfl rfl rfl ?_
    -- R1.22 25 := frame.go:70 fieldAddr
    refine WL.v (by exact r_field ty_fld39_3 rfl) rfl rfl rfl ?_
    -- R1.23 26 := frame.go:70 load
    refine WL.v (by first | exact r_load1 ty_one37 rfl (hr [] _ st 3 (by decide)) | exact r_load1 ty_one37 rfl (hr _ _ st 3 (by decide)) | exact r_load1 ty_one37 rfl (hr [_] _ st 3 (by decide)) | exact r_load1 ty_one37 rfl (hr [_, _] _ st 3 (by decide)) | exact r_load1 ty_one37 rfl (hr [_, _, _] _ st 3 (by decide))) rfl rfl rfl ?_
    -- R1.24 27 := frame.go:70 binOp
    refine WL.v (by first | exact r_eql rfl rfl (decide_eq_true (by omega)) | exact r_eql rfl rfl (decide_eq_false (by omega)) | exact r_eql rfl rfl rfl) rfl rfl rfl ?_
    -- R1.25 28 := frame.go:70 pick
    refine WL.v (by first | exact r_pickT (v := .bool _) rfl rfl | exact r_pickF (v := .bool _) rfl rfl) rfl rfl rfl ?_
    -- R1.26 29 := frame.go:70 move
    refine WL.v (by first | exact r_move (v := .bool _) rfl | exact r_move rfl) rfl rfl rfl ?_
    -- R1.27 30 := frame.go:70 move
    refine WL.v (by first | exact r_move (v := .pointer _) rfl | exact r_move rfl) rfl rfl rfl ?_
    -- R1.28 31 := frame.go:70 nilCheck
    refine WL.v (by exact r_nilCheck rfl) rfl rfl rfl ?_
    -- R1.29 32 := frame.go:70 fieldAddr
    refine WL.v (by exact r_field ty_fld39_4 rfl) rfl rfl rfl ?_
    -- R1.30 33 := frame.go:70 load
    refine WL.v (by first | exact r_load1 ty_one5 rfl (hr [] _ st 4 (by decide)) | exact r_load1 ty_one5 rfl (hr _ _ st 4 (by decide)) | exact r_load1 ty_one5 rfl (hr [_] _ st 4 (by decide)) | exact r_load1 ty_one5 rfl (hr [_, _] _ st 4 (by decide)) | exact r_load1 ty_one5 rfl (hr [_, _, _] _ st 4 (by decide))) rfl rfl rfl ?_
    -- R1.31 34 := frame.go:70 binOp
    refine WL.v (by first | exact r_eql rfl rfl (decide_eq_true (by omega)) | exact r_eql rfl rfl (decide_eq_false (by omega)) | exact r_eql rfl rfl rfl) rfl rfl rfl ?_
    -- R1.32 35 := frame.go:70 pick
    refine WL.v (by first | exact r_pickT (v := .bool _) rfl rfl | exact r_pickF (v := .bool _) rfl rfl) rfl rfl rfl ?_
    -- R1.33 36 := frame.go:70 move
    refine WL.v (by first | exact r_move (v := .bool _) rfl | exact r_move rfl) rfl rfl rfl ?_
    -- R1.34 37 := frame.go:70 move
    refine WL.v (by first | exact r_move (v := .pointer _) rfl | exact r_move rfl) rfl rfl rfl ?_
    -- R1.35 38 := frame.go:70 nilCheck
    refine WL.v (by exact r_nilCheck rfl) rfl rfl rfl ?_
    -- R1.36 39 := frame.go:70 fieldAddr
    refine WL.v (by exact r_field ty_fld39_5 rfl) rfl rfl rfl ?_
    -- R1.37 40 := frame.go:70 load
    refine WL.v (by first | exact r_load1 ty_one5 rfl (hr [] _ st 5 (by decide)) | exact r_load1 ty_one5 rfl (hr _ _ st 5 (by decide)) | exact r_load1 ty_one5 rfl (hr [_] _ st 5 (by decide)) | exact r_load1 ty_one5 rfl (hr [_, _] _ st 5 (by decide)) | exact r_load1 ty_one5 rfl (hr [_, _, _] _ st 5 (by decide))) rfl rfl rfl ?_
    -- R1.38 41 := frame.go:70 binOp
    refine WL.v (by first | exact r_eql rfl rfl (decide_eq_true (by omega)) | exact r_eql rfl rfl (decide_eq_false (by omega)) | exact r_eql rfl rfl rfl) rfl rfl rfl ?_
    -- R1.39 42 := frame.go:70 pick
    refine WL.v (by first | exact r_pickT (v := .bool _) rfl rfl | exact r_pickF (v := .bool _) rfl rfl) rfl rfl rfl ?_
    -- R1.40 43 := frame.go:70 move
    refine WL.v (by first | exact r_move (v := .bool _) rfl | exact r_move rfl) rfl rfl rfl ?_
    -- R1.41 44 := frame.go:70 move
    refine WL.no rfl rfl ?_
    -- R1.42 45 := frame.go:70 nilCheck
    refine WL.no rfl rfl ?_
    -- R1.43 46 := frame.go:70 fieldAddr
    refine WL.no rfl rfl ?_
    -- R1.44 47 := frame.go:70 load
    refine WL.no rfl rfl ?_
    -- R1.45 48 := frame.go:70 binOp
    refine WL.no rfl rfl ?_
    -- R1.46 49 := frame.go:70 pick
    refine WL.v (by first | exact r_pickT (v := .bool _) rfl rfl | exact r_pickF (v := .bool _) rfl rfl) rfl rfl rfl ?_
    -- R1.47 50 := frame.go:70 move
    refine WL.v (by first | exact r_move (v := .bool _) rfl | exact r_move rfl) rfl rfl rfl ?_
    -- R1.48 51 := frame.go:70 move
    refine WL.no rfl rfl ?_
    -- R1.49 52 := frame.go:70 nilCheck
    refine WL.no rfl rfl ?_
    -- R1.50 53 := frame.go:70 fieldAddr
    refine WL.no rfl rfl ?_
    -- R1.51 54 := frame.go:70 load
    refine WL.no rfl rfl ?_
    -- R1.52 55 := frame.go:70 binOp
    refine WL.no rfl rfl ?_
    -- R1.53 56 := frame.go:70 pick
    refine WL.v (by first | exact r_pickT (v := .bool _) rfl rfl | exact r_pickF (v := .bool _) rfl rfl) rfl rfl rfl ?_
    -- R1.54 57 := frame.go:70 move
    refine WL.v (by first | exact r_move (v := .bool _) rfl | exact r_move rfl) rfl rfl rfl ?_
    -- R1.55 58 := frame.go:70 move
    refine WL.no rfl rfl ?_
    -- R1.56 59 := frame.go:70 nilCheck
    refine WL.no rfl rfl ?_
    -- R1.57 60 := frame.go:70 fieldAddr
    refine WL.no rfl rfl ?_
    -- R1.58 61 := frame.go:70 load
    refine WL.no rfl rfl ?_
    -- R1.59 62 := frame.go:70 binOp
    refine WL.no rfl rfl ?_
    -- R1.60 63 := frame.go:70 pick
    refine WL.v (by first | exact r_pickT (v := .bool _) rfl rfl | exact r_pickF (v := .bool _) rfl rfl) rfl rfl rfl ?_
    -- R1.61 64 := frame.go:70 move
    refine WL.v (by first | exact r_move (v := .bool _) rfl | exact r_move rfl) rfl rfl rfl ?_
    -- R1.62 65 := frame.go:70 move
    refine WL.no rfl rfl ?_
    -- R1.63 66 := frame.go:70 nilCheck
    refine WL.no rfl rfl ?_
    -- R1.64 67 := frame.go:70 fieldAddr
    refine WL.no rfl rfl ?_
    -- R1.65 68 := frame.go:70 load
    refine WL.no rfl rfl ?_
    -- R1.66 69 := frame.go:70 call
    refine WL.no rfl rfl ?_
    -- R1.67 70 := frame.go:70 binOp
    refine WL.no rfl rfl ?_
    -- R1.68 71 := frame.go:70 pick
    refine WL.v (by first | exact r_pickT (v := .bool _) rfl rfl | exact r_pickF (v := .bool _) rfl rfl) rfl rfl rfl ?_
    -- R1.69 2 := frame.go:70 assign
    refine WL.v (by first | exact r_assign (v := .bool _) rfl | exact r_assign rfl) rfl rfl rfl ?_
    refine WL.fin hK461 (fun _ _ h => h) ?_
    refine WC.ret1 Tryd.results71 (fun _ _ h => h) rfl ?_
    exact ⟨_, rfl, .inr ⟨rfl, fun h => by simp only [zTcp] at h; omega⟩, st⟩
  by_cases c6 : x 6 = 0
  case neg =>
    refine enter [.pointer (some ⟨b, o, none⟩)] Tryd.func71 rfl Tryd.ntmps71 rfl ?_
    show WC _ _ _ 72 [] [(0, .pointer (some ⟨b, o, none⟩))] _
    refine WC.seq fun K462 hK462 => ?_
    -- region 0
    refine WC.region ?_
    -- R0.0 2 := frame.go:69 assign
    refine WL.v (by first | exact r_assign (v := .bool _) rfl | exact r_assign rfl) rfl rfl rfl ?_
    refine WL.fin hK462 (fun _ _ h => h) ?_
    refine WC.seq fun K463 hK463 => ?_
    -- region 1
    refine WC.region ?_
    -- R1.0 3 := frame.go:70 move
    refine WL.v (by first | exact r_move (v := .pointer _) rfl | exact r_move rfl) rfl rfl rfl ?_
    -- R1.1 4 := frame.go:70 nilCheck
    refine WL.v (by exact r_nilCheck rfl) rfl rfl rfl ?_
    -- R1.2 5 := frame.go:70 fieldAddr
    refine WL.v (by exact r_field ty_fld39_0 rfl) rfl rfl rfl ?_
    -- R1.3 6 := frame.go:70 load
    refine WL.v (by first | exact r_load1 ty_one30 rfl (hr [] _ st 0 (by decide)) | exact r_load1 ty_one30 rfl (hr _ _ st 0 (by decide)) | exact r_load1 ty_one30 rfl (hr [_] _ st 0 (by decide)) | exact r_load1 ty_one30 rfl (hr [_, _] _ st 0 (by decide)) | exact r_load1 ty_one30 rfl (hr [_, _, _] _ st 0 (by decide))) rfl rfl rfl ?_
    -- R1.4 7 := frame.go:70 binOp
    refine WL.v (by first | exact r_eql rfl rfl (decide_eq_true (by omega)) | exact r_eql rfl rfl (decide_eq_false (by omega)) | exact r_eql rfl rfl rfl) rfl rfl rfl ?_
    -- R1.5 8 := frame.go:70 move
    refine WL.v (by first | exact r_move (v := .bool _) rfl | exact r_move rfl) rfl rfl rfl ?_
    -- R1.6 9 := frame.go:70 move
    refine WL.v (by first | exact r_move (v := .pointer _) rfl | exact r_move rfl) rfl rfl rfl ?_
    -- R1.7 10 := frame.go:70 nilCheck
    refine WL.v (by exact r_nilCheck rfl) rfl rfl rfl ?_
    -- R1.8 11 := frame.go:70 fieldAddr
    refine WL.v (by exact r_field ty_fld39_1 rfl) rfl rfl rfl ?_
    -- R1.9 12 := frame.go:70 load
    refine WL.v (by first | exact r_load1 ty_one30 rfl (hr [] _ st 1 (by decide)) | exact r_load1 ty_one30 rfl (hr _ _ st 1 (by decide)) | exact r_load1 ty_one30 rfl (hr [_] _ st 1 (by decide)) | exact r_load1 ty_one30 rfl (hr [_, _] _ st 1 (by decide)) | exact r_load1 ty_one30 rfl (hr [_, _, _] _ st 1 (by decide))) rfl rfl rfl ?_
    -- R1.10 13 := frame.go:70 binOp
    refine WL.v (by first | exact r_eql rfl rfl (decide_eq_true (by omega)) | exact r_eql rfl rfl (decide_eq_false (by omega)) | exact r_eql rfl rfl rfl) rfl rfl rfl ?_
    -- R1.11 14 := frame.go:70 pick
    refine WL.v (by first | exact r_pickT (v := .bool _) rfl rfl | exact r_pickF (v := .bool _) rfl rfl) rfl rfl rfl ?_
    -- R1.12 15 := frame.go:70 move
    refine WL.v (by first | exact r_move (v := .bool _) rfl | exact r_move rfl) rfl rfl rfl ?_
    -- R1.13 16 := frame.go:70 move
    refine WL.v (by first | exact r_move (v := .pointer _) rfl | exact r_move rfl) rfl rfl rfl ?_
    -- R1.14 17 := frame.go:70 nilCheck
    refine WL.v (by exact r_nilCheck rfl) rfl rfl rfl ?_
    -- R1.15 18 := frame.go:70 fieldAddr
    refine WL.v (by exact r_field ty_fld39_2 rfl) rfl rfl rfl ?_
    -- R1.16 19 := frame.go:70 load
    refine WL.v (by first | exact r_load1 ty_one37 rfl (hr [] _ st 2 (by decide)) | exact r_load1 ty_one37 rfl (hr _ _ st 2 (by decide)) | exact r_load1 ty_one37 rfl (hr [_] _ st 2 (by decide)) | exact r_load1 ty_one37 rfl (hr [_, _] _ st 2 (by decide)) | exact r_load1 ty_one37 rfl (hr [_, _, _] _ st 2 (by decide))) rfl rfl rfl ?_
    -- R1.17 20 := frame.go:70 binOp
    refine WL.v (by first | exact r_eql rfl rfl (decide_eq_true (by omega)) | exact r_eql rfl rfl (decide_eq_false (by omega)) | exact r_eql rfl rfl rfl) rfl rfl rfl ?_
    -- R1.18 21 := frame.go:70 pick
    refine WL.v (by first | exact r_pickT (v := .bool _) rfl rfl | exact r_pickF (v := .bool _) rfl rfl) rfl rfl rfl ?_
    -- R1.19 22 := frame.go:70 move
    refine WL.v (by first | exact r_move (v := .bool _) rfl | exact r_move rfl) rfl rfl rfl ?_
    -- R1.20 23 := frame.go:70 move
    refine WL.v (by first | exact r_move (v := .pointer _) rfl | exact r_move rfl) rfl rfl rfl ?_
    -- R1.21 24 := frame.go:70 nilCheck
    refine WL.v (by exact r_nilCheck rfl) rfl rfl rfl ?_
    -- R1.22 25 := frame.go:70 fieldAddr
    refine WL.v (by exact r_field ty_fld39_3 rfl) rfl rfl rfl ?_
    -- R1.23 26 := frame.go:70 load
    refine WL.v (by first | exact r_load1 ty_one37 rfl (hr [] _ st 3 (by decide)) | exact r_load1 ty_one37 rfl (hr _ _ st 3 (by decide)) | exact r_load1 ty_one37 rfl (hr [_] _ st 3 (by decide)) | exact r_load1 ty_one37 rfl (hr [_, _] _ st 3 (by decide)) | exact r_load1 ty_one37 rfl (hr [_, _, _] _ st 3 (by decide))) rfl rfl rfl ?_
    -- R1.24 27 := frame.go:70 binOp
    refine WL.v (by first | exact r_eql rfl rfl (decide_eq_true (by omega)) | exact r_eql rfl rfl (decide_eq_false (by omega)) | exact r_eql rfl rfl rfl) rfl rfl rfl ?_
    -- R1.25 28 := frame.go:70 pick
    refine WL.v (by first | exact r_pickT (v := .bool _) rfl rfl | exact r_pickF (v := .bool _) rfl rfl) rfl rfl rfl ?_
    -- R1.26 29 := frame.go:70 move
    refine WL.v (by first | exact r_move (v := .bool _) rfl | exact r_move rfl) rfl rfl rfl ?_
    -- R1.27 30 := frame.go:70 move
    refine WL.v (by first | exact r_move (v := .pointer _) rfl | exact r_move rfl) rfl rfl rfl ?_
    -- R1.28 31 := frame.go:70 nilCheck
    refine WL.v (by exact r_nilCheck rfl) rfl rfl rfl ?_
    -- R1.29 32 := frame.go:70 fieldAddr
    refine WL.v (by exact r_field ty_fld39_4 rfl) rfl rfl rfl ?_
    -- R1.30 33 := frame.go:70 load
    refine WL.v (by first | exact r_load1 ty_one5 rfl (hr [] _ st 4 (by decide)) | exact r_load1 ty_one5 rfl (hr _ _ st 4 (by decide)) | exact r_load1 ty_one5 rfl (hr [_] _ st 4 (by decide)) | exact r_load1 ty_one5 rfl (hr [_, _] _ st 4 (by decide)) | exact r_load1 ty_one5 rfl (hr [_, _, _] _ st 4 (by decide))) rfl rfl rfl ?_
    -- R1.31 34 := frame.go:70 binOp
    refine WL.v (by first | exact r_eql rfl rfl (decide_eq_true (by omega)) | exact r_eql rfl rfl (decide_eq_false (by omega)) | exact r_eql rfl rfl rfl) rfl rfl rfl ?_
    -- R1.32 35 := frame.go:70 pick
    refine WL.v (by first | exact r_pickT (v := .bool _) rfl rfl | exact r_pickF (v := .bool _) rfl rfl) rfl rfl rfl ?_
    -- R1.33 36 := frame.go:70 move
    refine WL.v (by first | exact r_move (v := .bool _) rfl | exact r_move rfl) rfl rfl rfl ?_
    -- R1.34 37 := frame.go:70 move
    refine WL.v (by first | exact r_move (v := .pointer _) rfl | exact r_move rfl) rfl rfl rfl ?_
    -- R1.35 38 := frame.go:70 nilCheck
    refine WL.v (by exact r_nilCheck rfl) rfl rfl rfl ?_
    -- R1.36 39 := frame.go:70 fieldAddr
    refine WL.v (by exact r_field ty_fld39_5 rfl) rfl rfl rfl ?_
    -- R1.37 40 := frame.go:70 load
    refine WL.v (by first | exact r_load1 ty_one5 rfl (hr [] _ st 5 (by decide)) | exact r_load1 ty_one5 rfl (hr _ _ st 5 (by decide)) | exact r_load1 ty_one5 rfl (hr [_] _ st 5 (by decide)) | exact r_load1 ty_one5 rfl (hr [_, _] _ st 5 (by decide)) | exact r_load1 ty_one5 rfl (hr [_, _, _] _ st 5 (by decide))) rfl rfl rfl ?_
    -- R1.38 41 := frame.go:70 binOp
    refine WL.v (by first | exact r_eql rfl rfl (decide_eq_true (by omega)) | exact r_eql rfl rfl (decide_eq_false (by omega)) | exact r_eql rfl rfl rfl) rfl rfl rfl ?_
    -- R1.39 42 := frame.go:70 pick
    refine WL.v (by first | exact r_pickT (v := .bool _) rfl rfl | exact r_pickF (v := .bool _) rfl rfl) rfl rfl rfl ?_
    -- R1.40 43 := frame.go:70 move
    refine WL.v (by first | exact r_move (v := .bool _) rfl | exact r_move rfl) rfl rfl rfl ?_
    -- R1.41 44 := frame.go:70 move
    refine WL.v (by first | exact r_move (v := .pointer _) rfl | exact r_move rfl) rfl rfl rfl ?_
    -- R1.42 45 := frame.go:70 nilCheck
    refine WL.v (by exact r_nilCheck rfl) rfl rfl rfl ?_
    -- R1.43 46 := frame.go:70 fieldAddr
    refine WL.v (by exact r_field ty_fld39_6 rfl) rfl rfl rfl ?_
    -- R1.44 47 := frame.go:70 load
    refine WL.v (by first | exact r_load1 ty_one30 rfl (hr [] _ st 6 (by decide)) | exact r_load1 ty_one30 rfl (hr _ _ st 6 (by decide)) | exact r_load1 ty_one30 rfl (hr [_] _ st 6 (by decide)) | exact r_load1 ty_one30 rfl (hr [_, _] _ st 6 (by decide)) | exact r_load1 ty_one30 rfl (hr [_, _, _] _ st 6 (by decide))) rfl rfl rfl ?_
    -- R1.45 48 := frame.go:70 binOp
    refine WL.v (by first | exact r_eql rfl rfl (decide_eq_true (by omega)) | exact r_eql rfl rfl (decide_eq_false (by omega)) | exact r_eql rfl rfl rfl) rfl rfl rfl ?_
    -- R1.46 49 := frame.go:70 pick
    refine WL.v (by first | exact r_pickT (v := .bool _) rfl rfl | exact r_pickF (v := .bool _) rfl rfl) rfl rfl rfl ?_
    -- R1.47 50 := frame.go:70 move
    refine WL.v (by first | exact r_move (v := .bool _) rfl | exact r_move rfl) rfl rfl rfl ?_
    -- R1.48 51 := frame.go:70 move
    refine WL.no rfl rfl ?_
    -- R1.49 52 := frame.go:70 nilCheck
    refine WL.no rfl rfl ?_
    -- R1.50 53 := frame.go:70 fieldAddr
    refine WL.no rfl rfl ?_
    -- R1.51 54 := frame.go:70 load
    refine WL.no rfl rfl ?_
    -- R1.52 55 := frame.go:70 binOp
    refine WL.no rfl rfl ?_
    -- R1.53 56 := frame.go:70 pick
    refine WL.v (by first | exact r_pickT (v := .bool _) rfl rfl | exact r_pickF (v := .bool _) rfl rfl) rfl rfl rfl ?_
    -- R1.54 57 := frame.go:70 move
    refine WL.v (by first | exact r_move (v := .bool _) rfl | exact r_move rfl) rfl rfl rfl ?_
    -- R1.55 58 := frame.go:70 move
    refine WL.no rfl rfl ?_
    -- R1.56 59 := frame.go:70 nilCheck
    refine WL.no rfl rfl ?_
    -- R1.57 60 := frame.go:70 fieldAddr
    refine WL.no rfl rfl ?_
    -- R1.58 61 := frame.go:70 load
    refine WL.no rfl rfl ?_
    -- R1.59 62 := frame.go:70 binOp
    refine WL.no rfl rfl ?_
    -- R1.60 63 := frame.go:70 pick
    refine WL.v (by first | exact r_pickT (v := .bool _) rfl rfl | exact r_pickF (v := .bool _) rfl rfl) rfl rfl rfl ?_
    -- R1.61 64 := frame.go:70 move
    refine WL.v (by first | exact r_move (v := .bool _) rfl | exact r_move rfl) rfl rfl rfl ?_
    -- R1.62 65 := frame.go:70 move
    refine WL.no rfl rfl ?_
    -- R1.63 66 := frame.go:70 nilCheck
    refine WL.no rfl rfl ?_
    -- R1.64 67 := frame.go:70 fieldAddr
    refine WL.no rfl rfl ?_
    -- R1.65 68 := frame.go:70 load
    refine WL.no rfl rfl ?_
    -- R1.66 69 := frame.go:70 call
    refine WL.no rfl rfl ?_
    -- R1.67 70 := frame.go:70 binOp
    refine WL.no rfl rfl ?_
    -- R1.68 71 := frame.go:70 pick
    refine WL.v (by first | exact r_pickT (v := .bool _) rfl rfl | exact r_pickF (v := .bool _) rfl rfl) rfl rfl rfl ?_
    -- R1.69 2 := frame.go:70 assign
    refine WL.v (by first | exact r_assign (v := .bool _) rfl | exact r_assign rfl) rfl rfl rfl ?_
    refine WL.fin hK463 (fun _ _ h => h) ?_
    refine WC.ret1 Tryd.results71 (fun _ _ h => h) rfl ?_
    exact ⟨_, rfl, .inr ⟨rfl, fun h => by simp only [zTcp] at h; omega⟩, st⟩
  by_cases c7 : x 7 = 0
  case neg =>
    refine enter [.pointer (some ⟨b, o, none⟩)] Tryd.func71 rfl Tryd.ntmps71 rfl ?_
    show WC _ _ _ 72 [] [(0, .pointer (some ⟨b, o, none⟩))] _
    refine WC.seq fun K464 hK464 => ?_
    -- region 0
    refine WC.region ?_
    -- R0.0 2 := frame.go:69 assign
    refine WL.v (by first | exact r_assign (v := .bool _) rfl | exact r_assign rfl) rfl rfl rfl ?_
    refine WL.fin hK464 (fun _ _ h => h) ?_
    refine WC.seq fun K465 hK465 => ?_
    -- region 1
    refine WC.region ?_
    -- R1.0 3 := frame.go:70 move
    refine WL.v (by first | exact r_move (v := .pointer _) rfl | exact r_move rfl) rfl rfl rfl ?_
    -- R1.1 4 := frame.go:70 nilCheck
    refine WL.v (by exact r_nilCheck rfl) rfl rfl rfl ?_
    -- R1.2 5 := frame.go:70 fieldAddr
    refine WL.v (by exact r_field ty_fld39_0 rfl) rfl rfl rfl ?_
    -- R1.3 6 := frame.go:70 load
    refine WL.v (by first | exact r_load1 ty_one30 rfl (hr [] _ st 0 (by decide)) | exact r_load1 ty_one30 rfl (hr _ _ st 0 (by decide)) | exact r_load1 ty_one30 rfl (hr [_] _ st 0 (by decide)) | exact r_load1 ty_one30 rfl (hr [_, _] _ st 0 (by decide)) | exact r_load1 ty_one30 rfl (hr [_, _, _] _ st 0 (by decide))) rfl rfl rfl ?_
    -- R1.4 7 := frame.go:70 binOp
    refine WL.v (by first | exact r_eql rfl rfl (decide_eq_true (by omega)) | exact r_eql rfl rfl (decide_eq_false (by omega)) | exact r_eql rfl rfl rfl) rfl rfl rfl ?_
    -- R1.5 8 := frame.go:70 move
    refine WL.v (by first | exact r_move (v := .bool _) rfl | exact r_move rfl) rfl rfl rfl ?_
    -- R1.6 9 := frame.go:70 move
    refine WL.v (by first | exact r_move (v := .pointer _) rfl | exact r_move rfl) rfl rfl rfl ?_
    -- R1.7 10 := frame.go:70 nilCheck
    refine WL.v (by exact r_nilCheck rfl) rfl rfl rfl ?_
    -- R1.8 11 := frame.go:70 fieldAddr
    refine WL.v (by exact r_field ty_fld39_1 rfl) rfl rfl rfl ?_
    -- R1.9 12 := frame.go:70 load
    refine WL.v (by first | exact r_load1 ty_one30 rfl (hr [] _ st 1 (by decide)) | exact r_load1 ty_one30 rfl (hr _ _ st 1 (by decide)) | exact r_load1 ty_one30 rfl (hr [_] _ st 1 (by decide)) | exact r_load1 ty_one30 rfl (hr [_, _] _ st 1 (by decide)) | exact r_load1 ty_one30 rfl (hr [_, _, _] _ st 1 (by decide))) rfl rfl rfl ?_
    -- R1.10 13 := frame.go:70 binOp
    refine WL.v (by first | exact r_eql rfl rfl (decide_eq_true (by omega)) | exact r_eql rfl rfl (decide_eq_false (by omega)) | exact r_eql rfl rfl rfl) rfl rfl rfl ?_
    -- R1.11 14 := frame.go:70 pick
    refine WL.v (by first | exact r_pickT (v := .bool _) rfl rfl | exact r_pickF (v := .bool _) rfl rfl) rfl rfl rfl ?_
    -- R1.12 15 := frame.go:70 move
    refine WL.v (by first | exact r_move (v := .bool _) rfl | exact r_move rfl) rfl rfl rfl ?_
    -- R1.13 16 := frame.go:70 move
    refine WL.v (by first | exact r_move (v := .pointer _) rfl | exact r_move rfl) rfl rfl rfl ?_
    -- R1.14 17 := frame.go:70 nilCheck
    refine WL.v (by exact r_nilCheck rfl) rfl rfl rfl ?_
    -- R1.15 18 := frame.go:70 fieldAddr
    refine WL.v (by exact r_field ty_fld39_2 rfl) rfl rfl rfl ?_
    -- R1.16 19 := frame.go:70 load
    refine WL.v (by first | exact r_load1 ty_one37 rfl (hr [] _ st 2 (by decide)) | exact r_load1 ty_one37 rfl (hr _ _ st 2 (by decide)) | exact r_load1 ty_one37 rfl (hr [_] _ st 2 (by decide)) | exact r_load1 ty_one37 rfl (hr [_, _] _ st 2 (by decide)) | exact r_load1 ty_one37 rfl (hr [_, _, _] _ st 2 (by decide))) rfl rfl rfl ?_
    -- R1.17 20 := frame.go:70 binOp
    refine WL.v (by first | exact r_eql rfl rfl (decide_eq_true (by omega)) | exact r_eql rfl rfl (decide_eq_false (by omega)) | exact r_eql rfl rfl rfl) rfl rfl rfl ?_
    -- R1.18 21 := frame.go:70 pick
    refine WL.v (by first | exact r_pickT (v := .bool _) rfl rfl | exact r_pickF (v := .bool _) rfl rfl) rfl rfl rfl ?_
    -- R1.19 22 := frame.go:70 move
    refine WL.v (by first | exact r_move (v := .bool _) rfl | exact r_move rfl) rfl rfl rfl ?_
    -- R1.20 23 := frame.go:70 move
    refine WL.v (by first | exact r_move (v := .pointer _) rfl | exact r_move rfl) rfl rfl rfl ?_
    -- R1.21 24 := frame.go:70 nilCheck
    refine WL.v (by exact r_nilCheck rfl) rfl rfl rfl ?_
    -- R1.22 25 := frame.go:70 fieldAddr
    refine WL.v (by exact r_field ty_fld39_3 rfl) rfl rfl rfl ?_
    -- R1.23 26 := frame.go:70 load
    refine WL.v (by first | exact r_load1 ty_one37 rfl (hr [] _ st 3 (by decide)) | exact r_load1 ty_one37 rfl (hr _ _ st 3 (by decide)) | exact r_load1 ty_one37 rfl (hr [_] _ st 3 (by decide)) | exact r_load1 ty_one37 rfl (hr [_, _] _ st 3 (by decide)) | exact r_load1 ty_one37 rfl (hr [_, _, _] _ st 3 (by decide))) rfl rfl rfl ?_
    -- R1.24 27 := frame.go:70 binOp
    refine WL.v (by first | exact r_eql rfl rfl (decide_eq_true (by omega)) | exact r_eql rfl rfl (decide_eq_false (by omega)) | exact r_eql rfl rfl rfl) rfl rfl rfl ?_
    -- R1.25 28 := frame.go:70 pick
    refine WL.v (by first | exact r_pickT (v := .bool _) rfl rfl | exact r_pickF (v := .bool _) rfl rfl) rfl rfl rfl ?_
    -- R1.26 29 := frame.go:70 move
    refine WL.v (by first | exact r_move (v := .bool _) rfl | exact r_move rfl) rfl rfl rfl ?_
    -- R1.27 30 := frame.go:70 move
    refine WL.v (by first | exact r_move (v := .pointer _) rfl | exact r_move rfl) rfl rfl rfl ?_
    -- R1.28 31 := frame.go:70 nilCheck
    refine WL.v (by exact r_nilCheck rfl) rfl rfl rfl ?_
    -- R1.29 32 := frame.go:70 fieldAddr
    refine WL.v (by exact r_field ty_fld39_4 rfl) rfl rfl rfl ?_
    -- R1.30 33 := frame.go:70 load
    refine WL.v (by first | exact r_load1 ty_one5 rfl (hr [] _ st 4 (by decide)) | exact r_load1 ty_one5 rfl (hr _ _ st 4 (by decide)) | exact r_load1 ty_one5 rfl (hr [_] _ st 4 (by decide)) | exact r_load1 ty_one5 rfl (hr [_, _] _ st 4 (by decide)) | exact r_load1 ty_one5 rfl (hr [_, _, _] _ st 4 (by decide))) rfl rfl rfl ?_
    -- R1.31 34 := frame.go:70 binOp
    refine WL.v (by first | exact r_eql rfl rfl (decide_eq_true (by omega)) | exact r_eql rfl rfl (decide_eq_false (by omega)) | exact r_eql rfl rfl rfl) rfl rfl rfl ?_
    -- R1.32 35 := frame.go:70 pick
    refine WL.v (by first | exact r_pickT (v := .bool _) rfl rfl | exact r_pickF (v := .bool _) rfl rfl) rfl rfl rfl ?_
    -- R1.33 36 := frame.go:70 move
    refine WL.v (by first | exact r_move (v := .bool _) rfl | exact r_move rfl) rfl rfl rfl ?_
    -- R1.34 37 := frame.go:70 move
    refine WL.v (by first | exact r_move (v := .pointer _) rfl | exact r_move rfl) rfl rfl rfl ?_
    -- R1.35 38 := frame.go:70 nilCheck
    refine WL.v (by exact r_nilCheck rfl) rfl rfl rfl ?_
    -- R1.36 39 := frame.go:70 fieldAddr
    refine WL.v (by exact r_field ty_fld39_5 rfl) rfl rfl rfl ?_
    -- R1.37 40 := frame.go:70 load
    refine WL.v (by first | exact r_load1 ty_one5 rfl (hr [] _ st 5 (by decide)) | exact r_load1 ty_one5 rfl (hr _ _ st 5 (by decide)) | exact r_load1 ty_one5 rfl (hr [_] _ st 5 (by decide)) | exact r_load1 ty_one5 rfl (hr [_, _] _ st 5 (by decide)) | exact r_load1 ty_one5 rfl (hr [_, _, _] _ st 5 (by decide))) rfl rfl rfl ?_
    -- R1.38 41 := frame.go:70 binOp
    refine WL.v (by first | exact r_eql rfl rfl (decide_eq_true (by omega)) | exact r_eql rfl rfl (decide_eq_false (by omega)) | exact r_eql rfl rfl rfl) rfl rfl rfl ?_
    -- R1.39 42 := frame.go:70 pick
    refine WL.v (by first | exact r_pickT (v := .bool _) rfl rfl | exact r_pickF (v := .bool _) rfl rfl) rfl rfl rfl ?_
    -- R1.40 43 := frame.go:70 move
    refine WL.v (by first | exact r_move (v := .bool _) rfl | exact r_move rfl) rfl rfl rfl ?_
    -- R1.41 44 := frame.go:70 move
    refine WL.v (by first | exact r_move (v := .pointer _) rfl | exact r_move rfl) rfl rfl rfl ?_
    -- R1.42 45 := frame.go:70 nilCheck
    refine WL.v (by exact r_nilCheck rfl) rfl rfl rfl ?_
    -- R1.43 46 := frame.go:70 fieldAddr
    refine WL.v (by exact r_field ty_fld39_6 rfl) rfl rfl rfl ?_
    -- R1.44 47 := frame.go:70 load
    refine WL.v (by first | exact r_load1 ty_one30 rfl (hr [] _ st 6 (by decide)) | exact r_load1 ty_one30 rfl (hr _ _ st 6 (by decide)) | exact r_load1 ty_one30 rfl (hr [_] _ st 6 (by decide)) | exact r_load1 ty_one30 rfl (hr [_, _] _ st 6 (by decide)) | exact r_load1 ty_one30 rfl (hr [_, _, _] _ st 6 (by decide))) rfl rfl rfl ?_
    -- R1.45 48 := frame.go:70 binOp
    refine WL.v (by first | exact r_eql rfl rfl (decide_eq_true (by omega)) | exact r_eql rfl rfl (decide_eq_false (by omega)) | exact r_eql rfl rfl rfl) rfl rfl rfl ?_
    -- R1.46 49 := frame.go:70 pick
    refine WL.v (by first | exact r_pickT (v := .bool _) rfl rfl | exact r_pickF (v := .bool _) rfl rfl) rfl rfl rfl ?_
    -- R1.47 50 := frame.go:70 move
    refine WL.v (by first | exact r_move (v := .bool _) rfl | exact r_move rfl) rfl rfl rfl ?_
    -- R1.48 51 := frame.go:70 move
    refine WL.v (by first | exact r_move (v := .pointer _) rfl | exact r_move rfl) rfl rfl rfl ?_
    -- R1.49 52 := frame.go:70 nilCheck
    refine WL.v (by exact r_nilCheck rfl) rfl rfl rfl ?_
    -- R1.50 53 := frame.go:70 fieldAddr
    refine WL.v (by exact r_field ty_fld39_7 rfl) rfl rfl rfl ?_
    -- R1.51 54 := frame.go:70 load
    refine WL.v (by first | exact r_load1 ty_one30 rfl (hr [] _ st 7 (by decide)) | exact r_load1 ty_one30 rfl (hr _ _ st 7 (by decide)) | exact r_load1 ty_one30 rfl (hr [_] _ st 7 (by decide)) | exact r_load1 ty_one30 rfl (hr [_, _] _ st 7 (by decide)) | exact r_load1 ty_one30 rfl (hr [_, _, _] _ st 7 (by decide))) rfl rfl rfl ?_
    -- R1.52 55 := frame.go:70 binOp
    refine WL.v (by first | exact r_eql rfl rfl (decide_eq_true (by omega)) | exact r_eql rfl rfl (decide_eq_false (by omega)) | exact r_eql rfl rfl rfl) rfl rfl rfl ?_
    -- R1.53 56 := frame.go:70 pick
    refine WL.v (by first | exact r_pickT (v := .bool _) rfl rfl | exact r_pickF (v := .bool _) rfl rfl) rfl rfl rfl ?_
    -- R1.54 57 := frame.go:70 move
    refine WL.v (by first | exact r_move (v := .bool _) rfl | exact r_move rfl) rfl rfl rfl ?_
    -- R1.55 58 := frame.go:70 move
    refine WL.no rfl rfl ?_
    -- R1.56 59 := frame.go:70 nilCheck
    refine WL.no rfl rfl ?_
    -- R1.57 60 := frame.go:70 fieldAddr
    refine WL.no rfl rfl ?_
    -- R1.58 61 := frame.go:70 load
    refine WL.no rfl rfl ?_
    -- R1.59 62 := frame.go:70 binOp
    refine WL.no rfl rfl ?_
    -- R1.60 63 := frame.go:70 pick
    refine WL.v (by first | exact r_pickT (v := .bool _) rfl rfl | exact r_pickF (v := .bool _) rfl rfl) rfl rfl rfl ?_
    -- R1.61 64 := frame.go:70 move
    refine WL.v (by first | exact r_move (v := .bool _) rfl | exact r_move rfl) rfl rfl rfl ?_
    -- R1.62 65 := frame.go:70 move
    refine WL.no rfl rfl ?_
    -- R1.63 66 := frame.go:70 nilCheck
    refine WL.no rfl rfl ?_
    -- R1.64 67 := frame.go:70 fieldAddr
    refine WL.no rfl rfl ?_
    -- R1.65 68 := frame.go:70 load
    refine WL.no rfl rfl ?_
    -- R1.66 69 := frame.go:70 call
    refine WL.no rfl rfl ?_
    -- R1.67 70 := frame.go:70 binOp
    refine WL.no rfl rfl ?_
    -- R1.68 71 := frame.go:70 pick
    refine WL.v (by first | exact r_pickT (v := .bool _) rfl rfl | exact r_pickF (v := .bool _) rfl rfl) rfl rfl rfl ?_
    -- R1.69 2 := frame.go:70 assign
    refine WL.v (by first | exact r_assign (v := .bool _) rfl | exact r_assign rfl) rfl rfl rfl ?_
    refine WL.fin hK465 (fun _ _ h => h) ?_
    refine WC.ret1 Tryd.results71 (fun _ _ h => h) rfl ?_
    exact ⟨_, rfl, .inr ⟨rfl, fun h => by simp only [zTcp] at h; omega⟩, st⟩
  by_cases c8 : x 8 = 0
  case neg =>
    refine enter [.pointer (some ⟨b, o, none⟩)] Tryd.func71 rfl Tryd.ntmps71 rfl ?_
    show WC _ _ _ 72 [] [(0, .pointer (some ⟨b, o, none⟩))] _
    refine WC.seq fun K466 hK466 => ?_
    -- region 0
    refine WC.region ?_
    -- R0.0 2 := frame.go:69 assign
    refine WL.v (by first | exact r_assign (v := .bool _) rfl | exact r_assign rfl) rfl rfl rfl ?_
    refine WL.fin hK466 (fun _ _ h => h) ?_
    refine WC.seq fun K467 hK467 => ?_
    -- region 1
    refine WC.region ?_
    -- R1.0 3 := frame.go:70 move
    refine WL.v (by first | exact r_move (v := .pointer _) rfl | exact r_move rfl) rfl rfl rfl ?_
    -- R1.1 4 := frame.go:70 nilCheck
    refine WL.v (by exact r_nilCheck rfl) rfl rfl rfl ?_
    -- R1.2 5 := frame.go:70 fieldAddr
    refine WL.v (by exact r_field ty_fld39_0 rfl) rfl rfl rfl ?_
    -- R1.3 6 := frame.go:70 load
    refine WL.v (by first | exact r_load1 ty_one30 rfl (hr [] _ st 0 (by decide)) | exact r_load1 ty_one30 rfl (hr _ _ st 0 (by decide)) | exact r_load1 ty_one30 rfl (hr [_] _ st 0 (by decide)) | exact r_load1 ty_one30 rfl (hr [_, _] _ st 0 (by decide)) | exact r_load1 ty_one30 rfl (hr [_, _, _] _ st 0 (by decide))) rfl rfl rfl ?_
    -- R1.4 7 := frame.go:70 binOp
    refine WL.v (by first | exact r_eql rfl rfl (decide_eq_true (by omega)) | exact r_eql rfl rfl (decide_eq_false (by omega)) | exact r_eql rfl rfl rfl) rfl rfl rfl ?_
    -- R1.5 8 := frame.go:70 move
    refine WL.v (by first | exact r_move (v := .bool _) rfl | exact r_move rfl) rfl rfl rfl ?_
    -- R1.6 9 := frame.go:70 move
    refine WL.v (by first | exact r_move (v := .pointer _) rfl | exact r_move rfl) rfl rfl rfl ?_
    -- R1.7 10 := frame.go:70 nilCheck
    refine WL.v (by exact r_nilCheck rfl) rfl rfl rfl ?_
    -- R1.8 11 := frame.go:70 fieldAddr
    refine WL.v (by exact r_field ty_fld39_1 rfl) rfl rfl rfl ?_
    -- R1.9 12 := frame.go:70 load
    refine WL.v (by first | exact r_load1 ty_one30 rfl (hr [] _ st 1 (by decide)) | exact r_load1 ty_one30 rfl (hr _ _ st 1 (by decide)) | exact r_load1 ty_one30 rfl (hr [_] _ st 1 (by decide)) | exact r_load1 ty_one30 rfl (hr [_, _] _ st 1 (by decide)) | exact r_load1 ty_one30 rfl (hr [_, _, _] _ st 1 (by decide))) rfl rfl rfl ?_
    -- R1.10 13 := frame.go:70 binOp
    refine WL.v (by first | exact r_eql rfl rfl (decide_eq_true (by omega)) | exact r_eql rfl rfl (decide_eq_false (by omega)) | exact r_eql rfl rfl rfl) rfl rfl rfl ?_
    -- R1.11 14 := frame.go:70 pick
    refine WL.v (by first | exact r_pickT (v := .bool _) rfl rfl | exact r_pickF (v := .bool _) rfl rfl) rfl rfl rfl ?_
    -- R1.12 15 := frame.go:70 move
    refine WL.v (by first | exact r_move (v := .bool _) rfl | exact r_move rfl) rfl rfl rfl ?_
    -- R1.13 16 := frame.go:70 move
    refine WL.v (by first | exact r_move (v := .pointer _) rfl | exact r_move rfl) rfl rfl rfl ?_
    -- R1.14 17 := frame.go:70 nilCheck
    refine WL.v (by exact r_nilCheck rfl) rfl rfl rfl ?_
    -- R1.15 18 := frame.go:70 fieldAddr
    refine WL.v (by exact r_field ty_fld39_2 rfl) rfl rfl rfl ?_
    -- R1.16 19 := frame.go:70 load
    refine WL.v (by first | exact r_load1 ty_one37 rfl (hr [] _ st 2 (by decide)) | exact r_load1 ty_one37 rfl (hr _ _ st 2 (by decide)) | exact r_load1 ty_one37 rfl (hr [_] _ st 2 (by decide)) | exact r_load1 ty_one37 rfl (hr [_, _] _ st 2 (by decide)) | exact r_load1 ty_one37 rfl (hr [_, _, _] _ st 2 (by decide))) rfl rfl rfl ?_
    -- R1.17 20 := frame.go:70 binOp
    refine WL.v (by first | exact r_eql rfl rfl (decide_eq_true (by omega)) | exact r_eql rfl rfl (decide_eq_false (by omega)) | exact r_eql rfl rfl rfl) rfl rfl rfl ?_
    -- R1.18 21 := frame.go:70 pick
    refine WL.v (by first | exact r_pickT (v := .bool _) rfl rfl | exact r_pickF (v := .bool _) rfl rfl) rfl rfl rfl ?_
    -- R1.19 22 := frame.go:70 move
    refine WL.v (by first | exact r_move (v := .bool _) rfl | exact r_move rfl) rfl rfl rfl ?_
    -- R1.20 23 := frame.go:70 move
    refine WL.v (by first | exact r_move (v := .pointer _) rfl | exact r_move rfl) rfl rfl rfl ?_
    -- R1.21 24 := frame.go:70 nilCheck
    refine WL.v (by exact r_nilCheck rfl) rfl rfl rfl ?_
    -- R1.22 25 := frame.go:70 fieldAddr
    refine WL.v (by exact r_field ty_fld39_3 rfl) rfl rfl rfl ?_
    -- R1.23 26 := frame.go:70 load
    refine WL.v (by first | exact r_load1 ty_one37 rfl (hr [] _ st 3 (by decide)) | exact r_load1 ty_one37 rfl (hr _ _ st 3 (by decide)) | exact r_load1 ty_one37 rfl (hr [_] _ st 3 (by decide)) | exact r_load1 ty_one37 rfl (hr [_, _] _ st 3 (by decide)) | exact r_load1 ty_one37 rfl (hr [_, _, _] _ st 3 (by decide))) rfl rfl rfl ?_
    -- R1.24 27 := frame.go:70 binOp
    refine WL.v (by first | exact r_eql rfl rfl (decide_eq_true (by omega)) | exact r_eql rfl rfl (decide_eq_false (by omega)) | exact r_eql rfl rfl rfl) rfl rfl rfl ?_
    -- R1.25 28 := frame.go:70 pick
    refine WL.v (by first | exact r_pickT (v := .bool _) rfl rfl | exact r_pickF (v := .bool _) rfl rfl) rfl rfl rfl ?_
    -- R1.26 29 := frame.go:70 move
    refine WL.v (by first | exact r_move (v := .bool _) rfl | exact r_move rfl) rfl rfl rfl ?_
    -- R1.27 30 := frame.go:70 move
    refine WL.v (by first | exact r_move (v := .pointer _) rfl | exact r_move rfl) rfl rfl rfl ?_
    -- R1.28 31 := frame.go:70 nilCheck
    refine WL.v (by exact r_nilCheck rfl) rfl rfl rfl ?_
    -- R1.29 32 := frame.go:70 fieldAddr
    refine WL.v (by exact r_field ty_fld39_4 rfl) rfl rfl rfl ?_
    -- R1.30 33 := frame.go:70 load
    refine WL.v (by first | exact r_load1 ty_one5 rfl (hr [] _ st 4 (by decide)) | exact r_load1 ty_one5 rfl (hr _ _ st 4 (by decide)) | exact r_load1 ty_one5 rfl (hr [_] _ st 4 (by decide)) | exact r_load1 ty_one5 rfl (hr [_, _] _ st 4 (by decide)) | exact r_load1 ty_one5 rfl (hr [_, _, _] _ st 4 (by decide))) rfl rfl rfl ?_
    -- R1.31 34 := frame.go:70 binOp
    refine WL.v (by first | exact r_eql rfl rfl (decide_eq_true (by omega)) | exact r_eql rfl rfl (decide_eq_false (by omega)) | exact r_eql rfl rfl rfl) rfl rfl rfl ?_
    -- R1.32 35 := frame.go:70 pick
    refine WL.v (by first | exact r_pickT (v := .bool _) rfl rfl | exact r_pickF (v := .bool _) rfl rfl) rfl rfl rfl ?_
    -- R1.33 36 := frame.go:70 move
    refine WL.v (by first | exact r_move (v := .bool _) rfl | exact r_move rfl) rfl rfl rfl ?_
    -- R1.34 37 := frame.go:70 move
    refine WL.v (by first | exact r_move (v := .pointer _) rfl | exact r_move rfl) rfl rfl rfl ?_
    -- R1.35 38 := frame.go:70 nilCheck
    refine WL.v (by exact r_nilCheck rfl) rfl rfl rfl ?_
    -- R1.36 39 := frame.go:70 fieldAddr
    refine WL.v (by exact r_field ty_fld39_5 rfl) rfl rfl rfl ?_
    -- R1.37 40 := frame.go:70 load
    refine WL.v (by first | exact r_load1 ty_one5 rfl (hr [] _ st 5 (by decide)) | exact r_load1 ty_one5 rfl (hr _ _ st 5 (by decide)) | exact r_load1 ty_one5 rfl (hr [_] _ st 5 (by decide)) | exact r_load1 ty_one5 rfl (hr [_, _] _ st 5 (by decide)) | exact r_load1 ty_one5 rfl (hr [_, _, _] _ st 5 (by decide))) rfl rfl rfl ?_
    -- R1.38 41 := frame.go:70 binOp
    refine WL.v (by first | exact r_eql rfl rfl (decide_eq_true (by omega)) | exact r_eql rfl rfl (decide_eq_false (by omega)) | exact r_eql rfl rfl rfl) rfl rfl rfl ?_
    -- R1.39 42 := frame.go:70 pick
    refine WL.v (by first | exact r_pickT (v := .bool _) rfl rfl | exact r_pickF (v := .bool _) rfl rfl) rfl rfl rfl ?_
    -- R1.40 43 := frame.go:70 move
    refine WL.v (by first | exact r_move (v := .bool _) rfl | exact r_move rfl) rfl rfl rfl ?_
    -- R1.41 44 := frame.go:70 move
    refine WL.v (by first | exact r_move (v := .pointer _) rfl | exact r_move rfl) rfl rfl rfl ?_
    -- R1.42 45 := frame.go:70 nilCheck
    refine WL.v (by exact r_nilCheck rfl) rfl rfl rfl ?_
    -- R1.43 46 := frame.go:70 fieldAddr
    refine WL.v (by exact r_field ty_fld39_6 rfl) rfl rfl rfl ?_
    -- R1.44 47 := frame.go:70 load
    refine WL.v (by first | exact r_load1 ty_one30 rfl (hr [] _ st 6 (by decide)) | exact r_load1 ty_one30 rfl (hr _ _ st 6 (by decide)) | exact r_load1 ty_one30 rfl (hr [_] _ st 6 (by decide)) | exact r_load1 ty_one30 rfl (hr [_, _] _ st 6 (by decide)) | exact r_load1 ty_one30 rfl (hr [_, _, _] _ st 6 (by decide))) rfl rfl rfl ?_
    -- R1.45 48 := frame.go:70 binOp
    refine WL.v (by first | exact r_eql rfl rfl (decide_eq_true (by omega)) | exact r_eql rfl rfl (decide_eq_false (by omega)) | exact r_eql rfl rfl rfl) rfl rfl rfl ?_
    -- R1.46 49 := frame.go:70 pick
    refine WL.v (by first | exact r_pickT (v := .bool _) rfl rfl | exact r_pickF (v := .bool _) rfl rfl) rfl rfl rfl ?_
    -- R1.47 50 := frame.go:70 move
    refine WL.v (by first | exact r_move (v := .bool _) rfl | exact r_move rfl) rfl rfl rfl ?_
    -- R1.48 51 := frame.go:70 move
    refine WL.v (by first | exact r_move (v := .pointer _) rfl | exact r_move rfl) rfl rfl rfl ?_
    -- R1.49 52 := frame.go:70 nilCheck
    refine WL.v (by exact r_nilCheck rfl) rfl rfl rfl ?_
    -- R1.50 53 := frame.go:70 fieldAddr
    refine WL.v (by exact r_field ty_fld39_7 rfl) rfl rfl rfl ?_
    -- R1.51 54 := frame.go:70 load
    refine WL.v (by first | exact r_load1 ty_one30 rfl (hr [] _ st 7 (by decide)) | exact r_load1 ty_one30 rfl (hr _ _ st 7 (by decide)) | exact r_load1 ty_one30 rfl (hr [_] _ st 7 (by decide)) | exact r_load1 ty_one30 rfl (hr [_, _] _ st 7 (by decide)) | exact r_load1 ty_one30 rfl (hr [_, _, _] _ st 7 (by decide))) rfl rfl rfl ?_
    -- R1.52 55 := frame.go:70 binOp
    refine WL.v (by first | exact r_eql rfl rfl (decide_eq_true (by omega)) | exact r_eql rfl rfl (decide_eq_false (by omega)) | exact r_eql rfl rfl rfl) rfl rfl rfl ?_
    -- R1.53 56 := frame.go:70 pick
    refine WL.v (by first | exact r_pickT (v := .bool _) rfl rfl | exact r_pickF (v := .bool _) rfl rfl) rfl rfl rfl ?_
    -- R1.54 57 := frame.go:70 move
    refine WL.v (by first | exact r_move (v := .bool _) rfl | exact r_move rfl) rfl rfl rfl ?_
    -- R1.55 58 := frame.go:70 move
    refine WL.v (by first | exact r_move (v := .pointer _) rfl | exact r_move rfl) rfl rfl rfl ?_
    -- R1.56 59 := frame.go:70 nilCheck
    refine WL.v (by exact r_nilCheck rfl) rfl rfl rfl ?_
    -- R1.57 60 := frame.go:70 fieldAddr
    refine WL.v (by exact r_field ty_fld39_8 rfl) rfl rfl rfl ?_
    -- R1.58 61 := frame.go:70 load
    refine WL.v (by first | exact r_load1 ty_one30 rfl (hr [] _ st 8 (by decide)) | exact r_load1 ty_one30 rfl (hr _ _ st 8 (by decide)) | exact r_load1 ty_one30 rfl (hr [_] _ st 8 (by decide)) | exact r_load1 ty_one30 rfl (hr [_, _] _ st 8 (by decide)) | exact r_load1 ty_one30 rfl (hr [_, _, _] _ st 8 (by decide))) rfl rfl rfl ?_
    -- R1.59 62 := frame.go:70 binOp
    refine WL.v (by first | exact r_eql rfl rfl (decide_eq_true (by omega)) | exact r_eql rfl rfl (decide_eq_false (by omega)) | exact r_eql rfl rfl rfl) rfl rfl rfl ?_
    -- R1.60 63 := frame.go:70 pick
    refine WL.v (by first | exact r_pickT (v := .bool _) rfl rfl | exact r_pickF (v := .bool _) rfl rfl) rfl rfl rfl ?_
    -- R1.61 64 := frame.go:70 move
    refine WL.v (by first | exact r_move (v := .bool _) rfl | exact r_move rfl) rfl rfl rfl ?_
    -- R1.62 65 := frame.go:70 move
    refine WL.no rfl rfl ?_
    -- R1.63 66 := frame.go:70 nilCheck
    refine WL.no rfl rfl ?_
    -- R1.64 67 := frame.go:70 fieldAddr
    refine WL.no rfl rfl ?_
    -- R1.65 68 := frame.go:70 load
    refine WL.no rfl rfl ?_
    -- R1.66 69 := frame.go:70 call
    refine WL.no rfl rfl ?_
    -- R1.67 70 := frame.go:70 binOp
    refine WL.no rfl rfl ?_
    -- R1.68 71 := frame.go:70 pick
    refine WL.v (by first | exact r_pickT (v := .bool _) rfl rfl | exact r_pickF (v := .bool _) rfl rfl) rfl rfl rfl ?_
    -- R1.69 2 := frame.go:70 assign
    refine WL.v (by first | exact r_assign (v := .bool _) rfl | exact r_assign rfl) rfl rfl rfl ?_
    refine WL.fin hK467 (fun _ _ h => h) ?_
    refine WC.ret1 Tryd.results71 (fun _ _ h => h) rfl ?_
    exact ⟨_, rfl, .inr ⟨rfl, fun h => by simp only [zTcp] at h; omega⟩, st⟩
  by_cases c9 : s.bs.length = 0
  case neg =>
    refine enter [.pointer (some ⟨b, o, none⟩)] Tryd.func71 rfl Tryd.ntmps71 rfl ?_
    show WC _ _ _ 72 [] [(0, .pointer (some ⟨b, o, none⟩))] _
    refine WC.seq fun K468 hK468 => ?_
    -- region 0
    refine WC.region ?_
    -- R0.0 2 := frame.go:69 assign
    refine WL.v (by first | exact r_assign (v := .bool _) rfl | exact r_assign rfl) rfl rfl rfl ?_
    refine WL.fin hK468 (fun _ _ h => h) ?_
    refine WC.seq fun K469 hK469 => ?_
    -- region 1
    refine WC.region ?_
    -- R1.0 3 := frame.go:70 move
    refine WL.v (by first | exact r_move (v := .pointer _) rfl | exact r_move rfl) rfl rfl rfl ?_
    -- R1.1 4 := frame.go:70 nilCheck
    refine WL.v (by exact r_nilCheck rfl) rfl rfl rfl ?_
    -- R1.2 5 := frame.go:70 fieldAddr
    refine WL.v (by exact r_field ty_fld39_0 rfl) rfl rfl rfl ?_
    -- R1.3 6 := frame.go:70 load
    refine WL.v (by first | exact r_load1 ty_one30 rfl (hr [] _ st 0 (by decide)) | exact r_load1 ty_one30 rfl (hr _ _ st 0 (by decide)) | exact r_load1 ty_one30 rfl (hr [_] _ st 0 (by decide)) | exact r_load1 ty_one30 rfl (hr [_, _] _ st 0 (by decide)) | exact r_load1 ty_one30 rfl (hr [_, _, _] _ st 0 (by decide))) rfl rfl rfl ?_
    -- R1.4 7 := frame.go:70 binOp
    refine WL.v (by first | exact r_eql rfl rfl (decide_eq_true (by omega)) | exact r_eql rfl rfl (decide_eq_false (by omega)) | exact r_eql rfl rfl rfl) rfl rfl rfl ?_
    -- R1.5 8 := frame.go:70 move
    refine WL.v (by first | exact r_move (v := .bool _) rfl | exact r_move rfl) rfl rfl rfl ?_
    -- R1.6 9 := frame.go:70 move
    refine WL.v (by first | exact r_move (v := .pointer _) rfl | exact r_move rfl) rfl rfl rfl ?_
    -- R1.7 10 := frame.go:70 nilCheck
    refine WL.v (by exact r_nilCheck rfl) rfl rfl rfl ?_
    -- R1.8 11 := frame.go:70 fieldAddr
    refine WL.v (by exact r_field ty_fld39_1 rfl) rfl rfl rfl ?_
    -- R1.9 12 := frame.go:70 load
    refine WL.v (by first | exact r_load1 ty_one30 rfl (hr [] _ st 1 (by decide)) | exact r_load1 ty_one30 rfl (hr _ _ st 1 (by decide)) | exact r_load1 ty_one30 rfl (hr [_] _ st 1 (by decide)) | exact r_load1 ty_one30 rfl (hr [_, _] _ st 1 (by decide)) | exact r_load1 ty_one30 rfl (hr [_, _, _] _ st 1 (by decide))) rfl rfl rfl ?_
    -- R1.10 13 := frame.go:70 binOp
    refine WL.v (by first | exact r_eql rfl rfl (decide_eq_true (by omega)) | exact r_eql rfl rfl (decide_eq_false (by omega)) | exact r_eql rfl rfl rfl) rfl rfl rfl ?_
    -- R1.11 14 := frame.go:70 pick
    refine WL.v (by first | exact r_pickT (v := .bool _) rfl rfl | exact r_pickF (v := .bool _) rfl rfl) rfl rfl rfl ?_
    -- R1.12 15 := frame.go:70 move
    refine WL.v (by first | exact r_move (v := .bool _) rfl | exact r_move rfl) rfl rfl rfl ?_
    -- R1.13 16 := frame.go:70 move
    refine WL.v (by first | exact r_move (v := .pointer _) rfl | exact r_move rfl) rfl rfl rfl ?_
    -- R1.14 17 := frame.go:70 nilCheck
    refine WL.v (by exact r_nilCheck rfl) rfl rfl rfl ?_
    -- R1.15 18 := frame.go:70 fieldAddr
    refine WL.v (by exact r_field ty_fld39_2 rfl) rfl rfl rfl ?_
    -- R1.16 19 := frame.go:70 load
    refine WL.v (by first | exact r_load1 ty_one37 rfl (hr [] _ st 2 (by decide)) | exact r_load1 ty_one37 rfl (hr _ _ st 2 (by decide)) | exact r_load1 ty_one37 rfl (hr [_] _ st 2 (by decide)) | exact r_load1 ty_one37 rfl (hr [_, _] _ st 2 (by decide)) | exact r_load1 ty_one37 rfl (hr [_, _, _] _ st 2 (by decide))) rfl rfl rfl ?_
    -- R1.17 20 := frame.go:70 binOp
    refine WL.v (by first | exact r_eql rfl rfl (decide_eq_true (by omega)) | exact r_eql rfl rfl (decide_eq_false (by omega)) | exact r_eql rfl rfl rfl) rfl rfl rfl ?_
    -- R1.18 21 := frame.go:70 pick
    refine WL.v (by first | exact r_pickT (v := .bool _) rfl rfl | exact r_pickF (v := .bool _) rfl rfl) rfl rfl rfl ?_
    -- R1.19 22 := frame.go:70 move
    refine WL.v (by first | exact r_move (v := .bool _) rfl | exact r_move rfl) rfl rfl rfl ?_
    -- R1.20 23 := frame.go:70 move
    refine WL.v (by first | exact r_move (v := .pointer _) rfl | exact r_move rfl) rfl rfl rfl ?_
    -- R1.21 24 := frame.go:70 nilCheck
    refine WL.v (by exact r_nilCheck rfl) rfl rfl rfl ?_
    -- R1.22 25 := frame.go:70 fieldAddr
    refine WL.v (by exact r_field ty_fld39_3 rfl) rfl rfl rfl ?_
    -- R1.23 26 := frame.go:70 load
    refine WL.v (by first | exact r_load1 ty_one37 rfl (hr [] _ st 3 (by decide)) | exact r_load1 ty_one37 rfl (hr _ _ st 3 (by decide)) | exact r_load1 ty_one37 rfl (hr [_] _ st 3 (by decide)) | exact r_load1 ty_one37 rfl (hr [_, _] _ st 3 (by decide)) | exact r_load1 ty_one37 rfl (hr [_, _, _] _ st 3 (by decide))) rfl rfl rfl ?_
    -- R1.24 27 := frame.go:70 binOp
    refine WL.v (by first | exact r_eql rfl rfl (decide_eq_true (by omega)) | exact r_eql rfl rfl (decide_eq_false (by omega)) | exact r_eql rfl rfl rfl) rfl rfl rfl ?_
    -- R1.25 28 := frame.go:70 pick
    refine WL.v (by first | exact r_pickT (v := .bool _) rfl rfl | exact r_pickF (v := .bool _) rfl rfl) rfl rfl rfl ?_
    -- R1.26 29 := frame.go:70 move
    refine WL.v (by first | exact r_move (v := .bool _) rfl | exact r_move rfl) rfl rfl rfl ?_
    -- R1.27 30 := frame.go:70 move
    refine WL.v (by first | exact r_move (v := .pointer _) rfl | exact r_move rfl) rfl rfl rfl ?_
    -- R1.28 31 := frame.go:70 nilCheck
    refine WL.v (by exact r_nilCheck rfl) rfl rfl rfl ?_
    -- R1.29 32 := frame.go:70 fieldAddr
    refine WL.v (by exact r_field ty_fld39_4 rfl) rfl rfl rfl ?_
    -- R1.30 33 := frame.go:70 load
    refine WL.v (by first | exact r_load1 ty_one5 rfl (hr [] _ st 4 (by decide)) | exact r_load1 ty_one5 rfl (hr _ _ st 4 (by decide)) | exact r_load1 ty_one5 rfl (hr [_] _ st 4 (by decide)) | exact r_load1 ty_one5 rfl (hr [_, _] _ st 4 (by decide)) | exact r_load1 ty_one5 rfl (hr [_, _, _] _ st 4 (by decide))) rfl rfl rfl ?_
    -- R1.31 34 := frame.go:70 binOp
    refine WL.v (by first | exact r_eql rfl rfl (decide_eq_true (by omega)) | exact r_eql rfl rfl (decide_eq_false (by omega)) | exact r_eql rfl rfl rfl) rfl rfl rfl ?_
    -- R1.32 35 := frame.go:70 pick
    refine WL.v (by first | exact r_pickT (v := .bool _) rfl rfl | exact r_pickF (v := .bool _) rfl rfl) rfl rfl rfl ?_
    -- R1.33 36 := frame.go:70 move
    refine WL.v (by first | exact r_move (v := .bool _) rfl | exact r_move rfl) rfl rfl rfl ?_
    -- R1.34 37 := frame.go:70 move
    refine WL.v (by first | exact r_move (v := .pointer _) rfl | exact r_move rfl) rfl rfl rfl ?_
    -- R1.35 38 := frame.go:70 nilCheck
    refine WL.v (by exact r_nilCheck rfl) rfl rfl rfl ?_
    -- R1.36 39 := frame.go:70 fieldAddr
    refine WL.v (by exact r_field ty_fld39_5 rfl) rfl rfl rfl ?_
    -- R1.37 40 := frame.go:70 load
    refine WL.v (by first | exact r_load1 ty_one5 rfl (hr [] _ st 5 (by decide)) | exact r_load1 ty_one5 rfl (hr _ _ st 5 (by decide)) | exact r_load1 ty_one5 rfl (hr [_] _ st 5 (by decide)) | exact r_load1 ty_one5 rfl (hr [_, _] _ st 5 (by decide)) | exact r_load1 ty_one5 rfl (hr [_, _, _] _ st 5 (by decide))) rfl rfl rfl ?_
    -- R1.38 41 := frame.go:70 binOp
    refine WL.v (by first | exact r_eql rfl rfl (decide_eq_true (by omega)) | exact r_eql rfl rfl (decide_eq_false (by omega)) | exact r_eql rfl rfl rfl) rfl rfl rfl ?_
    -- R1.39 42 := frame.go:70 pick
    refine WL.v (by first | exact r_pickT (v := .bool _) rfl rfl | exact r_pickF (v := .bool _) rfl rfl) rfl rfl rfl ?_
    -- R1.40 43 := frame.go:70 move
    refine WL.v (by first | exact r_move (v := .bool _) rfl | exact r_move rfl) rfl rfl rfl ?_
    -- R1.41 44 := frame.go:70 move
    refine WL.v (by first | exact r_move (v := .pointer _) rfl | exact r_move rfl) rfl rfl rfl ?_
    -- R1.42 45 := frame.go:70 nilCheck
    refine WL.v (by exact r_nilCheck rfl) rfl rfl rfl ?_
    -- R1.43 46 := frame.go:70 fieldAddr
    refine WL.v (by exact r_field ty_fld39_6 rfl) rfl rfl rfl ?_
    -- R1.44 47 := frame.go:70 load
    refine WL.v (by first | exact r_load1 ty_one30 rfl (hr [] _ st 6 (by decide)) | exact r_load1 ty_one30 rfl (hr _ _ st 6 (by decide)) | exact r_load1 ty_one30 rfl (hr [_] _ st 6 (by decide)) | exact r_load1 ty_one30 rfl (hr [_, _] _ st 6 (by decide)) | exact r_load1 ty_one30 rfl (hr [_, _, _] _ st 6 (by decide))) rfl rfl rfl ?_
    -- R1.45 48 := frame.go:70 binOp
    refine WL.v (by first | exact r_eql rfl rfl (decide_eq_true (by omega)) | exact r_eql rfl rfl (decide_eq_false (by omega)) | exact r_eql rfl rfl rfl) rfl rfl rfl ?_
    -- R1.46 49 := frame.go:70 pick
    refine WL.v (by first | exact r_pickT (v := .bool _) rfl rfl | exact r_pickF (v := .bool _) rfl rfl) rfl rfl rfl ?_
    -- R1.47 50 := frame.go:70 move
    refine WL.v (by first | exact r_move (v := .bool _) rfl | exact r_move rfl) rfl rfl rfl ?_
    -- R1.48 51 := frame.go:70 move
    refine WL.v (by first | exact r_move (v := .pointer _) rfl | exact r_move rfl) rfl rfl rfl ?_
    -- R1.49 52 := frame.go:70 nilCheck
    refine WL.v (by exact r_nilCheck rfl) rfl rfl rfl ?_
    -- R1.50 53 := frame.go:70 fieldAddr
    refine WL.v (by exact r_field ty_fld39_7 rfl) rfl rfl rfl ?_
    -- R1.51 54 := frame.go:70 load
    refine WL.v (by first | exact r_load1 ty_one30 rfl (hr [] _ st 7 (by decide)) | exact r_load1 ty_one30 rfl (hr _ _ st 7 (by decide)) | exact r_load1 ty_one30 rfl (hr [_] _ st 7 (by decide)) | exact r_load1 ty_one30 rfl (hr [_, _] _ st 7 (by decide)) | exact r_load1 ty_one30 rfl (hr [_, _, _] _ st 7 (by decide))) rfl rfl rfl ?_
    -- R1.52 55 := frame.go:70 binOp
    refine WL.v (by first | exact r_eql rfl rfl (decide_eq_true (by omega)) | exact r_eql rfl rfl (decide_eq_false (by omega)) | exact r_eql rfl rfl rfl) rfl rfl rfl ?_
    -- R1.53 56 := frame.go:70 pick
    refine WL.v (by first | exact r_pickT (v := .bool _) rfl rfl | exact r_pickF (v := .bool _) rfl rfl) rfl rfl rfl ?_
    -- R1.54 57 := frame.go:70 move
    refine WL.v (by first | exact r_move (v := .bool _) rfl | exact r_move rfl) rfl rfl rfl ?_
    -- R1.55 58 := frame.go:70 move
    refine WL.v (by first | exact r_move (v := .pointer _) rfl | exact r_move rfl) rfl rfl rfl ?_
    -- R1.56 59 := frame.go:70 nilCheck
    refine WL.v (by exact r_nilCheck rfl) rfl rfl rfl ?_
    -- R1.57 60 := frame.go:70 fieldAddr
    refine WL.v (by exact r_field ty_fld39_8 rfl) rfl rfl rfl ?_
    -- R1.58 61 := frame.go:70 load
    refine WL.v (by first | exact r_load1 ty_one30 rfl (hr [] _ st 8 (by decide)) | exact r_load1 ty_one30 rfl (hr _ _ st 8 (by decide)) | exact r_load1 ty_one30 rfl (hr [_] _ st 8 (by decide)) | exact r_load1 ty_one30 rfl (hr [_, _] _ st 8 (by decide)) | exact r_load1 ty_one30 rfl (hr [_, _, _] _ st 8 (by decide))) rfl rfl rfl ?_
    -- R1.59 62 := frame.go:70 binOp
    refine WL.v (by first | exact r_eql rfl rfl (decide_eq_true (by omega)) | exact r_eql rfl rfl (decide_eq_false (by omega)) | exact r_eql rfl rfl rfl) rfl rfl rfl ?_
    -- R1.60 63 := frame.go:70 pick
    refine WL.v (by first | exact r_pickT (v := .bool _) rfl rfl | exact r_pickF (v := .bool _) rfl rfl) rfl rfl rfl ?_
    -- R1.61 64 := frame.go:70 move
    refine WL.v (by first | exact r_move (v := .bool _) rfl | exact r_move rfl) rfl rfl rfl ?_
    -- R1.62 65 := frame.go:70 move
    refine WL.v (by first | exact r_move (v := .pointer _) rfl | exact r_move rfl) rfl rfl rfl ?_
    -- R1.63 66 := frame.go:70 nilCheck
    refine WL.v (by exact r_nilCheck rfl) rfl rfl rfl ?_
    -- R1.64 67 := frame.go:70 fieldAddr
    refine WL.v (by exact r_field ty_fld39_9 rfl) rfl rfl rfl ?_
    -- R1.65 68 := frame.go:70 load
    refine WL.v (by first | exact r_load1 ty_one25 rfl (hr [] _ st 9 (by decide)) | exact r_load1 ty_one25 rfl (hr _ _ st 9 (by decide)) | exact r_load1 ty_one25 rfl (hr [_] _ st 9 (by decide)) | exact r_load1 ty_one25 rfl (hr [_, _] _ st 9 (by decide)) | exact r_load1 ty_one25 rfl (hr [_, _, _] _ st 9 (by decide))) rfl rfl rfl ?_
    -- R1.66 69 := frame.go:70 call
    refine WL.v (by exact r_len ty_usl25 rfl) rfl rfl rfl ?_
    -- R1.67 70 := frame.go:70 binOp
    refine WL.v (by first | exact r_eql rfl rfl (decide_eq_true (by omega)) | exact r_eql rfl rfl (decide_eq_false (by omega)) | exact r_eql rfl rfl rfl) rfl rfl rfl ?_
    -- R1.68 71 := frame.go:70 pick
    refine WL.v (by first | exact r_pickT (v := .bool _) rfl rfl | exact r_pickF (v := .bool _) rfl rfl) rfl rfl rfl ?_
    -- R1.69 2 := frame.go:70 assign
    refine WL.v (by first | exact r_assign (v := .bool _) rfl | exact r_assign rfl) rfl rfl rfl ?_
    refine WL.fin hK469 (fun _ _ h => h) ?_
    refine WC.ret1 Tryd.results71 (fun _ _ h => h) rfl ?_
    exact ⟨_, rfl, .inr ⟨rfl, fun h => by simp only [zTcp] at h; omega⟩, st⟩
  refine enter [.pointer (some ⟨b, o, none⟩)] Tryd.func71 rfl Tryd.ntmps71 rfl ?_
  show WC _ _ _ 72 [] [(0, .pointer (some ⟨b, o, none⟩))] _
  refine WC.seq fun K470 hK470 => ?_
  -- region 0
  refine WC.region ?_
  -- R0.0 2 := frame.go:69 assign
  refine WL.v (by first | exact r_assign (v := .bool _) rfl | exact r_assign rfl) rfl rfl rfl ?_
  refine WL.fin hK470 (fun _ _ h => h) ?_
  refine WC.seq fun K471 hK471 => ?_
  -- region 1
  refine WC.region ?_
  -- R1.0 3 := frame.go:70 move
  refine WL.v (by first | exact r_move (v := .pointer _) rfl | exact r_move rfl) rfl rfl rfl ?_
  -- R1.1 4 := frame.go:70 nilCheck
  refine WL.v (by exact r_nilCheck rfl) rfl rfl rfl ?_
  -- R1.2 5 := frame.go:70 fieldAddr
  refine WL.v (by exact r_field ty_fld39_0 rfl) rfl rfl rfl ?_
  -- R1.3 6 := frame.go:70 load
  refine WL.v (by first | exact r_load1 ty_one30 rfl (hr [] _ st 0 (by decide)) | exact r_load1 ty_one30 rfl (hr _ _ st 0 (by decide)) | exact r_load1 ty_one30 rfl (hr [_] _ st 0 (by decide)) | exact r_load1 ty_one30 rfl (hr [_, _] _ st 0 (by decide)) | exact r_load1 ty_one30 rfl (hr [_, _, _] _ st 0 (by decide))) rfl rfl rfl ?_
  -- R1.4 7 := frame.go:70 binOp
  refine WL.v (by first | exact r_eql rfl rfl (decide_eq_true (by omega)) | exact r_eql rfl rfl (decide_eq_false (by omega)) | exact r_eql rfl rfl rfl) rfl rfl rfl ?_
  -- R1.5 8 := frame.go:70 move
  refine WL.v (by first | exact r_move (v := .bool _) rfl | exact r_move rfl) rfl rfl rfl ?_
  -- R1.6 9 := frame.go:70 move
  refine WL.v (by first | exact r_move (v := .pointer _) rfl | exact r_move rfl) rfl rfl rfl ?_
  -- R1.7 10 := frame.go:70 nilCheck
  refine WL.v (by exact r_nilCheck rfl) rfl rfl rfl ?_
  -- R1.8 11 := frame.go:70 fieldAddr
  refine WL.v (by exact r_field ty_fld39_1 rfl) rfl rfl rfl ?_
  -- R1.9 12 := frame.go:70 load
  refine WL.v (by first | exact r_load1 ty_one30 rfl (hr [] _ st 1 (by decide)) | exact r_load1 ty_one30 rfl (hr _ _ st 1 (by decide)) | exact r_load1 ty_one30 rfl (hr [_] _ st 1 (by decide)) | exact r_load1 ty_one30 rfl (hr [_, _] _ st 1 (by decide)) | exact r_load1 ty_one30 rfl (hr [_, _, _] _ st 1 (by decide))) rfl rfl rfl ?_
  -- R1.10 13 := frame.go:70 binOp
  refine WL.v (by first | exact r_eql rfl rfl (decide_eq_true (by omega)) | exact r_eql rfl rfl (decide_eq_false (by omega)) | exact r_eql rfl rfl rfl) rfl rfl rfl ?_
  -- R1.11 14 := frame.go:70 pick
  refine WL.v (by first | exact r_pickT (v := .bool _) rfl rfl | exact r_pickF (v := .bool _) rfl rfl) rfl rfl rfl ?_
  -- R1.12 15 := frame.go:70 move
  refine WL.v (by first | exact r_move (v := .bool _) rfl | exact r_move rfl) rfl rfl rfl ?_
  -- R1.13 16 := frame.go:70 move
  refine WL.v (by first | exact r_move (v := .pointer _) rfl | exact r_move rfl) rfl rfl rfl ?_
  -- R1.14 17 := frame.go:70 nilCheck
  refine WL.v (by exact r_nilCheck rfl) rfl rfl rfl ?_
  -- R1.15 18 := frame.go:70 fieldAddr
  refine WL.v (by exact r_field ty_fld39_2 rfl) rfl rfl rfl ?_
  -- R1.16 19 := frame.go:70 load
  refine WL.v (by first | exact r_load1 ty_one37 rfl (hr [] _ st 2 (by decide)) | exact r_load1 ty_one37 rfl (hr _ _ st 2 (by decide)) | exact r_load1 ty_one37 rfl (hr [_] _ st 2 (by decide)) | exact r_load1 ty_one37 rfl (hr [_, _] _ st 2 (by decide)) | exact r_load1 ty_one37 rfl (hr [_, _, _] _ st 2 (by decide))) rfl rfl rfl ?_
  -- R1.17 20 := frame.go:70 binOp
  refine WL.v (by first | exact r_eql rfl rfl (decide_eq_true (by omega)) | exact r_eql rfl rfl (decide_eq_false (by omega)) | exact r_eql rfl rfl rfl) rfl rfl rfl ?_
  -- R1.18 21 := frame.go:70 pick
  refine WL.v (by first | exact r_pickT (v := .bool _) rfl rfl | exact r_pickF (v := .bool _) rfl rfl) rfl rfl rfl ?_
  -- R1.19 22 := frame.go:70 move
  refine WL.v (by first | exact r_move (v := .bool _) rfl | exact r_move rfl) rfl rfl rfl ?_
  -- R1.20 23 := frame.go:70 move
  refine WL.v (by first | exact r_move (v := .pointer _) rfl | exact r_move rfl) rfl rfl rfl ?_
  -- R1.21 24 := frame.go:70 nilCheck
  refine WL.v (by exact r_nilCheck rfl) rfl rfl rfl ?_
  -- R1.22 25 := frame.go:70 fieldAddr
  refine WL.v (by exact r_field ty_fld39_3 rfl) rfl rfl rfl ?_
  -- R1.23 26 := frame.go:70 load
  refine WL.v (by first | exact r_load1 ty_one37 rfl (hr [] _ st 3 (by decide)) | exact r_load1 ty_one37 rfl (hr _ _ st 3 (by decide)) | exact r_load1 ty_one37 rfl (hr [_] _ st 3 (by decide)) | exact r_load1 ty_one37 rfl (hr [_, _] _ st 3 (by decide)) | exact r_load1 ty_one37 rfl (hr [_, _, _] _ st 3 (by decide))) rfl rfl rfl ?_
  -- R1.24 27 := frame.go:70 binOp
  refine WL.v (by first | exact r_eql rfl rfl (decide_eq_true (by omega)) | exact r_eql rfl rfl (decide_eq_false (by omega)) | exact r_eql rfl rfl rfl) rfl rfl rfl ?_
  -- R1.25 28 := frame.go:70 pick
  refine WL.v (by first | exact r_pickT (v := .bool _) rfl rfl | exact r_pickF (v := .bool _) rfl rfl) rfl rfl rfl ?_
  -- R1.26 29 := frame.go:70 move
  refine WL.v (by first | exact r_move (v := .bool _) rfl | exact r_move rfl) rfl rfl rfl ?_
  -- R1.27 30 := frame.go:70 move
  refine WL.v (by first | exact r_move (v := .pointer _) rfl | exact r_move rfl) rfl rfl rfl ?_
  -- R1.28 31 := frame.go:70 nilCheck
  refine WL.v (by exact r_nilCheck rfl) rfl rfl rfl ?_
  -- R1.29 32 := frame.go:70 fieldAddr
  refine WL.v (by exact r_field ty_fld39_4 rfl) rfl rfl rfl ?_
  -- R1.30 33 := frame.go:70 load
  refine WL.v (by first | exact r_load1 ty_one5 rfl (hr [] _ st 4 (by decide)) | exact r_load1 ty_one5 rfl (hr _ _ st 4 (by decide)) | exact r_load1 ty_one5 rfl (hr [_] _ st 4 (by decide)) | exact r_load1 ty_one5 rfl (hr [_, _] _ st 4 (by decide)) | exact r_load1 ty_one5 rfl (hr [_, _, _] _ st 4 (by decide))) rfl rfl rfl ?_
  -- R1.31 34 := frame.go:70 binOp
  refine WL.v (by first | exact r_eql rfl rfl (decide_eq_true (by omega)) | exact r_eql rfl rfl (decide_eq_false (by omega)) | exact r_eql rfl rfl rfl) rfl rfl rfl ?_
  -- R1.32 35 := frame.go:70 pick
  refine WL.v (by first | exact r_pickT (v := .bool _) rfl rfl | exact r_pickF (v := .bool _) rfl rfl) rfl rfl rfl ?_
  -- R1.33 36 := frame.go:70 move
  refine WL.v (by first | exact r_move (v := .bool _) rfl | exact r_move rfl) rfl rfl rfl ?_
  -- R1.34 37 := frame.go:70 move
  refine WL.v (by first | exact r_move (v := .pointer _) rfl | exact r_move rfl) rfl rfl rfl ?_
  -- R1.35 38 := frame.go:70 nilCheck
  refine WL.v (by exact r_nilCheck rfl) rfl rfl rfl ?_
  -- R1.36 39 := frame.go:70 fieldAddr
  refine WL.v (by exact r_field ty_fld39_5 rfl) rfl rfl rfl ?_
  -- R1.37 40 := frame.go:70 load
  refine WL.v (by first | exact r_load1 ty_one5 rfl (hr [] _ st 5 (by decide)) | exact r_load1 ty_one5 rfl (hr _ _ st 5 (by decide)) | exact r_load1 ty_one5 rfl (hr [_] _ st 5 (by decide)) | exact r_load1 ty_one5 rfl (hr [_, _] _ st 5 (by decide)) | exact r_load1 ty_one5 rfl (hr [_, _, _] _ st 5 (by decide))) rfl rfl rfl ?_
  -- R1.38 41 := frame.go:70 binOp
  refine WL.v (by first | exact r_eql rfl rfl (decide_eq_true (by omega)) | exact r_eql rfl rfl (decide_eq_false (by omega)) | exact r_eql rfl rfl rfl) rfl rfl rfl ?_
  -- R1.39 42 := frame.go:70 pick
  refine WL.v (by first | exact r_pickT (v := .bool _) rfl rfl | exact r_pickF (v := .bool _) rfl rfl) rfl rfl rfl ?_
  -- R1.40 43 := frame.go:70 move
  refine WL.v (by first | exact r_move (v := .bool _) rfl | exact r_move rfl) rfl rfl rfl ?_
  -- R1.41 44 := frame.go:70 move
  refine WL.v (by first | exact r_move (v := .pointer _) rfl | exact r_move rfl) rfl rfl rfl ?_
  -- R1.42 45 := frame.go:70 nilCheck
  refine WL.v (by exact r_nilCheck rfl) rfl rfl rfl ?_
  -- R1.43 46 := frame.go:70 fieldAddr
  refine WL.v (by exact r_field ty_fld39_6 rfl) rfl rfl rfl ?_
  -- R1.44 47 := frame.go:70 load
  refine WL.v (by first | exact r_load1 ty_one30 rfl (hr [] _ st 6 (by decide)) | exact r_load1 ty_one30 rfl (hr _ _ st 6 (by decide)) | exact r_load1 ty_one30 rfl (hr [_] _ st 6 (by decide)) | exact r_load1 ty_one30 rfl (hr [_, _] _ st 6 (by decide)) | exact r_load1 ty_one30 rfl (hr [_, _, _] _ st 6 (by decide))) rfl rfl rfl ?_
  -- R1.45 48 := frame.go:70 binOp
  refine WL.v (by first | exact r_eql rfl rfl (decide_eq_true (by omega)) | exact r_eql rfl rfl (decide_eq_false (by omega)) | exact r_eql rfl rfl rfl) rfl rfl rfl ?_
  -- R1.46 49 := frame.go:70 pick
  refine WL.v (by first | exact r_pickT (v := .bool _) rfl rfl | exact r_pickF (v := .bool _) rfl rfl) rfl rfl rfl ?_
  -- R1.47 50 := frame.go:70 move
  refine WL.v (by first | exact r_move (v := .bool _) rfl | exact r_move rfl) rfl rfl rfl ?_
  -- R1.48 51 := frame.go:70 move
  refine WL.v (by first | exact r_move (v := .pointer _) rfl | exact r_move rfl) rfl rfl rfl ?_
  -- R1.49 52 := frame.go:70 nilCheck
  refine WL.v (by exact r_nilCheck rfl) rfl rfl rfl ?_
  -- R1.50 53 := frame.go:70 fieldAddr
  refine WL.v (by exact r_field ty_fld39_7 rfl) rfl rfl rfl ?_
  -- R1.51 54 := frame.go:70 load
  refine WL.v (by first | exact r_load1 ty_one30 rfl (hr [] _ st 7 (by decide)) | exact r_load1 ty_one30 rfl (hr _ _ st 7 (by decide)) | exact r_load1 ty_one30 rfl (hr [_] _ st 7 (by decide)) | exact r_load1 ty_one30 rfl (hr [_, _] _ st 7 (by decide)) | exact r_load1 ty_one30 rfl (hr [_, _, _] _ st 7 (by decide))) rfl rfl rfl ?_
  -- R1.52 55 := frame.go:70 binOp
  refine WL.v (by first | exact r_eql rfl rfl (decide_eq_true (by omega)) | exact r_eql rfl rfl (decide_eq_false (by omega)) | exact r_eql rfl rfl rfl) rfl rfl rfl ?_
  -- R1.53 56 := frame.go:70 pick
  refine WL.v (by first | exact r_pickT (v := .bool _) rfl rfl | exact r_pickF (v := .bool _) rfl rfl) rfl rfl rfl ?_
  -- R1.54 57 := frame.go:70 move
  refine WL.v (by first | exact r_move (v := .bool _) rfl | exact r_move rfl) rfl rfl rfl ?_
  -- R1.55 58 := frame.go:70 move
  refine WL.v (by first | exact r_move (v := .pointer _) rfl | exact r_move rfl) rfl rfl rfl ?_
  -- R1.56 59 := frame.go:70 nilCheck
  refine WL.v (by exact r_nilCheck rfl) rfl rfl rfl ?_
  -- R1.57 60 := frame.go:70 fieldAddr
  refine WL.v (by exact r_field ty_fld39_8 rfl) rfl rfl rfl ?_
  -- R1.58 61 := frame.go:70 load
  refine WL.v (by first | exact r_load1 ty_one30 rfl (hr [] _ st 8 (by decide)) | exact r_load1 ty_one30 rfl (hr _ _ st 8 (by decide)) | exact r_load1 ty_one30 rfl (hr [_] _ st 8 (by decide)) | exact r_load1 ty_one30 rfl (hr [_, _] _ st 8 (by decide)) | exact r_load1 ty_one30 rfl (hr [_, _, _] _ st 8 (by decide))) rfl rfl rfl ?_
  -- R1.59 62 := frame.go:70 binOp
  refine WL.v (by first | exact r_eql rfl rfl (decide_eq_true (by omega)) | exact r_eql rfl rfl (decide_eq_false (by omega)) | exact r_eql rfl rfl rfl) rfl rfl rfl ?_
  -- R1.60 63 := frame.go:70 pick
  refine WL.v (by first | exact r_pickT (v := .bool _) rfl rfl | exact r_pickF (v := .bool _) rfl rfl) rfl rfl rfl ?_
  -- R1.61 64 := frame.go:70 move
  refine WL.v (by first | exact r_move (v := .bool _) rfl | exact r_move rfl) rfl rfl rfl ?_
  -- R1.62 65 := frame.go:70 move
  refine WL.v (by first | exact r_move (v := .pointer _) rfl | exact r_move rfl) rfl rfl rfl ?_
  -- R1.63 66 := frame.go:70 nilCheck
  refine WL.v (by exact r_nilCheck rfl) rfl rfl rfl ?_
  -- R1.64 67 := frame.go:70 fieldAddr
  refine WL.v (by exact r_field ty_fld39_9 rfl) rfl rfl rfl ?_
  -- R1.65 68 := frame.go:70 load
  refine WL.v (by first | exact r_load1 ty_one25 rfl (hr [] _ st 9 (by decide)) | exact r_load1 ty_one25 rfl (hr _ _ st 9 (by decide)) | exact r_load1 ty_one25 rfl (hr [_] _ st 9 (by decide)) | exact r_load1 ty_one25 rfl (hr [_, _] _ st 9 (by decide)) | exact r_load1 ty_one25 rfl (hr [_, _, _] _ st 9 (by decide))) rfl rfl rfl ?_
  -- R1.66 69 := frame.go:70 call
  refine WL.v (by exact r_len ty_usl25 rfl) rfl rfl rfl ?_
  -- R1.67 70 := frame.go:70 binOp
  refine WL.v (by first | exact r_eql rfl rfl (decide_eq_true (by omega)) | exact r_eql rfl rfl (decide_eq_false (by omega)) | exact r_eql rfl rfl rfl) rfl rfl rfl ?_
  -- R1.68 71 := frame.go:70 pick
  refine WL.v (by first | exact r_pickT (v := .bool _) rfl rfl | exact r_pickF (v := .bool _) rfl rfl) rfl rfl rfl ?_
  -- R1.69 2 := frame.go:70 assign
  refine WL.v (by first | exact r_assign (v := .bool _) rfl | exact r_assign rfl) rfl rfl rfl ?_
  refine WL.fin hK471 (fun _ _ h => h) ?_
  refine WC.ret1 Tryd.results71 (fun _ _ h => h) rfl ?_
  exact ⟨_, rfl, .inl ⟨rfl, c0, c1, c2, c3, c4, c5, c6, c7, c8, c9⟩, st⟩

theorem cf_sub {w : World} {b o n k m : Nat} {f g : Nat → Value} (h : CF w b o n f) (hk : k + m ≤ n) (he : (List.range m).map (fun i => f (k + i)) = (List.range m).map g) : CF w b (o + k) m g := fun i hi => by
  have := h (k + i) (by omega)
  rw [show o + k + i = o + (k + i) by omega, this]
  have e := congrArg (fun l => l[i]?) he
  simp [hi] at e
  rw [e]

set_option maxHeartbeats 8000000 in
set_option maxRecDepth 20000 in
theorem zIc_ok (b o : Nat) (y x : Nat → Int) (s : SV) (hx : IpR x) (hr : ∀ its w', S0 w0 (its ++ L) w' → CF w' b o 21 (nth (icL y x s.v))) (st : S0 w0 L w) :
    Calls Tryd.prog 72 #[.pointer (some ⟨b, o, none⟩)] w (Ret fun v w' => BoolIs v (zIc y x s.bs.length) ∧ S0 w0 L w') := by
  by_cases c0 : y 0 = 0
  case neg =>
    refine enter [.pointer (some ⟨b, o, none⟩)] Tryd.func72 rfl Tryd.ntmps72 rfl ?_
    show WC _ _ _ 35 [] [(0, .pointer (some ⟨b, o, none⟩))] _
    refine WC.seq fun K472 hK472 => ?_
    -- region 0
    refine WC.region ?_
    -- R0.0 2 := frame.go:75 assign
    refine WL.v (by first | exact r_assign (v := .bool _) rfl | exact r_assign rfl) rfl rfl rfl ?_
    refine WL.fin hK472 (fun _ _ h => h) ?_
    refine WC.seq fun K473 hK473 => ?_
    -- region 1
    refine WC.region ?_
    -- R1.0 3 := frame.go:76 move
    refine WL.v (by first | exact r_move (v := .pointer _) rfl | exact r_move rfl) rfl rfl rfl ?_
    -- R1.1 4 := frame.go:76 nilCheck
    refine WL.v (by exact r_nilCheck rfl) rfl rfl rfl ?_
    -- R1.2 5 := frame.go:76 fieldAddr
    refine WL.v (by exact r_field ty_fld41_0 rfl) rfl rfl rfl ?_
    -- R1.3 6 := frame.go:76 load
    refine WL.v (by first | exact r_load1 ty_one5 rfl (hr [] _ st 0 (by decide)) | exact r_load1 ty_one5 rfl (hr _ _ st 0 (by decide)) | exact r_load1 ty_one5 rfl (hr [_] _ st 0 (by decide)) | exact r_load1 ty_one5 rfl (hr [_, _] _ st 0 (by decide)) | exact r_load1 ty_one5 rfl (hr [_, _, _] _ st 0 (by decide))) rfl rfl rfl ?_
    -- R1.4 7 := frame.go:76 binOp
    refine WL.v (by first | exact r_eql rfl rfl (decide_eq_true (by omega)) | exact r_eql rfl rfl (decide_eq_false (by omega)) | exact r_eql rfl rfl rfl) rfl rfl rfl ?_
    -- R1.5 8 := frame.go:76 move
    refine WL.v (by first | exact r_move (v := .bool _) rfl | exact r_move rfl) rfl rfl rfl ?_
    -- R1.6 9 := frame.go:76 move
    refine WL.no rfl rfl ?_
    -- R1.7 10 := frame.go:76 nilCheck
    refine WL.no rfl rfl ?_
    -- R1.8 11 := frame.go:76 fieldAddr
    refine WL.no rfl rfl ?_
    -- R1.9 12 := frame.go:76 load
    refine WL.no rfl rfl ?_
    -- R1.10 13 := frame.go:76 binOp
    refine WL.no rfl rfl ?_
    -- R1.11 14 := frame.go:76 pick
    refine WL.v (by first | exact r_pickT (v := .bool _) rfl rfl | exact r_pickF (v := .bool _) rfl rfl) rfl rfl rfl ?_
    -- R1.12 15 := frame.go:76 move
    refine WL.v (by first | exact r_move (v := .bool _) rfl | exact r_move rfl) rfl rfl rfl ?_
    -- R1.13 16 := frame.go:76 move
    refine WL.no rfl rfl ?_
    -- R1.14 17 := frame.go:76 nilCheck
    refine WL.no rfl rfl ?_
    -- R1.15 18 := frame.go:76 fieldAddr
    refine WL.no rfl rfl ?_
    -- R1.16 19 := frame.go:76 load
    refine WL.no rfl rfl ?_
    -- R1.17 20 := frame.go:76 binOp
    refine WL.no rfl rfl ?_
    -- R1.18 21 := frame.go:76 pick
    refine WL.v (by first | exact r_pickT (v := .bool _) rfl rfl | exact r_pickF (v := .bool _) rfl rfl) rfl rfl rfl ?_
    -- R1.19 22 := frame.go:76 move
    refine WL.v (by first | exact r_move (v := .bool _) rfl | exact r_move rfl) rfl rfl rfl ?_
    -- R1.20 23 := frame.go:76 move
    refine WL.no rfl rfl ?_
    -- R1.21 24 := frame.go:76 nilCheck
    refine WL.no rfl rfl ?_
    -- R1.22 25 := frame.go:76 fieldAddr
    refine WL.no rfl rfl ?_
    -- R1.23 26 := frame.go:76 load
    refine WL.no rfl rfl ?_
    -- R1.24 27 := frame.go:76 binOp
    refine WL.no rfl rfl ?_
    -- R1.25 28 := frame.go:76 pick
    refine WL.v (by first | exact r_pickT (v := .bool _) rfl rfl | exact r_pickF (v := .bool _) rfl rfl) rfl rfl rfl ?_
    -- R1.26 29 := frame.go:76 move
    refine WL.v (by first | exact r_move (v := .bool _) rfl | exact r_move rfl) rfl rfl rfl ?_
    -- R1.27 30 := frame.go:76 move
    refine WL.no rfl rfl ?_
    -- R1.28 31 := frame.go:76 nilCheck
    refine WL.no rfl rfl ?_
    -- R1.29 32 := frame.go:76 fieldAddr
    refine WL.no rfl rfl ?_
    -- R1.30 33 := frame.go:76 call
    refine WL.no rfl rfl ?_
    -- R1.31 34 := frame.go:76 pick
    refine WL.v (by first | exact r_pickT (v := .bool _) rfl rfl | exact r_pickF (v := .bool _) rfl rfl) rfl rfl rfl ?_
    -- R1.32 2 := frame.go:76 assign
    refine WL.v (by first | exact r_assign (v := .bool _) rfl | exact r_assign rfl) rfl rfl rfl ?_
    refine WL.fin hK473 (fun _ _ h => h) ?_
    refine WC.ret1 Tryd.results72 (fun _ _ h => h) rfl ?_
    exact ⟨_, rfl, .inr ⟨rfl, fun h => by simp only [zIc] at h; omega⟩, st⟩
  by_cases c1 : y 1 = 0
  case neg =>
    refine enter [.pointer (some ⟨b, o, none⟩)] Tryd.func72 rfl Tryd.ntmps72 rfl ?_
    show WC _ _ _ 35 [] [(0, .pointer (some ⟨b, o, none⟩))] _
    refine WC.seq fun K474 hK474 => ?_
    -- region 0
    refine WC.region ?_
    -- R0.0 2 := frame.go:75 assign
    refine WL.v (by first | exact r_assign (v := .bool _) rfl | exact r_assign rfl) rfl rfl rfl ?_
    refine WL.fin hK474 (fun _ _ h => h) ?_
    refine WC.seq fun K475 hK475 => ?_
    -- region 1
    refine WC.region ?_
    -- R1.0 3 := frame.go:76 move
    refine WL.v (by first | exact r_move (v := .pointer _) rfl | exact r_move rfl) rfl rfl rfl ?_
    -- R1.1 4 := frame.go:76 nilCheck
    refine WL.v (by exact r_nilCheck rfl) rfl rfl rfl ?_
    -- R1.2 5 := frame.go:76 fieldAddr
    refine WL.v (by exact r_field ty_fld41_0 rfl) rfl rfl rfl ?_
    -- R1.3 6 := frame.go:76 load
    refine WL.v (by first | exact r_load1 ty_one5 rfl (hr [] _ st 0 (by decide)) | exact r_load1 ty_one5 rfl (hr _ _ st 0 (by decide)) | exact r_load1 ty_one5 rfl (hr [_] _ st 0 (by decide)) | exact r_load1 ty_one5 rfl (hr [_, _] _ st 0 (by decide)) | exact r_load1 ty_one5 rfl (hr [_, _, _] _ st 0 (by decide))) rfl rfl rfl ?_
    -- R1.4 7 := frame.go:76 binOp
    refine WL.v (by first | exact r_eql rfl rfl (decide_eq_true (by omega)) | exact r_eql rfl rfl (decide_eq_false (by omega)) | exact r_eql rfl rfl rfl) rfl rfl rfl ?_
    -- R1.5 8 := frame.go:76 move
    refine WL.v (by first | exact r_move (v := .bool _) rfl | exact r_move rfl) rfl rfl rfl ?_
    -- R1.6 9 := frame.go:76 move
    refine WL.v (by first | exact r_move (v := .pointer _) rfl | exact r_move rfl) rfl rfl rfl ?_
    -- R1.7 10 := frame.go:76 nilCheck
    refine WL.v (by exact r_nilCheck rfl) rfl rfl rfl ?_
    -- R1.8 11 := frame.go:76 fieldAddr
    refine WL.v (by exact r_field ty_fld41_1 rfl) rfl rfl rfl ?_
    -- R1.9 12 := frame.go:76 load
    refine WL.v (by first | exact r_load1 ty_one5 rfl (hr [] _ st 1 (by decide)) | exact r_load1 ty_one5 rfl (hr _ _ st 1 (by decide)) | exact r_load1 ty_one5 rfl (hr [_] _ st 1 (by decide)) | exact r_load1 ty_one5 rfl (hr [_, _] _ st 1 (by decide)) | exact r_load1 ty_one5 rfl (hr [_, _, _] _ st 1 (by decide))) rfl rfl rfl ?_
    -- R1.10 13 := frame.go:76 binOp
    refine WL.v (by first | exact r_eql rfl rfl (decide_eq_true (by omega)) | exact r_eql rfl rfl (decide_eq_false (by omega)) | exact r_eql rfl rfl rfl) rfl rfl rfl ?_
    -- R1.11 14 := frame.go:76 pick
    refine WL.v (by first | exact r_pickT (v := .bool _) rfl rfl | exact r_pickF (v := .bool _) rfl rfl) rfl rfl rfl ?_
    -- R1.12 15 := frame.go:76 move
    refine WL.v (by first | exact r_move (v := .bool _) rfl | exact r_move rfl) rfl rfl rfl ?_
    -- R1.13 16 := frame.go:76 move
    refine WL.no rfl rfl ?_
    -- R1.14 17 := frame.go:76 nilCheck
    refine WL.no rfl rfl ?_
    -- R1.15 18 := frame.go:76 fieldAddr
    refine WL.no rfl rfl ?_
    -- R1.16 19 := frame.go:76 load
    refine WL.no rfl rfl ?_
    -- R1.17 20 := frame.go:76 binOp
    refine WL.no rfl rfl ?_
    -- R1.18 21 := frame.go:76 pick
    refine WL.v (by first | exact r_pickT (v := .bool _) rfl rfl | exact r_pickF (v := .bool _) rfl rfl) rfl rfl rfl ?_
    -- R1.19 22 := frame.go:76 move
    refine WL.v (by first | exact r_move (v := .bool _) rfl | exact r_move rfl) rfl rfl rfl ?_
    -- R1.20 23 := frame.go:76 move
    refine WL.no rfl rfl ?_
    -- R1.21 24 := frame.go:76 nilCheck
    refine WL.no rfl rfl ?_
    -- R1.22 25 := frame.go:76 fieldAddr
    refine WL.no rfl rfl ?_
    -- R1.23 26 := frame.go:76 load
    refine WL.no rfl rfl ?_
    -- R1.24 27 := frame.go:76 binOp
    refine WL.no rfl rfl ?_
    -- R1.25 28 := frame.go:76 pick
    refine WL.v (by first | exact r_pickT (v := .bool _) rfl rfl | exact r_pickF (v := .bool _) rfl rfl) rfl rfl rfl ?_
    -- R1.26 29 := frame.go:76 move
    refine WL.v (by first | exact r_move (v := .bool _) rfl | exact r_move rfl) rfl rfl rfl ?_
    -- R1.27 30 := frame.go:76 move
    refine WL.no rfl rfl ?_
    -- R1.28 31 := frame.go:76 nilCheck
    refine WL.no rfl rfl ?_
    -- R1.29 32 := frame.go:76 fieldAddr
    refine WL.no rfl rfl ?_
    -- R1.30 33 := frame.go:76 call
    refine WL.no rfl rfl ?_
    -- R1.31 34 := frame.go:76 pick
    refine WL.v (by first | exact r_pickT (v := .bool _) rfl rfl | exact r_pickF (v := .bool _) rfl rfl) rfl rfl rfl ?_
    -- R1.32 2 := frame.go:76 assign
    refine WL.v (by first | exact r_assign (v := .bool _) rfl | exact r_assign rfl) rfl rfl rfl ?_
    refine WL.fin hK475 (fun _ _ h => h) ?_
    refine WC.ret1 Tryd.results72 (fun _ _ h => h) rfl ?_
    exact ⟨_, rfl, .inr ⟨rfl, fun h => by simp only [zIc] at h; omega⟩, st⟩
  by_cases c2 : y 2 = 0
  case neg =>
    refine enter [.pointer (some ⟨b, o, none⟩)] Tryd.func72 rfl Tryd.ntmps72 rfl ?_
    show WC _ _ _ 35 [] [(0, .pointer (some ⟨b, o, none⟩))] _
    refine WC.seq fun K476 hK476 => ?_
    -- region 0
    refine WC.region ?_
    -- R0.0 2 := frame.go:75 assign
    refine WL.v (by first | exact r_assign (v := .bool _) rfl | exact r_assign rfl) rfl rfl rfl ?_
    refine WL.fin hK476 (fun _ _ h => h) ?_
    refine WC.seq fun K477 hK477 => ?_
    -- region 1
    refine WC.region ?_
    -- R1.0 3 := frame.go:76 move
    refine WL.v (by first | exact r_move (v := .pointer _) rfl | exact r_move rfl) rfl rfl rfl ?_
    -- R1.1 4 := frame.go:76 nilCheck
    refine WL.v (by exact r_nilCheck rfl) rfl rfl rfl ?_
    -- R1.2 5 := frame.go:76 fieldAddr
    refine WL.v (by exact r_field ty_fld41_0 rfl) rfl rfl rfl ?_
    -- R1.3 6 := frame.go:76 load
    refine WL.v (by first | exact r_load1 ty_one5 rfl (hr [] _ st 0 (by decide)) | exact r_load1 ty_one5 rfl (hr _ _ st 0 (by decide)) | exact r_load1 ty_one5 rfl (hr [_] _ st 0 (by decide)) | exact r_load1 ty_one5 rfl (hr [_, _] _ st 0 (by decide)) | exact r_load1 ty_one5 rfl (hr [_, _, _] _ st 0 (by decide))) rfl rfl rfl ?_
    -- R1.4 7 := frame.go:76 binOp
    refine WL.v (by first | exact r_eql rfl rfl (decide_eq_true (by omega)) | exact r_eql rfl rfl (decide_eq_false (by omega)) | exact r_eql rfl rfl rfl) rfl rfl rfl ?_
    -- R1.5 8 := frame.go:76 move
    refine WL.v (by first | exact r_move (v := .bool _) rfl | exact r_move rfl) rfl rfl rfl ?_
    -- R1.6 9 := frame.go:76 move
    refine WL.v (by first | exact r_move (v := .pointer _) rfl | exact r_move rfl) rfl rfl rfl ?_
    -- R1.7 10 := frame.go:76 nilCheck
    refine WL.v (by exact r_nilCheck rfl) rfl rfl rfl ?_
    -- R1.8 11 := frame.go:76 fieldAddr
    refine WL.v (by exact r_field ty_fld41_1 rfl) rfl rfl rfl ?_
    -- R1.9 12 := frame.go:76 load
    refine WL.v (by first | exact r_load1 ty_one5 rfl (hr [] _ st 1 (by decide)) | exact r_load1 ty_one5 rfl (hr _ _ st 1 (by decide)) | exact r_load1 ty_one5 rfl (hr [_] _ st 1 (by decide)) | exact r_load1 ty_one5 rfl (hr [_, _] _ st 1 (by decide)) | exact r_load1 ty_one5 rfl (hr [_, _, _] _ st 1 (by decide))) rfl rfl rfl ?_
    -- R1.10 13 := frame.go:76 binOp
    refine WL.v (by first | exact r_eql rfl rfl (decide_eq_true (by omega)) | exact r_eql rfl rfl (decide_eq_false (by omega)) | exact r_eql rfl rfl rfl) rfl rfl rfl ?_
    -- R1.11 14 := frame.go:76 pick
    refine WL.v (by first | exact r_pickT (v := .bool _) rfl rfl | exact r_pickF (v := .bool _) rfl rfl) rfl rfl rfl ?_
    -- R1.12 15 := frame.go:76 move
    refine WL.v (by first | exact r_move (v := .bool _) rfl | exact r_move rfl) rfl rfl rfl ?_
    -- R1.13 16 := frame.go:76 move
    refine WL.v (by first | exact r_move (v := .pointer _) rfl | exact r_move rfl) rfl rfl rfl ?_
    -- R1.14 17 := frame.go:76 nilCheck
    refine WL.v (by exact r_nilCheck rfl) rfl rfl rfl ?_
    -- R1.15 18 := frame.go:76 fieldAddr
    refine WL.v (by exact r_field ty_fld41_2 rfl) rfl rfl rfl ?_
    -- R1.16 19 := frame.go:76 load
    refine WL.v (by first | exact r_load1 ty_one30 rfl (hr [] _ st 2 (by decide)) | exact r_load1 ty_one30 rfl (hr _ _ st 2 (by decide)) | exact r_load1 ty_one30 rfl (hr [_] _ st 2 (by decide)) | exact r_load1 ty_one30 rfl (hr [_, _] _ st 2 (by decide)) | exact r_load1 ty_one30 rfl (hr [_, _, _] _ st 2 (by decide))) rfl rfl rfl ?_
    -- R1.17 20 := frame.go:76 binOp
    refine WL.v (by first | exact r_eql rfl rfl (decide_eq_true (by omega)) | exact r_eql rfl rfl (decide_eq_false (by omega)) | exact r_eql rfl rfl rfl) rfl rfl rfl ?_
    -- R1.18 21 := frame.go:76 pick
    refine WL.v (by first | exact r_pickT (v := .bool _) rfl rfl | exact r_pickF (v := .bool _) rfl rfl) rfl rfl rfl ?_
    -- R1.19 22 := frame.go:76 move
    refine WL.v (by first | exact r_move (v := .bool _) rfl | exact r_move rfl) rfl rfl rfl ?_
    -- R1.20 23 := frame.go:76 move
    refine WL.no rfl rfl ?_
    -- R1.21 24 := frame.go:76 nilCheck
    refine WL.no rfl rfl ?_
    -- R1.22 25 := frame.go:76 fieldAddr
    refine WL.no rfl rfl ?_
    -- R1.23 26 := frame.go:76 load
    refine WL.no rfl rfl ?_
    -- R1.24 27 := frame.go:76 binOp
    refine WL.no rfl rfl ?_
    -- R1.25 28 := frame.go:76 pick
    refine WL.v (by first | exact r_pickT (v := .bool _) rfl rfl | exact r_pickF (v := .bool _) rfl rfl) rfl rfl rfl ?_
    -- R1.26 29 := frame.go:76 move
    refine WL.v (by first | exact r_move (v := .bool _) rfl | exact r_move rfl) rfl rfl rfl ?_
    -- R1.27 30 := frame.go:76 move
    refine WL.no rfl rfl ?_
    -- R1.28 31 := frame.go:76 nilCheck
    refine WL.no rfl rfl ?_
    -- R1.29 32 := frame.go:76 fieldAddr
    refine WL.no rfl rfl ?_
    -- R1.30 33 := frame.go:76 call
    refine WL.no rfl rfl ?_
    -- R1.31 34 := frame.go:76 pick
    refine WL.v (by first | exact r_pickT (v := .bool _) rfl rfl | exact r_pickF (v := .bool _) rfl rfl) rfl rfl rfl ?_
    -- R1.32 2 := frame.go:76 assign
    refine WL.v (by first | exact r_assign (v := .bool _) rfl | exact r_assign rfl) rfl rfl rfl ?_
    refine WL.fin hK477 (fun _ _ h => h) ?_
    refine WC.ret1 Tryd.results72 (fun _ _ h => h) rfl ?_
    exact ⟨_, rfl, .inr ⟨rfl, fun h => by simp only [zIc] at h; omega⟩, st⟩
  by_cases c3 : y 3 = 0
  case neg =>
    refine enter [.pointer (some ⟨b, o, none⟩)] Tryd.func72 rfl Tryd.ntmps72 rfl ?_
    show WC _ _ _ 35 [] [(0, .pointer (some ⟨b, o, none⟩))] _
    refine WC.seq fun K478 hK478 => ?_
    -- region 0
    refine WC.region ?_
    -- R0.0 2 := frame.go:75 assign
    refine WL.v (by first | exact r_assign (v := .bool _) rfl | exact r_assign rfl) rfl rfl rfl ?_
    refine WL.fin hK478 (fun _ _ h => h) ?_
    refine WC.seq fun K479 hK479 => ?_
    -- region 1
    refine WC.region ?_
    -- R1.0 3 := frame.go:76 move
    refine WL.v (by first | exact r_move (v := .pointer _) rfl | exact r_move rfl) rfl rfl rfl ?_
    -- R1.1 4 := frame.go:76 nilCheck
    refine WL.v (by exact r_nilCheck rfl) rfl rfl rfl ?_
    -- R1.2 5 := frame.go:76 fieldAddr
    refine WL.v (by exact r_field ty_fld41_0 rfl) rfl rfl rfl ?_
    -- R1.3 6 := frame.go:76 load
    refine WL.v (by first | exact r_load1 ty_one5 rfl (hr [] _ st 0 (by decide)) | exact r_load1 ty_one5 rfl (hr _ _ st 0 (by decide)) | exact r_load1 ty_one5 rfl (hr [_] _ st 0 (by decide)) | exact r_load1 ty_one5 rfl (hr [_, _] _ st 0 (by decide)) | exact r_load1 ty_one5 rfl (hr [_, _, _] _ st 0 (by decide))) rfl rfl rfl ?_
    -- R1.4 7 := frame.go:76 binOp
    refine WL.v (by first | exact r_eql rfl rfl (decide_eq_true (by omega)) | exact r_eql rfl rfl (decide_eq_false (by omega)) | exact r_eql rfl rfl rfl) rfl rfl rfl ?_
    -- R1.5 8 := frame.go:76 move
    refine WL.v (by first | exact r_move (v := .bool _) rfl | exact r_move rfl) rfl rfl rfl ?_
    -- R1.6 9 := frame.go:76 move
    refine WL.v (by first | exact r_move (v := .pointer _) rfl | exact r_move rfl) rfl rfl rfl ?_
    -- R1.7 10 := frame.go:76 nilCheck
    refine WL.v (by exact r_nilCheck rfl) rfl rfl rfl ?_
    -- R1.8 11 := frame.go:76 fieldAddr
    refine WL.v (by exact r_field ty_fld41_1 rfl) rfl rfl rfl ?_
    -- R1.9 12 := frame.go:76 load
    refine WL.v (by first | exact r_load1 ty_one5 rfl (hr [] _ st 1 (by decide)) | exact r_load1 ty_one5 rfl (hr _ _ st 1 (by decide)) | exact r_load1 ty_one5 rfl (hr [_] _ st 1 (by decide)) | exact r_load1 ty_one5 rfl (hr [_, _] _ st 1 (by decide)) | exact r_load1 ty_one5 rfl (hr [_, _, _] _ st 1 (by decide))) rfl rfl rfl ?_
    -- R1.10 13 := frame.go:76 binOp
    refine WL.v (by first | exact r_eql rfl rfl (decide_eq_true (by omega)) | exact r_eql rfl rfl (decide_eq_false (by omega)) | exact r_eql rfl rfl rfl) rfl rfl rfl ?_
    -- R1.11 14 := frame.go:76 pick
    refine WL.v (by first | exact r_pickT (v := .bool _) rfl rfl | exact r_pickF (v := .bool _) rfl rfl) rfl rfl rfl ?_
    -- R1.12 15 := frame.go:76 move
    refine WL.v (by first | exact r_move (v := .bool _) rfl | exact r_move rfl) rfl rfl rfl ?_
    -- R1.13 16 := frame.go:76 move
    refine WL.v (by first | exact r_move (v := .pointer _) rfl | exact r_move rfl) rfl rfl rfl ?_
    -- R1.14 17 := frame.go:76 nilCheck
    refine WL.v (by exact r_nilCheck rfl) rfl rfl rfl ?_
    -- R1.15 18 := frame.go:76 fieldAddr
    refine WL.v (by exact r_field ty_fld41_2 rfl) rfl rfl rfl ?_
    -- R1.16 19 := frame.go:76 load
    refine WL.v (by first | exact r_load1 ty_one30 rfl (hr [] _ st 2 (by decide)) | exact r_load1 ty_one30 rfl (hr _ _ st 2 (by decide)) | exact r_load1 ty_one30 rfl (hr [_] _ st 2 (by decide)) | exact r_load1 ty_one30 rfl (hr [_, _] _ st 2 (by decide)) | exact r_load1 ty_one30 rfl (hr [_, _, _] _ st 2 (by decide))) rfl rfl rfl ?_
    -- R1.17 20 := frame.go:76 binOp
    refine WL.v (by first | exact r_eql rfl rfl (decide_eq_true (by omega)) | exact r_eql rfl rfl (decide_eq_false (by omega)) | exact r_eql rfl rfl rfl) rfl rfl rfl ?_
    -- R1.18 21 := frame.go:76 pick
    refine WL.v (by first | exact r_pickT (v := .bool _) rfl rfl | exact r_pickF (v := .bool _) rfl rfl) rfl rfl rfl ?_
    -- R1.19 22 := frame.go:76 move
    refine WL.v (by first | exact r_move (v := .bool _) rfl | exact r_move rfl) rfl rfl rfl ?_
    -- R1.20 23 := frame.go:76 move
    refine WL.v (by first | exact r_move (v := .pointer _) rfl | exact r_move rfl) rfl rfl rfl ?_
    -- R1.21 24 := frame.go:76 nilCheck
    refine WL.v (by exact r_nilCheck rfl) rfl rfl rfl ?_
    -- R1.22 25 := frame.go:76 fieldAddr
    refine WL.v (by exact r_field ty_fld41_3 rfl) rfl rfl rfl ?_
    -- R1.23 26 := frame.go:76 load
    refine WL.v (by first | exact r_load1 ty_one37 rfl (hr [] _ st 3 (by decide)) | exact r_load1 ty_one37 rfl (hr _ _ st 3 (by decide)) | exact r_load1 ty_one37 rfl (hr [_] _ st 3 (by decide)) | exact r_load1 ty_one37 rfl (hr [_, _] _ st 3 (by decide)) | exact r_load1 ty_one37 rfl (hr [_, _, _] _ st 3 (by decide))) rfl rfl rfl ?_
    -- R1.24 27 := frame.go:76 binOp
    refine WL.v (by first | exact r_eql rfl rfl (decide_eq_true (by omega)) | exact r_eql rfl rfl (decide_eq_false (by omega)) | exact r_eql rfl rfl rfl) rfl rfl rfl ?_
    -- R1.25 28 := frame.go:76 pick
    refine WL.v (by first | exact r_pickT (v := .bool _) rfl rfl | exact r_pickF (v := .bool _) rfl rfl) rfl rfl rfl ?_
    -- R1.26 29 := frame.go:76 move
    refine WL.v (by first | exact r_move (v := .bool _) rfl | exact r_move rfl) rfl rfl rfl ?_
    -- R1.27 30 := frame.go:76 move
    refine WL.no rfl rfl ?_
    -- R1.28 31 := frame.go:76 nilCheck
    refine WL.no rfl rfl ?_
    -- R1.29 32 := frame.go:76 fieldAddr
    refine WL.no rfl rfl ?_
    -- R1.30 33 := frame.go:76 call
    refine WL.no rfl rfl ?_
    -- R1.31 34 := frame.go:76 pick
    refine WL.v (by first | exact r_pickT (v := .bool _) rfl rfl | exact r_pickF (v := .bool _) rfl rfl) rfl rfl rfl ?_
    -- R1.32 2 := frame.go:76 assign
    refine WL.v (by first | exact r_assign (v := .bool _) rfl | exact r_assign rfl) rfl rfl rfl ?_
    refine WL.fin hK479 (fun _ _ h => h) ?_
    refine WC.ret1 Tryd.results72 (fun _ _ h => h) rfl ?_
    exact ⟨_, rfl, .inr ⟨rfl, fun h => by simp only [zIc] at h; omega⟩, st⟩
  refine enter [.pointer (some ⟨b, o, none⟩)] Tryd.func72 rfl Tryd.ntmps72 rfl ?_
  show WC _ _ _ 35 [] [(0, .pointer (some ⟨b, o, none⟩))] _
  refine WC.seq fun K480 hK480 => ?_
  -- region 0
  refine WC.region ?_
  -- R0.0 2 := frame.go:75 assign
  refine WL.v (by first | exact r_assign (v := .bool _) rfl | exact r_assign rfl) rfl rfl rfl ?_
  refine WL.fin hK480 (fun _ _ h => h) ?_
  refine WC.seq fun K481 hK481 => ?_
  -- region 1
  refine WC.region ?_
  -- R1.0 3 := frame.go:76 move
  refine WL.v (by first | exact r_move (v := .pointer _) rfl | exact r_move rfl) rfl rfl rfl ?_
  -- R1.1 4 := frame.go:76 nilCheck
  refine WL.v (by exact r_nilCheck rfl) rfl rfl rfl ?_
  -- R1.2 5 := frame.go:76 fieldAddr
  refine WL.v (by exact r_field ty_fld41_0 rfl) rfl rfl rfl ?_
  -- R1.3 6 := frame.go:76 load
  refine WL.v (by first | exact r_load1 ty_one5 rfl (hr [] _ st 0 (by decide)) | exact r_load1 ty_one5 rfl (hr _ _ st 0 (by decide)) | exact r_load1 ty_one5 rfl (hr [_] _ st 0 (by decide)) | exact r_load1 ty_one5 rfl (hr [_, _] _ st 0 (by decide)) | exact r_load1 ty_one5 rfl (hr [_, _, _] _ st 0 (by decide))) rfl rfl rfl ?_
  -- R1.4 7 := frame.go:76 binOp
  refine WL.v (by first | exact r_eql rfl rfl (decide_eq_true (by omega)) | exact r_eql rfl rfl (decide_eq_false (by omega)) | exact r_eql rfl rfl rfl) rfl rfl rfl ?_
  -- R1.5 8 := frame.go:76 move
  refine WL.v (by first | exact r_move (v := .bool _) rfl | exact r_move rfl) rfl rfl rfl ?_
  -- R1.6 9 := frame.go:76 move
  refine WL.v (by first | exact r_move (v := .pointer _) rfl | exact r_move rfl) rfl rfl rfl ?_
  -- R1.7 10 := frame.go:76 nilCheck
  refine WL.v (by exact r_nilCheck rfl) rfl rfl rfl ?_
  -- R1.8 11 := frame.go:76 fieldAddr
  refine WL.v (by exact r_field ty_fld41_1 rfl) rfl rfl rfl ?_
  -- R1.9 12 := frame.go:76 load
  refine WL.v (by first | exact r_load1 ty_one5 rfl (hr [] _ st 1 (by decide)) | exact r_load1 ty_one5 rfl (hr _ _ st 1 (by decide)) | exact r_load1 ty_one5 rfl (hr [_] _ st 1 (by decide)) | exact r_load1 ty_one5 rfl (hr [_, _] _ st 1 (by decide)) | exact r_load1 ty_one5 rfl (hr [_, _, _] _ st 1 (by decide))) rfl rfl rfl ?_
  -- R1.10 13 := frame.go:76 binOp
  refine WL.v (by first | exact r_eql rfl rfl (decide_eq_true (by omega)) | exact r_eql rfl rfl (decide_eq_false (by omega)) | exact r_eql rfl rfl rfl) rfl rfl rfl ?_
  -- R1.11 14 := frame.go:76 pick
  refine WL.v (by first | exact r_pickT (v := .bool _) rfl rfl | exact r_pickF (v := .bool _) rfl rfl) rfl rfl rfl ?_
  -- R1.12 15 := frame.go:76 move
  refine WL.v (by first | exact r_move (v := .bool _) rfl | exact r_move rfl) rfl rfl rfl ?_
  -- R1.13 16 := frame.go:76 move
  refine WL.v (by first | exact r_move (v := .pointer _) rfl | exact r_move rfl) rfl rfl rfl ?_
  -- R1.14 17 := frame.go:76 nilCheck
  refine WL.v (by exact r_nilCheck rfl) rfl rfl rfl ?_
  -- R1.15 18 := frame.go:76 fieldAddr
  refine WL.v (by exact r_field ty_fld41_2 rfl) rfl rfl rfl ?_
  -- R1.16 19 := frame.go:76 load
  refine WL.v (by first | exact r_load1 ty_one30 rfl (hr [] _ st 2 (by decide)) | exact r_load1 ty_one30 rfl (hr _ _ st 2 (by decide)) | exact r_load1 ty_one30 rfl (hr [_] _ st 2 (by decide)) | exact r_load1 ty_one30 rfl (hr [_, _] _ st 2 (by decide)) | exact r_load1 ty_one30 rfl (hr [_, _, _] _ st 2 (by decide))) rfl rfl rfl ?_
  -- R1.17 20 := frame.go:76 binOp
  refine WL.v (by first | exact r_eql rfl rfl (decide_eq_true (by omega)) | exact r_eql rfl rfl (decide_eq_false (by omega)) | exact r_eql rfl rfl rfl) rfl rfl rfl ?_
  -- R1.18 21 := frame.go:76 pick
  refine WL.v (by first | exact r_pickT (v := .bool _) rfl rfl | exact r_pickF (v := .bool _) rfl rfl) rfl rfl rfl ?_
  -- R1.19 22 := frame.go:76 move
  refine WL.v (by first | exact r_move (v := .bool _) rfl | exact r_move rfl) rfl rfl rfl ?_
  -- R1.20 23 := frame.go:76 move
  refine WL.v (by first | exact r_move (v := .pointer _) rfl | exact r_move rfl) rfl rfl rfl ?_
  -- R1.21 24 := frame.go:76 nilCheck
  refine WL.v (by exact r_nilCheck rfl) rfl rfl rfl ?_
  -- R1.22 25 := frame.go:76 fieldAddr
  refine WL.v (by exact r_field ty_fld41_3 rfl) rfl rfl rfl ?_
  -- R1.23 26 := frame.go:76 load
  refine WL.v (by first | exact r_load1 ty_one37 rfl (hr [] _ st 3 (by decide)) | exact r_load1 ty_one37 rfl (hr _ _ st 3 (by decide)) | exact r_load1 ty_one37 rfl (hr [_] _ st 3 (by decide)) | exact r_load1 ty_one37 rfl (hr [_, _] _ st 3 (by decide)) | exact r_load1 ty_one37 rfl (hr [_, _, _] _ st 3 (by decide))) rfl rfl rfl ?_
  -- R1.24 27 := frame.go:76 binOp
  refine WL.v (by first | exact r_eql rfl rfl (decide_eq_true (by omega)) | exact r_eql rfl rfl (decide_eq_false (by omega)) | exact r_eql rfl rfl rfl) rfl rfl rfl ?_
  -- R1.25 28 := frame.go:76 pick
  refine WL.v (by first | exact r_pickT (v := .bool _) rfl rfl | exact r_pickF (v := .bool _) rfl rfl) rfl rfl rfl ?_
  -- R1.26 29 := frame.go:76 move
  refine WL.v (by first | exact r_move (v := .bool _) rfl | exact r_move rfl) rfl rfl rfl ?_
  -- R1.27 30 := frame.go:76 move
  refine WL.v (by first | exact r_move (v := .pointer _) rfl | exact r_move rfl) rfl rfl rfl ?_
  -- R1.28 31 := frame.go:76 nilCheck
  refine WL.v (by exact r_nilCheck rfl) rfl rfl rfl ?_
  -- R1.29 32 := frame.go:76 fieldAddr
  refine WL.v (by exact r_field ty_fld41_4 rfl) rfl rfl rfl ?_
  -- R1.30 33 := frame.go:76 call
  refine WL.call (r_call ty_call70 rfl) rfl rfl rfl (zIp_ok b (o + 4) x s hx (fun its w' q => cf_sub (k := 4) (hr its w' q) (by decide) rfl) st) ?_
  rintro fv w ⟨hf, st⟩
  obtain ⟨tt, rfl, hf2⟩ := BoolIs.t hf
  -- R1.31 34 := frame.go:76 pick
  refine WL.v (by first | exact r_pickT (v := .bool _) rfl rfl | exact r_pickF (v := .bool _) rfl rfl) rfl rfl rfl ?_
  -- R1.32 2 := frame.go:76 assign
  refine WL.v (by first | exact r_assign (v := .bool _) rfl | exact r_assign rfl) rfl rfl rfl ?_
  refine WL.fin hK481 (fun _ _ h => h) ?_
  refine WC.ret1 Tryd.results72 (fun _ _ h => h) rfl ?_
  exact ⟨_, rfl, BoolIs.of ⟨fun h => ⟨c0, c1, c2, c3, hf2.1 h⟩, fun h => hf2.2 h.2.2.2.2⟩, st⟩

theorem tcpLen_ok (b o : Nat) (x : Nat → Int) (s : SV) (hl : s.bs.length ≤ 1000000000) (hr : ∀ its w', S0 w0 (its ++ L) w' → CF w' b o 10 (nth (tcpL x s.v))) (st : S0 w0 L w) :
    Calls Tryd.prog 58 #[.pointer (some ⟨b, o, none⟩)] w (Ret fun v w' => v = .int .i64 ((20 + s.bs.length : Nat) : Int) ∧ S0 w0 L w') := by
  refine enter [.pointer (some ⟨b, o, none⟩)] Tryd.func58 rfl Tryd.ntmps58 rfl ?_
  show WC _ _ _ 9 [] [(0, .pointer (some ⟨b, o, none⟩))] _
  refine WC.seq fun K482 hK482 => ?_
  -- region 0
  refine WC.region ?_
  -- R0.0 2 := tcp.go:10 assign
  refine WL.v (by first | exact r_assign (v := .int _ _) rfl | exact r_assign rfl) rfl rfl rfl ?_
  refine WL.fin hK482 (fun _ _ h => h) ?_
  refine WC.seq fun K483 hK483 => ?_
  -- region 1
  refine WC.region ?_
  -- R1.0 3 := tcp.go:11 move
  refine WL.v (by first | exact r_move (v := .pointer _) rfl | exact r_move rfl) rfl rfl rfl ?_
  -- R1.1 4 := tcp.go:11 nilCheck
  refine WL.v (by exact r_nilCheck rfl) rfl rfl rfl ?_
  -- R1.2 5 := tcp.go:11 fieldAddr
  refine WL.v (by exact r_field ty_fld39_9 rfl) rfl rfl rfl ?_
  -- R1.3 6 := tcp.go:11 load
  refine WL.v (by first | exact r_load1 ty_one25 rfl (hr [] _ st 9 (by decide)) | exact r_load1 ty_one25 rfl (hr _ _ st 9 (by decide)) | exact r_load1 ty_one25 rfl (hr [_] _ st 9 (by decide)) | exact r_load1 ty_one25 rfl (hr [_, _] _ st 9 (by decide)) | exact r_load1 ty_one25 rfl (hr [_, _, _] _ st 9 (by decide))) rfl rfl rfl ?_
  -- R1.4 7 := tcp.go:11 call
  refine WL.v (by exact r_len ty_usl25 rfl) rfl rfl rfl ?_
  -- R1.5 8 := tcp.go:11 binOp
  refine WL.v (by exact r_add (r := ((20 + s.bs.length : Nat) : Int)) rfl rfl (by rw [wi64 (by omega) (by omega)]; omega)) rfl rfl rfl ?_
  -- R1.6 2 := tcp.go:11 assign
  refine WL.v (by first | exact r_assign (v := .int _ _) rfl | exact r_assign rfl) rfl rfl rfl ?_
  refine WL.fin hK483 (fun _ _ h => h) ?_
  refine WC.ret1 Tryd.results58 (fun _ _ h => h) rfl ?_
  exact ⟨_, rfl, rfl, st⟩

theorem icLen_ok (b o : Nat) (y x : Nat → Int) (s : SV) (hl : s.bs.length ≤ 1000000000) (hr : ∀ its w', S0 w0 (its ++ L) w' → CF w' b o 21 (nth (icL y x s.v))) (st : S0 w0 L w) :
    Calls Tryd.prog 76 #[.pointer (some ⟨b, o, none⟩)] w (Ret fun v w' => v = .int .i64 ((28 + s.bs.length : Nat) : Int) ∧ S0 w0 L w') := by
  refine enter [.pointer (some ⟨b, o, none⟩)] Tryd.func76 rfl Tryd.ntmps76 rfl ?_
  show WC _ _ _ 8 [] [(0, .pointer (some ⟨b, o, none⟩))] _
  refine WC.seq fun K484 hK484 => ?_
  -- region 0
  refine WC.region ?_
  -- R0.0 2 := icmp.go:22 assign
  refine WL.v (by first | exact r_assign (v := .int _ _) rfl | exact r_assign rfl) rfl rfl rfl ?_
  refine WL.fin hK484 (fun _ _ h => h) ?_
  refine WC.seq fun K485 hK485 => ?_
  -- region 1
  refine WC.region ?_
  -- R1.0 3 := icmp.go:23 move
  refine WL.v (by first | exact r_move (v := .pointer _) rfl | exact r_move rfl) rfl rfl rfl ?_
  -- R1.1 4 := icmp.go:23 nilCheck
  refine WL.v (by exact r_nilCheck rfl) rfl rfl rfl ?_
  -- R1.2 5 := icmp.go:23 fieldAddr
  refine WL.v (by exact r_field ty_fld41_4 rfl) rfl rfl rfl ?_
  -- R1.3 6 := icmp.go:23 call
  refine WL.call (r_call ty_call29 rfl) rfl rfl rfl (ipLen_ok b (o + 4) x s hl (fun its w' q => cf_sub (k := 4) (hr its w' q) (by decide) rfl) st) ?_
  rintro _ w ⟨rfl, st⟩
  -- R1.4 7 := icmp.go:23 binOp
  refine WL.v (by exact r_add (r := ((28 + s.bs.length : Nat) : Int)) rfl rfl (by rw [wi64 (by omega) (by omega)]; omega)) rfl rfl rfl ?_
  -- R1.5 2 := icmp.go:23 assign
  refine WL.v (by first | exact r_assign (v := .int _ _) rfl | exact r_assign rfl) rfl rfl rfl ?_
  refine WL.fin hK485 (fun _ _ h => h) ?_
  refine WC.ret1 Tryd.results76 (fun _ _ h => h) rfl ?_
  exact ⟨_, rfl, rfl, st⟩

theorem checkTcp_ok (hE : ErrOk w0 ET EU) (b o : Nat) (x : Nat → Int) (s : SV) (hl : s.bs.length ≤ 1000000000) (hr : ∀ its w', S0 w0 (its ++ L) w' → CF w' b o 10 (nth (tcpL x s.v))) (st : S0 w0 L w) :
    Calls Tryd.prog 74 #[.pointer (some ⟨b, o, none⟩)] w (Ret fun v w' => IfErr v (tcpP x s.bs.length) ∧ S0 w0 L w') := by
  by_cases h7 : 15 < x 4
  · skip
    refine enter [.pointer (some ⟨b, o, none⟩)] Tryd.func74 rfl Tryd.ntmps74 rfl ?_
    show WC _ _ _ 14 [] [(0, .pointer (some ⟨b, o, none⟩))] _
    refine WC.seq fun K486 hK486 => ?_
    -- region 0
    refine WC.region ?_
    -- R0.0 2 := tcp.go:42 assign
    refine WL.v (by first | exact r_assign (v := .nilIface) rfl | exact r_assign (v := .iface _ _) rfl | exact r_assign rfl) rfl rfl rfl ?_
    refine WL.fin hK486 (fun _ _ h => h) ?_
    refine WC.seq fun K487 hK487 => ?_
    refine WC.seq fun K488 hK488 => ?_
    -- region 1
    refine WC.region ?_
    -- R1.0 3 := tcp.go:43 move
    refine WL.v (by first | exact r_move (v := .pointer _) rfl | exact r_move rfl) rfl rfl rfl ?_
    -- R1.1 4 := tcp.go:43 nilCheck
    refine WL.v (by exact r_nilCheck rfl) rfl rfl rfl ?_
    -- R1.2 5 := tcp.go:43 fieldAddr
    refine WL.v (by exact r_field ty_fld39_4 rfl) rfl rfl rfl ?_
    -- R1.3 6 := tcp.go:43 load
    refine WL.v (by first | exact r_load1 ty_one5 rfl (hr [] _ st 4 (by decide)) | exact r_load1 ty_one5 rfl (hr _ _ st 4 (by decide)) | exact r_load1 ty_one5 rfl (hr [_] _ st 4 (by decide)) | exact r_load1 ty_one5 rfl (hr [_, _] _ st 4 (by decide)) | exact r_load1 ty_one5 rfl (hr [_, _, _] _ st 4 (by decide))) rfl rfl rfl ?_
    -- R1.4 7 := tcp.go:43 binOp
    refine WL.v (by first | exact r_gtr rfl rfl (decide_eq_true (by omega)) | exact r_gtr rfl rfl (decide_eq_false (by omega)) | exact r_gtr rfl rfl rfl) rfl rfl rfl ?_
    refine WL.fin hK488 (fun _ _ h => h) ?_
    refine WC.condT rfl rfl ?_
    refine WC.seq fun K489 hK489 => ?_
    -- region 2
    refine WC.region ?_
    -- R2.0 8 := tcp.go:44 load
    refine WL.v (by exact r_load1 ty_one47 rfl (st.old (fun h => h) (hE 16 (by decide)))) rfl rfl rfl ?_
    -- R2.1 2 := tcp.go:44 assign
    refine WL.v (by first | exact r_assign (v := .nilIface) rfl | exact r_assign (v := .iface _ _) rfl | exact r_assign rfl) rfl rfl rfl ?_
    refine WL.fin hK489 (fun _ _ h => h) ?_
    refine WC.ret1 Tryd.results74 (fun _ _ h => h) rfl ?_
    exact ⟨_, rfl, .inr ⟨⟨_, _, rfl⟩, fun h => by have := h.1; omega⟩, st⟩
  · skip
    refine enter [.pointer (some ⟨b, o, none⟩)] Tryd.func74 rfl Tryd.ntmps74 rfl ?_
    show WC _ _ _ 14 [] [(0, .pointer (some ⟨b, o, none⟩))] _
    refine WC.seq fun K490 hK490 => ?_
    -- region 0
    refine WC.region ?_
    -- R0.0 2 := tcp.go:42 assign
    refine WL.v (by first | exact r_assign (v := .nilIface) rfl | exact r_assign (v := .iface _ _) rfl | exact r_assign rfl) rfl rfl rfl ?_
    refine WL.fin hK490 (fun _ _ h => h) ?_
    refine WC.seq fun K491 hK491 => ?_
    refine WC.seq fun K492 hK492 => ?_
    -- region 1
    refine WC.region ?_
    -- R1.0 3 := tcp.go:43 move
    refine WL.v (by first | exact r_move (v := .pointer _) rfl | exact r_move rfl) rfl rfl rfl ?_
    -- R1.1 4 := tcp.go:43 nilCheck
    refine WL.v (by exact r_nilCheck rfl) rfl rfl rfl ?_
    -- R1.2 5 := tcp.go:43 fieldAddr
    refine WL.v (by exact r_field ty_fld39_4 rfl) rfl rfl rfl ?_
    -- R1.3 6 := tcp.go:43 load
    refine WL.v (by first | exact r_load1 ty_one5 rfl (hr [] _ st 4 (by decide)) | exact r_load1 ty_one5 rfl (hr _ _ st 4 (by decide)) | exact r_load1 ty_one5 rfl (hr [_] _ st 4 (by decide)) | exact r_load1 ty_one5 rfl (hr [_, _] _ st 4 (by decide)) | exact r_load1 ty_one5 rfl (hr [_, _, _] _ st 4 (by decide))) rfl rfl rfl ?_
    -- R1.4 7 := tcp.go:43 binOp
    refine WL.v (by first | exact r_gtr rfl rfl (decide_eq_true (by omega)) | exact r_gtr rfl rfl (decide_eq_false (by omega)) | exact r_gtr rfl rfl rfl) rfl rfl rfl ?_
    refine WL.fin hK492 (fun _ _ h => h) ?_
    refine WC.condF rfl rfl ?_
    refine WC.skipF hK491 (fun _ _ h => h) ?_
    refine WC.seq fun K493 hK493 => ?_
    -- region 3
    refine WC.region ?_
    -- R3.0 9 := tcp.go:46 move
    refine WL.v (by first | exact r_move (v := .pointer _) rfl | exact r_move rfl) rfl rfl rfl ?_
    -- R3.1 10 := tcp.go:46 nilCheck
    refine WL.v (by exact r_nilCheck rfl) rfl rfl rfl ?_
    -- R3.2 11 := tcp.go:46 fieldAddr
    refine WL.v (by exact r_field ty_fld39_9 rfl) rfl rfl rfl ?_
    -- R3.3 12 := tcp.go:46 load
    refine WL.v (by first | exact r_load1 ty_one25 rfl (hr [] _ st 9 (by decide)) | exact r_load1 ty_one25 rfl (hr _ _ st 9 (by decide)) | exact r_load1 ty_one25 rfl (hr [_] _ st 9 (by decide)) | exact r_load1 ty_one25 rfl (hr [_, _] _ st 9 (by decide)) | exact r_load1 ty_one25 rfl (hr [_, _, _] _ st 9 (by decide))) rfl rfl rfl ?_
    -- R3.4 13 := tcp.go:46 call
    refine WL.call (r_call ty_call73 rfl) rfl rfl rfl (checkOpt_ok hE s.a s.bs.length s.c hl st) ?_
    rintro ev w ⟨he, st⟩
    -- R3.5 2 := tcp.go:46 assign
    refine WL.v (by first | exact r_assign (v := .nilIface) rfl | exact r_assign (v := .iface _ _) rfl | exact r_assign rfl) rfl rfl rfl ?_
    refine WL.fin hK493 (fun _ _ h => h) ?_
    refine WC.ret1 Tryd.results74 (fun _ _ h => h) rfl ?_
    exact ⟨_, rfl, he.iff_ ⟨fun h => ⟨by omega, h⟩, fun h => h.2⟩, st⟩

theorem checkIc_ok (hE : ErrOk w0 ET EU) (b o : Nat) (y x : Nat → Int) (s q : SV) (hx : IpR x) (hl : s.bs.length ≤ 1000000000) (hq : q.bs.length ≤ 1000000000) (hr : ∀ its w', S0 w0 (its ++ L) w' → CF w' b o 21 (nth (icL y x s.v))) (st : S0 w0 L w) :
    Calls Tryd.prog 75 #[.pointer (some ⟨b, o, none⟩), .slice q.a q.bs.length q.c] w (Ret fun v w' => IfErr v (icP y x s.bs.length q.bs.length) ∧ S0 w0 L w') := by
  refine enter [.pointer (some ⟨b, o, none⟩), .slice q.a q.bs.length q.c] Tryd.func75 rfl Tryd.ntmps75 rfl ?_
  show WC _ _ _ 24 [] [(0, .pointer (some ⟨b, o, none⟩)), (1, .slice q.a q.bs.length q.c)] _
  refine WC.seq fun K494 hK494 => ?_
  -- region 0
  refine WC.region ?_
  -- R0.0 4 := icmp.go:50 assign
  refine WL.v (by first | exact r_assign (v := .nilIface) rfl | exact r_assign (v := .iface _ _) rfl | exact r_assign rfl) rfl rfl rfl ?_
  refine WL.fin hK494 (fun _ _ h => h) ?_
  refine WC.seq fun K495 hK495 => ?_
  refine WC.seq fun K496 hK496 => ?_
  -- region 1
  refine WC.region ?_
  -- R1.0 6 := icmp.go:51 move
  refine WL.v (by first | exact r_move (v := .pointer _) rfl | exact r_move rfl) rfl rfl rfl ?_
  -- R1.1 7 := icmp.go:51 nilCheck
  refine WL.v (by exact r_nilCheck rfl) rfl rfl rfl ?_
  -- R1.2 8 := icmp.go:51 fieldAddr
  refine WL.v (by exact r_field ty_fld41_0 rfl) rfl rfl rfl ?_
  -- R1.3 9 := icmp.go:51 load
  refine WL.v (by first | exact r_load1 ty_one5 rfl (hr [] _ st 0 (by decide)) | exact r_load1 ty_one5 rfl (hr _ _ st 0 (by decide)) | exact r_load1 ty_one5 rfl (hr [_] _ st 0 (by decide)) | exact r_load1 ty_one5 rfl (hr [_, _] _ st 0 (by decide)) | exact r_load1 ty_one5 rfl (hr [_, _, _] _ st 0 (by decide))) rfl rfl rfl ?_
  -- R1.4 10 := icmp.go:51 call
  refine WL.call (r_call ty_call48 rfl) rfl rfl rfl (icmpE_ok (y 0) st) ?_
  rintro fv w ⟨hf, st⟩
  obtain ⟨tt, rfl, hf2⟩ := BoolIs.t hf
  -- R1.5 11 := icmp.go:51 unOp
  refine WL.v (by first | exact r_notT rfl | exact r_notF rfl | exact r_not rfl) rfl rfl rfl ?_
  refine WL.fin hK496 (fun _ _ h => h) ?_
  rcases tt with _ | _
  · skip
    refine WC.condT rfl rfl ?_
    refine WC.seq fun K497 hK497 => ?_
    -- region 2
    refine WC.region ?_
    -- R2.0 12 := icmp.go:52 load
    refine WL.v (by exact r_load1 ty_one47 rfl (st.old (fun h => h) (hE 19 (by decide)))) rfl rfl rfl ?_
    -- R2.1 4 := icmp.go:52 assign
    refine WL.v (by first | exact r_assign (v := .nilIface) rfl | exact r_assign (v := .iface _ _) rfl | exact r_assign rfl) rfl rfl rfl ?_
    refine WL.fin hK497 (fun _ _ h => h) ?_
    refine WC.ret1 Tryd.results75 (fun _ _ h => h) rfl ?_
    exact ⟨_, rfl, .inr ⟨⟨_, _, rfl⟩, fun h => by have := hf2.2 h.1; cases this⟩, st⟩
  · skip
    refine WC.condF rfl rfl ?_
    refine WC.skipF hK495 (fun _ _ h => h) ?_
    refine WC.seq fun K498 hK498 => ?_
    refine WC.seq fun K499 hK499 => ?_
    -- region 3
    refine WC.region ?_
    -- R3.0 13 := icmp.go:54 move
    refine WL.v (by first | exact r_move (v := .pointer _) rfl | exact r_move rfl) rfl rfl rfl ?_
    -- R3.1 14 := icmp.go:54 nilCheck
    refine WL.v (by exact r_nilCheck rfl) rfl rfl rfl ?_
    -- R3.2 15 := icmp.go:54 fieldAddr
    refine WL.v (by exact r_field ty_fld41_4 rfl) rfl rfl rfl ?_
    -- R3.3 16 := icmp.go:54 call
    refine WL.call (r_call ty_call50 rfl) rfl rfl rfl (checkIp_ok hE b (o + 4) x s hx hl (fun its w' q => cf_sub (k := 4) (hr its w' q) (by decide) rfl) st) ?_
    rintro ev w ⟨he, st⟩
    -- R3.4 5 := icmp.go:54 assign
    refine WL.v (by first | exact r_assign (v := .nilIface) rfl | exact r_assign (v := .iface _ _) rfl | exact r_assign rfl) rfl rfl rfl ?_
    refine WL.fin hK499 (fun _ _ h => h) ?_
    rcases he with ⟨rfl, he⟩ | ⟨⟨T, u, rfl⟩, he⟩
    · skip
      refine WC.seq fun K500 hK500 => ?_
      -- region 4
      refine WC.region ?_
      -- R4.0 17 := icmp.go:54 move
      refine WL.v (by first | exact r_move (v := .nilIface) rfl | exact r_move (v := .iface _ _) rfl | exact r_move rfl) rfl rfl rfl ?_
      -- R4.1 18 := icmp.go:54 binOp
      refine WL.v (by first | exact r_nil_neq ty_ifc47 rfl | exact r_some_neq ty_ifc47 rfl) rfl rfl rfl ?_
      refine WL.fin hK500 (fun _ _ h => h) ?_
      by_cases h8 : q.bs.length < 8
      · skip
        refine WC.condF rfl rfl ?_
        refine WC.skipF hK498 (fun _ _ h => h) ?_
        refine WC.seq fun K501 hK501 => ?_
        refine WC.seq fun K502 hK502 => ?_
        -- region 6
        refine WC.region ?_
        -- R6.0 20 := icmp.go:57 move
        refine WL.v (by first | exact r_move (v := .slice _ _ _) rfl | exact r_move rfl) rfl rfl rfl ?_
        -- R6.1 21 := icmp.go:57 call
        refine WL.v (by exact r_len ty_usl25 rfl) rfl rfl rfl ?_
        -- R6.2 22 := icmp.go:57 binOp
        refine WL.v (by first | exact r_lss rfl rfl (decide_eq_true (by omega)) | exact r_lss rfl rfl (decide_eq_false (by omega)) | exact r_lss rfl rfl rfl) rfl rfl rfl ?_
        refine WL.fin hK502 (fun _ _ h => h) ?_
        refine WC.condT rfl rfl ?_
        refine WC.seq fun K503 hK503 => ?_
        -- region 7
        refine WC.region ?_
        -- R7.0 23 := icmp.go:58 load
        refine WL.v (by exact r_load1 ty_one47 rfl (st.old (fun h => h) (hE 20 (by decide)))) rfl rfl rfl ?_
        -- R7.1 4 := icmp.go:58 assign
        refine WL.v (by first | exact r_assign (v := .nilIface) rfl | exact r_assign (v := .iface _ _) rfl | exact r_assign rfl) rfl rfl rfl ?_
        refine WL.fin hK503 (fun _ _ h => h) ?_
        refine WC.ret1 Tryd.results75 (fun _ _ h => h) rfl ?_
        exact ⟨_, rfl, .inr ⟨⟨_, _, rfl⟩, fun h => by have := h.2.2; omega⟩, st⟩
      · skip
        refine WC.condF rfl rfl ?_
        refine WC.skipF hK498 (fun _ _ h => h) ?_
        refine WC.seq fun K504 hK504 => ?_
        refine WC.seq fun K505 hK505 => ?_
        -- region 6
        refine WC.region ?_
        -- R6.0 20 := icmp.go:57 move
        refine WL.v (by first | exact r_move (v := .slice _ _ _) rfl | exact r_move rfl) rfl rfl rfl ?_
        -- R6.1 21 := icmp.go:57 call
        refine WL.v (by exact r_len ty_usl25 rfl) rfl rfl rfl ?_
        -- R6.2 22 := icmp.go:57 binOp
        refine WL.v (by first | exact r_lss rfl rfl (decide_eq_true (by omega)) | exact r_lss rfl rfl (decide_eq_false (by omega)) | exact r_lss rfl rfl rfl) rfl rfl rfl ?_
        refine WL.fin hK505 (fun _ _ h => h) ?_
        refine WC.condF rfl rfl ?_
        refine WC.skipF hK504 (fun _ _ h => h) ?_
        refine WC.seq fun K506 hK506 => ?_
        -- region 8
        refine WC.region ?_
        -- R8.0 4 := icmp.go:60 assign
        refine WL.v (by first | exact r_assign (v := .nilIface) rfl | exact r_assign (v := .iface _ _) rfl | exact r_assign rfl) rfl rfl rfl ?_
        refine WL.fin hK506 (fun _ _ h => h) ?_
        refine WC.ret1 Tryd.results75 (fun _ _ h => h) rfl ?_
        exact ⟨_, rfl, .inl ⟨rfl, hf2.1 rfl, he, by omega⟩, st⟩
    · skip
      refine WC.seq fun K507 hK507 => ?_
      -- region 4
      refine WC.region ?_
      -- R4.0 17 := icmp.go:54 move
      refine WL.v (by first | exact r_move (v := .nilIface) rfl | exact r_move (v := .iface _ _) rfl | exact r_move rfl) rfl rfl rfl ?_
      -- R4.1 18 := icmp.go:54 binOp
      refine WL.v (by first | exact r_nil_neq ty_ifc47 rfl | exact r_some_neq ty_ifc47 rfl) rfl rfl rfl ?_
      refine WL.fin hK507 (fun _ _ h => h) ?_
      refine WC.condT rfl rfl ?_
      refine WC.seq fun K508 hK508 => ?_
      -- region 5
      refine WC.region ?_
      -- R5.0 19 := icmp.go:55 move
      refine WL.v (by first | exact r_move (v := .nilIface) rfl | exact r_move (v := .iface _ _) rfl | exact r_move rfl) rfl rfl rfl ?_
      -- R5.1 4 := icmp.go:55 assign
      refine WL.v (by first | exact r_assign (v := .nilIface) rfl | exact r_assign (v := .iface _ _) rfl | exact r_assign rfl) rfl rfl rfl ?_
      refine WL.fin hK508 (fun _ _ h => h) ?_
      refine WC.ret1 Tryd.results75 (fun _ _ h => h) rfl ?_
      exact ⟨_, rfl, .inr ⟨⟨_, _, rfl⟩, fun h => he h.2.1⟩, st⟩

theorem tcpWord_ok (b o : Nat) (x : Nat → Int) (s : SV) (hx : TcpR x) (hP : tcpP x s.bs.length) (hr : ∀ its w', S0 w0 (its ++ L) w' → CF w' b o 10 (nth (tcpL x s.v))) (st : S0 w0 L w) :
    Calls Tryd.prog 59 #[.pointer (some ⟨b, o, none⟩)] w (Ret fun v w' => v = .int .u16 (((20 + s.bs.length) / 4 : Nat) * 4096 + x 4 * 256 + x 5) ∧ S0 w0 L w') := by
  obtain ⟨p4, pm, p40⟩ := hP
  have h4 := hx.r4
  have h5 := hx.r5
  obtain ⟨q, hq⟩ : ∃ q : Nat, q = (20 + s.bs.length) / 4 := ⟨_, rfl⟩
  have hq2 : q ≤ 15 := by omega
  rw [← hq]
  refine enter [.pointer (some ⟨b, o, none⟩)] Tryd.func59 rfl Tryd.ntmps59 rfl ?_
  show WC _ _ _ 21 [] [(0, .pointer (some ⟨b, o, none⟩))] _
  refine WC.seq fun K509 hK509 => ?_
  -- region 0
  refine WC.region ?_
  -- R0.0 2 := tcp.go:50 assign
  refine WL.v (by first | exact r_assign (v := .int _ _) rfl | exact r_assign rfl) rfl rfl rfl ?_
  refine WL.fin hK509 (fun _ _ h => h) ?_
  refine WC.seq fun K510 hK510 => ?_
  -- region 1 (draws)
  refine WC.quietS st ty_mixed (by kernel_rfl) fun Kq hKq => ?_
  -- R1.0 3 := tcp.go:51 move
  refine QL.v (fun w st => by first | exact r_move (v := .pointer _) rfl | exact r_move rfl) rfl rfl rfl ?_
  -- R1.1 4 := tcp.go:51 call
  refine QL.call (val := .int .i64 ((20 + s.bs.length : Nat) : Int)) (fun w st => r_call ty_call58 rfl) rfl rfl rfl (fun w st => tcpLen_ok b o x s (by omega) hr st) ?_
  -- R1.2 5 := tcp.go:51 binOp
  refine QL.v (fun w st => by exact r_quo (r := (q : Int)) rfl rfl (by omega) (by rw [show (((20 + s.bs.length : Nat) : Int)).tdiv 4 = (((20 + s.bs.length) / 4 : Nat) : Int) from rfl, ← hq, wi64 (by omega) (by omega)])) rfl rfl rfl ?_
  -- R1.3 6 := tcp.go:51 convert
  refine QL.v (fun w st => by first | exact r_conv ty_cv3_30 rfl (wu16 (by omega) (by omega)) | exact r_conv ty_cv3_30 rfl rfl) rfl rfl rfl ?_
  -- R1.4 7 := tcp.go:51 binOp
  refine QL.v (fun w st => by exact r_shl (r := (q : Int) * 2 ^ 12) rfl rfl (by omega) (wu16 (x := (q : Int) * 2 ^ 12) (by omega) (by omega))) rfl rfl rfl ?_
  -- R1.5 8 := tcp.go:51 move
  refine QL.v (fun w st => by first | exact r_move (v := .pointer _) rfl | exact r_move rfl) rfl rfl rfl ?_
  -- R1.6 9 := tcp.go:51 nilCheck
  refine QL.v (fun w st => by exact r_nilCheck rfl) rfl rfl rfl ?_
  -- R1.7 10 := tcp.go:51 fieldAddr
  refine QL.v (fun w st => by exact r_field ty_fld39_4 rfl) rfl rfl rfl ?_
  -- R1.8 11 := tcp.go:51 load
  refine QL.v (fun w st => by first | exact r_load1 ty_one5 rfl (hr [] _ st 4 (by decide)) | exact r_load1 ty_one5 rfl (hr _ _ st 4 (by decide)) | exact r_load1 ty_one5 rfl (hr [_] _ st 4 (by decide)) | exact r_load1 ty_one5 rfl (hr [_, _] _ st 4 (by decide)) | exact r_load1 ty_one5 rfl (hr [_, _, _] _ st 4 (by decide))) rfl rfl rfl ?_
  -- R1.9 12 := tcp.go:51 convert
  refine QL.v (fun w st => by first | exact r_conv ty_cv5_30 rfl (wu16 (by omega) (by omega)) | exact r_conv ty_cv5_30 rfl rfl) rfl rfl rfl ?_
  -- R1.10 13 := tcp.go:51 binOp
  refine QL.v (fun w st => by exact r_shl (r := x 4 * 2 ^ 8) rfl rfl (by omega) (wu16 (x := x 4 * 2 ^ 8) (by omega) (by omega))) rfl rfl rfl ?_
  -- R1.11 14 := tcp.go:51 binOp
  refine QL.v (fun w st => by exact r_or (r := x 4 * 2 ^ 8 + (q : Int) * 2 ^ 12) rfl rfl ((congrArg IntKind.u16.wrap (or_u' 16 12 (a := x 4 * 2 ^ 8) (b := (q : Int)) (by omega) (by omega) (by omega) (by omega) (by omega))).trans (wu16 (by omega) (by omega)))) rfl rfl rfl ?_
  -- R1.12 15 := tcp.go:51 move
  refine QL.v (fun w st => by first | exact r_move (v := .pointer _) rfl | exact r_move rfl) rfl rfl rfl ?_
  -- R1.13 16 := tcp.go:51 nilCheck
  refine QL.v (fun w st => by exact r_nilCheck rfl) rfl rfl rfl ?_
  -- R1.14 17 := tcp.go:51 fieldAddr
  refine QL.v (fun w st => by exact r_field ty_fld39_5 rfl) rfl rfl rfl ?_
  -- R1.15 18 := tcp.go:51 load
  refine QL.v (fun w st => by first | exact r_load1 ty_one5 rfl (hr [] _ st 5 (by decide)) | exact r_load1 ty_one5 rfl (hr _ _ st 5 (by decide)) | exact r_load1 ty_one5 rfl (hr [_] _ st 5 (by decide)) | exact r_load1 ty_one5 rfl (hr [_, _] _ st 5 (by decide)) | exact r_load1 ty_one5 rfl (hr [_, _, _] _ st 5 (by decide))) rfl rfl rfl ?_
  -- R1.16 19 := tcp.go:51 convert
  refine QL.v (fun w st => by first | exact r_conv ty_cv5_30 rfl (wu16 (by omega) (by omega)) | exact r_conv ty_cv5_30 rfl rfl) rfl rfl rfl ?_
  -- R1.17 20 := tcp.go:51 binOp
  refine QL.v (fun w st => by exact r_or (r := x 5 + (x 4 + (q : Int) * 16) * 2 ^ 8) rfl rfl (by rw [show x 4 * 2 ^ 8 + (q : Int) * 2 ^ 12 = (x 4 + (q : Int) * 16) * 2 ^ 8 by omega]; exact (congrArg IntKind.u16.wrap (or_u' 16 8 h5.1 (by omega) (by omega) (by omega) (by omega))).trans (wu16 (by omega) (by omega)))) rfl rfl rfl ?_
  -- R1.18 2 := tcp.go:51 assign
  refine QL.v (fun w st => by first | exact r_assign (v := .int _ _) rfl | exact r_assign rfl) rfl rfl rfl ?_
  refine QL.wl hKq fun w st => ?_
  refine WL.fin hK510 (fun _ _ h => h) ?_
  refine WC.ret1 Tryd.results59 (fun _ _ h => h) rfl ?_
  exact ⟨_, rfl, congrArg (Value.int .u16) (by omega), st⟩
end Go.Proofs.Qxb6500841aDoor

