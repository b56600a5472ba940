import Derived.Test.Qxb6500841aDoorX2
set_option linter.unusedVariables false
set_option linter.unusedSimpArgs false
namespace Go.Proofs.Qxb6500841aDoor
open Go.RowKit Go.E1 Go.Wire

/-- Cells as they read. -/
def CF (w : World) (b o n : Nat) (f : Nat → Value) : Prop := ∀ k, k < n → w.cell? ⟨b, o + k, none⟩ = some (f k)
/-- The error variables. -/
def ErrOk (w0 : World) (ET : Nat → TypeId) (EU : Nat → Value) : Prop := ∀ g, (decide (g < 21) && !(g == 1)) = true → w0.cell? ⟨g, 0, none⟩ = some (.iface (ET g) (EU g))
/-- An error that is nil just where P holds. -/
def IfErr (v : Value) (P : Prop) : Prop := (v = .nilIface ∧ P) ∨ (∃ T u, v = .iface T u) ∧ ¬ P

/-- An IPv4 header's cells. -/
abbrev ipL (x : Nat → Int) (s : Value) : List Value := [.int .u8 (x 0), .int .u16 (x 1), .int .u16 (x 2), .int .u8 (x 3), .int .u16 (x 4), .int .u8 (x 5), .int .u8 (x 6), .int .u16 (x 7), .int .u8 (x 8), .int .u8 (x 9), .int .u8 (x 10), .int .u8 (x 11), .int .u8 (x 12), .int .u8 (x 13), .int .u8 (x 14), .int .u8 (x 15), s]
structure IpR (x : Nat → Int) : Prop where
  r0 : 0 ≤ x 0 ∧ x 0 < 256
  r1 : 0 ≤ x 1 ∧ x 1 < 65536
  r2 : 0 ≤ x 2 ∧ x 2 < 65536
  r3 : 0 ≤ x 3 ∧ x 3 < 256
  r4 : 0 ≤ x 4 ∧ x 4 < 65536
  r5 : 0 ≤ x 5 ∧ x 5 < 256
  r6 : 0 ≤ x 6 ∧ x 6 < 256
  r7 : 0 ≤ x 7 ∧ x 7 < 65536
  r8 : 0 ≤ x 8 ∧ x 8 < 256
  r9 : 0 ≤ x 9 ∧ x 9 < 256
  r10 : 0 ≤ x 10 ∧ x 10 < 256
  r11 : 0 ≤ x 11 ∧ x 11 < 256
  r12 : 0 ≤ x 12 ∧ x 12 < 256
  r13 : 0 ≤ x 13 ∧ x 13 < 256
  r14 : 0 ≤ x 14 ∧ x 14 < 256
  r15 : 0 ≤ x 15 ∧ x 15 < 256

def optP (n : Nat) : Prop := n % 4 = 0 ∧ n ≤ 40
def ipP (x : Nat → Int) (n : Nat) : Prop := x 3 ≤ 7 ∧ x 4 ≤ 8191 ∧ optP n ∧ 20 + (n : Int) ≤ x 1
def fragP (x : Nat → Int) : Prop := x 3 % 2 = 1 ∨ x 4 ≠ 0
def icmpE (t : Int) : Prop := t = 3 ∨ t = 4 ∨ t = 5 ∨ t = 11 ∨ t = 12
def opqP (x : Nat → Int) (bs : List Int) : Prop := fragP x ∨ (x 6 ≠ 6 ∧ (x 6 = 1 → bs.length = 0 ∨ ¬ icmpE (bs.getD 0 0)))

def BoolIs (v : Value) (P : Prop) : Prop := (v = .bool true ∧ P) ∨ (v = .bool false ∧ ¬ P)
theorem BoolIs.t {v : Value} {P : Prop} (h : BoolIs v P) : ∃ t, v = .bool t ∧ (t = true ↔ P) := by
  rcases h with ⟨rfl, h⟩ | ⟨rfl, h⟩
  · exact ⟨true, rfl, fun _ => h, fun _ => rfl⟩
  · exact ⟨false, rfl, fun q => (by cases q), fun p => absurd p h⟩
theorem BoolIs.of {t : Bool} {P : Prop} (h : t = true ↔ P) : BoolIs (.bool t) P := by
  cases t with
  | true => exact .inl ⟨rfl, h.1 rfl⟩
  | false => exact .inr ⟨rfl, fun p => by have := h.2 p; cases this⟩
theorem IfErr.iff_ {v : Value} {P Q : Prop} (h : IfErr v P) (hq : P ↔ Q) : IfErr v Q := by
  rcases h with ⟨rfl, h⟩ | ⟨h1, h⟩
  · exact .inl ⟨rfl, hq.1 h⟩
  · exact .inr ⟨h1, fun q => h (hq.2 q)⟩

variable {w0 : World} {L : List HI} {w : World} {ET : Nat → TypeId} {EU : Nat → Value}

theorem ipLen_ok (b o : Nat) (x : Nat → Int) (s : SV) (hl : s.bs.length ≤ 1000000000) (hr : ∀ its w', S0 w0 (its ++ L) w' → CF w' b o 17 (nth (ipL x s.v))) (st : S0 w0 L w) :
    Calls Tryd.prog 29 #[.pointer (some ⟨b, o, none⟩)] w (Ret fun v w' => v = .int .i64 ((20 + s.bs.length : Nat) : Int) ∧ S0 w0 L w') := by
  refine enter [.pointer (some ⟨b, o, none⟩)] Tryd.func29 rfl Tryd.ntmps29 rfl ?_
  show WC _ _ _ 9 [] [(0, .pointer (some ⟨b, o, none⟩))] _
  refine WC.seq fun K106 hK106 => ?_
  -- region 0
  refine WC.region ?_
  -- R0.0 2 := ipv4.go:10 assign
  refine WL.v (by first | exact r_assign (v := .int _ _) rfl | exact r_assign rfl) rfl rfl rfl ?_
  refine WL.fin hK106 (fun _ _ h => h) ?_
  refine WC.seq fun K107 hK107 => ?_
  -- region 1
  refine WC.region ?_
  -- R1.0 3 := ipv4.go:11 move
  refine WL.v (by first | exact r_move (v := .pointer _) rfl | exact r_move rfl) rfl rfl rfl ?_
  -- R1.1 4 := ipv4.go:11 nilCheck
  refine WL.v (by exact r_nilCheck rfl) rfl rfl rfl ?_
  -- R1.2 5 := ipv4.go:11 fieldAddr
  refine WL.v (by exact r_field ty_fld36_10 rfl) rfl rfl rfl ?_
  -- R1.3 6 := ipv4.go:11 load
  refine WL.v (by first | exact r_load1 ty_one25 rfl (hr [] _ st 16 (by decide)) | exact r_load1 ty_one25 rfl (hr _ _ st 16 (by decide)) | exact r_load1 ty_one25 rfl (hr [_] _ st 16 (by decide)) | exact r_load1 ty_one25 rfl (hr [_, _] _ st 16 (by decide)) | exact r_load1 ty_one25 rfl (hr [_, _, _] _ st 16 (by decide))) rfl rfl rfl ?_
  -- R1.4 7 := ipv4.go:11 call
  refine WL.v (by exact r_len ty_usl25 rfl) rfl rfl rfl ?_
  -- R1.5 8 := ipv4.go:11 binOp
  refine WL.v (by exact r_add (r := ((20 + s.bs.length : Nat) : Int)) rfl rfl (by rw [wi64 (by omega) (by omega)]; omega)) rfl rfl rfl ?_
  -- R1.6 2 := ipv4.go:11 assign
  refine WL.v (by first | exact r_assign (v := .int _ _) rfl | exact r_assign rfl) rfl rfl rfl ?_
  refine WL.fin hK107 (fun _ _ h => h) ?_
  refine WC.ret1 Tryd.results29 (fun _ _ h => h) rfl ?_
  exact ⟨_, rfl, rfl, st⟩

theorem frag_ok (b o : Nat) (x : Nat → Int) (sv : Value) (hx : IpR x) (hr : ∀ its w', S0 w0 (its ++ L) w' → CF w' b o 17 (nth (ipL x sv))) (st : S0 w0 L w) :
    Calls Tryd.prog 47 #[.pointer (some ⟨b, o, none⟩)] w (Ret fun v w' => BoolIs v (fragP x) ∧ S0 w0 L w') := by
  have h3 := hx.r3
  by_cases h1 : x 3 % 2 = 1
  · skip
    refine enter [.pointer (some ⟨b, o, none⟩)] Tryd.func47 rfl Tryd.ntmps47 rfl ?_
    show WC _ _ _ 16 [] [(0, .pointer (some ⟨b, o, none⟩))] _
    refine WC.seq fun K108 hK108 => ?_
    -- region 0
    refine WC.region ?_
    -- R0.0 2 := ipv4.go:16 assign
    refine WL.v (by first | exact r_assign (v := .bool _) rfl | exact r_assign rfl) rfl rfl rfl ?_
    refine WL.fin hK108 (fun _ _ h => h) ?_
    refine WC.seq fun K109 hK109 => ?_
    -- region 1
    refine WC.region ?_
    -- R1.0 3 := ipv4.go:17 move
    refine WL.v (by first | exact r_move (v := .pointer _) rfl | exact r_move rfl) rfl rfl rfl ?_
    -- R1.1 4 := ipv4.go:17 nilCheck
    refine WL.v (by exact r_nilCheck rfl) rfl rfl rfl ?_
    -- R1.2 5 := ipv4.go:17 fieldAddr
    refine WL.v (by exact r_field ty_fld36_3 rfl) rfl rfl rfl ?_
    -- R1.3 6 := ipv4.go:17 load
    refine WL.v (by first | exact r_load1 ty_one5 rfl (hr [] _ st 3 (by decide)) | exact r_load1 ty_one5 rfl (hr _ _ st 3 (by decide)) | exact r_load1 ty_one5 rfl (hr [_] _ st 3 (by decide)) | exact r_load1 ty_one5 rfl (hr [_, _] _ st 3 (by decide)) | exact r_load1 ty_one5 rfl (hr [_, _, _] _ st 3 (by decide))) rfl rfl rfl ?_
    -- R1.4 7 := ipv4.go:17 binOp
    refine WL.v (by exact r_and (r := x 3 % 2) rfl rfl ((congrArg IntKind.u8.wrap (and_u 8 1 h3.1 (by omega) (by omega))).trans (wu8 (by omega) (by omega)))) rfl rfl rfl ?_
    -- R1.5 8 := ipv4.go:17 binOp
    refine WL.v (by first | exact r_neq rfl rfl (decide_eq_true (by omega)) | exact r_neq rfl rfl (decide_eq_false (by omega)) | exact r_neq rfl rfl rfl) rfl rfl rfl ?_
    -- R1.6 9 := ipv4.go:17 move
    refine WL.v (by first | exact r_move (v := .bool _) rfl | exact r_move rfl) rfl rfl rfl ?_
    -- R1.7 10 := ipv4.go:17 move
    refine WL.no rfl rfl ?_
    -- R1.8 11 := ipv4.go:17 nilCheck
    refine WL.no rfl rfl ?_
    -- R1.9 12 := ipv4.go:17 fieldAddr
    refine WL.no rfl rfl ?_
    -- R1.10 13 := ipv4.go:17 load
    refine WL.no rfl rfl ?_
    -- R1.11 14 := ipv4.go:17 binOp
    refine WL.no rfl rfl ?_
    -- R1.12 15 := ipv4.go:17 pick
    refine WL.v (by first | exact r_pickT (v := .bool _) rfl rfl | exact r_pickF (v := .bool _) rfl rfl) rfl rfl rfl ?_
    -- R1.13 2 := ipv4.go:17 assign
    refine WL.v (by first | exact r_assign (v := .bool _) rfl | exact r_assign rfl) rfl rfl rfl ?_
    refine WL.fin hK109 (fun _ _ h => h) ?_
    refine WC.ret1 Tryd.results47 (fun _ _ h => h) rfl ?_
    exact ⟨_, rfl, .inl ⟨rfl, .inl h1⟩, st⟩
  · skip
    by_cases h2 : x 4 = 0
    · skip
      refine enter [.pointer (some ⟨b, o, none⟩)] Tryd.func47 rfl Tryd.ntmps47 rfl ?_
      show WC _ _ _ 16 [] [(0, .pointer (some ⟨b, o, none⟩))] _
      refine WC.seq fun K110 hK110 => ?_
      -- region 0
      refine WC.region ?_
      -- R0.0 2 := ipv4.go:16 assign
      refine WL.v (by first | exact r_assign (v := .bool _) rfl | exact r_assign rfl) rfl rfl rfl ?_
      refine WL.fin hK110 (fun _ _ h => h) ?_
      refine WC.seq fun K111 hK111 => ?_
      -- region 1
      refine WC.region ?_
      -- R1.0 3 := ipv4.go:17 move
      refine WL.v (by first | exact r_move (v := .pointer _) rfl | exact r_move rfl) rfl rfl rfl ?_
      -- R1.1 4 := ipv4.go:17 nilCheck
      refine WL.v (by exact r_nilCheck rfl) rfl rfl rfl ?_
      -- R1.2 5 := ipv4.go:17 fieldAddr
      refine WL.v (by exact r_field ty_fld36_3 rfl) rfl rfl rfl ?_
      -- R1.3 6 := ipv4.go:17 load
      refine WL.v (by first | exact r_load1 ty_one5 rfl (hr [] _ st 3 (by decide)) | exact r_load1 ty_one5 rfl (hr _ _ st 3 (by decide)) | exact r_load1 ty_one5 rfl (hr [_] _ st 3 (by decide)) | exact r_load1 ty_one5 rfl (hr [_, _] _ st 3 (by decide)) | exact r_load1 ty_one5 rfl (hr [_, _, _] _ st 3 (by decide))) rfl rfl rfl ?_
      -- R1.4 7 := ipv4.go:17 binOp
      refine WL.v (by exact r_and (r := x 3 % 2) rfl rfl ((congrArg IntKind.u8.wrap (and_u 8 1 h3.1 (by omega) (by omega))).trans (wu8 (by omega) (by omega)))) rfl rfl rfl ?_
      -- R1.5 8 := ipv4.go:17 binOp
      refine WL.v (by first | exact r_neq rfl rfl (decide_eq_true (by omega)) | exact r_neq rfl rfl (decide_eq_false (by omega)) | exact r_neq rfl rfl rfl) rfl rfl rfl ?_
      -- R1.6 9 := ipv4.go:17 move
      refine WL.v (by first | exact r_move (v := .bool _) rfl | exact r_move rfl) rfl rfl rfl ?_
      -- R1.7 10 := ipv4.go:17 move
      refine WL.v (by first | exact r_move (v := .pointer _) rfl | exact r_move rfl) rfl rfl rfl ?_
      -- R1.8 11 := ipv4.go:17 nilCheck
      refine WL.v (by exact r_nilCheck rfl) rfl rfl rfl ?_
      -- R1.9 12 := ipv4.go:17 fieldAddr
      refine WL.v (by exact r_field ty_fld36_4 rfl) rfl rfl rfl ?_
      -- R1.10 13 := ipv4.go:17 load
      refine WL.v (by first | exact r_load1 ty_one30 rfl (hr [] _ st 4 (by decide)) | exact r_load1 ty_one30 rfl (hr _ _ st 4 (by decide)) | exact r_load1 ty_one30 rfl (hr [_] _ st 4 (by decide)) | exact r_load1 ty_one30 rfl (hr [_, _] _ st 4 (by decide)) | exact r_load1 ty_one30 rfl (hr [_, _, _] _ st 4 (by decide))) rfl rfl rfl ?_
      -- R1.11 14 := ipv4.go:17 binOp
      refine WL.v (by first | exact r_neq rfl rfl (decide_eq_true (by omega)) | exact r_neq rfl rfl (decide_eq_false (by omega)) | exact r_neq rfl rfl rfl) rfl rfl rfl ?_
      -- R1.12 15 := ipv4.go:17 pick
      refine WL.v (by first | exact r_pickT (v := .bool _) rfl rfl | exact r_pickF (v := .bool _) rfl rfl) rfl rfl rfl ?_
      -- R1.13 2 := ipv4.go:17 assign
      refine WL.v (by first | exact r_assign (v := .bool _) rfl | exact r_assign rfl) rfl rfl rfl ?_
      refine WL.fin hK111 (fun _ _ h => h) ?_
      refine WC.ret1 Tryd.results47 (fun _ _ h => h) rfl ?_
      exact ⟨_, rfl, .inr ⟨rfl, fun h => h.elim h1 (fun h => h h2)⟩, st⟩
    · skip
      refine enter [.pointer (some ⟨b, o, none⟩)] Tryd.func47 rfl Tryd.ntmps47 rfl ?_
      show WC _ _ _ 16 [] [(0, .pointer (some ⟨b, o, none⟩))] _
      refine WC.seq fun K112 hK112 => ?_
      -- region 0
      refine WC.region ?_
      -- R0.0 2 := ipv4.go:16 assign
      refine WL.v (by first | exact r_assign (v := .bool _) rfl | exact r_assign rfl) rfl rfl rfl ?_
      refine WL.fin hK112 (fun _ _ h => h) ?_
      refine WC.seq fun K113 hK113 => ?_
      -- region 1
      refine WC.region ?_
      -- R1.0 3 := ipv4.go:17 move
      refine WL.v (by first | exact r_move (v := .pointer _) rfl | exact r_move rfl) rfl rfl rfl ?_
      -- R1.1 4 := ipv4.go:17 nilCheck
      refine WL.v (by exact r_nilCheck rfl) rfl rfl rfl ?_
      -- R1.2 5 := ipv4.go:17 fieldAddr
      refine WL.v (by exact r_field ty_fld36_3 rfl) rfl rfl rfl ?_
      -- R1.3 6 := ipv4.go:17 load
      refine WL.v (by first | exact r_load1 ty_one5 rfl (hr [] _ st 3 (by decide)) | exact r_load1 ty_one5 rfl (hr _ _ st 3 (by decide)) | exact r_load1 ty_one5 rfl (hr [_] _ st 3 (by decide)) | exact r_load1 ty_one5 rfl (hr [_, _] _ st 3 (by decide)) | exact r_load1 ty_one5 rfl (hr [_, _, _] _ st 3 (by decide))) rfl rfl rfl ?_
      -- R1.4 7 := ipv4.go:17 binOp
      refine WL.v (by exact r_and (r := x 3 % 2) rfl rfl ((congrArg IntKind.u8.wrap (and_u 8 1 h3.1 (by omega) (by omega))).trans (wu8 (by omega) (by omega)))) rfl rfl rfl ?_
      -- R1.5 8 := ipv4.go:17 binOp
      refine WL.v (by first | exact r_neq rfl rfl (decide_eq_true (by omega)) | exact r_neq rfl rfl (decide_eq_false (by omega)) | exact r_neq rfl rfl rfl) rfl rfl rfl ?_
      -- R1.6 9 := ipv4.go:17 move
      refine WL.v (by first | exact r_move (v := .bool _) rfl | exact r_move rfl) rfl rfl rfl ?_
      -- R1.7 10 := ipv4.go:17 move
      refine WL.v (by first | exact r_move (v := .pointer _) rfl | exact r_move rfl) rfl rfl rfl ?_
      -- R1.8 11 := ipv4.go:17 nilCheck
      refine WL.v (by exact r_nilCheck rfl) rfl rfl rfl ?_
      -- R1.9 12 := ipv4.go:17 fieldAddr
      refine WL.v (by exact r_field ty_fld36_4 rfl) rfl rfl rfl ?_
      -- R1.10 13 := ipv4.go:17 load
      refine WL.v (by first | exact r_load1 ty_one30 rfl (hr [] _ st 4 (by decide)) | exact r_load1 ty_one30 rfl (hr _ _ st 4 (by decide)) | exact r_load1 ty_one30 rfl (hr [_] _ st 4 (by decide)) | exact r_load1 ty_one30 rfl (hr [_, _] _ st 4 (by decide)) | exact r_load1 ty_one30 rfl (hr [_, _, _] _ st 4 (by decide))) rfl rfl rfl ?_
      -- R1.11 14 := ipv4.go:17 binOp
      refine WL.v (by first | exact r_neq rfl rfl (decide_eq_true (by omega)) | exact r_neq rfl rfl (decide_eq_false (by omega)) | exact r_neq rfl rfl rfl) rfl rfl rfl ?_
      -- R1.12 15 := ipv4.go:17 pick
      refine WL.v (by first | exact r_pickT (v := .bool _) rfl rfl | exact r_pickF (v := .bool _) rfl rfl) rfl rfl rfl ?_
      -- R1.13 2 := ipv4.go:17 assign
      refine WL.v (by first | exact r_assign (v := .bool _) rfl | exact r_assign rfl) rfl rfl rfl ?_
      refine WL.fin hK113 (fun _ _ h => h) ?_
      refine WC.ret1 Tryd.results47 (fun _ _ h => h) rfl ?_
      exact ⟨_, rfl, .inl ⟨rfl, .inr h2⟩, st⟩

theorem icmpE_ok (t : Int) (st : S0 w0 L w) : Calls Tryd.prog 48 #[.int .u8 t] w (Ret fun v w' => BoolIs v (icmpE t) ∧ S0 w0 L w') := by
  by_cases h3 : t = 3
  · skip
    refine enter [.int .u8 t] Tryd.func48 rfl Tryd.ntmps48 rfl ?_
    show WC _ _ _ 10 [] [(0, .int .u8 t)] _
    refine WC.seq fun K114 hK114 => ?_
    -- region 0
    refine WC.region ?_
    -- R0.0 2 := icmp.go:11 assign
    refine WL.v (by first | exact r_assign (v := .bool _) rfl | exact r_assign rfl) rfl rfl rfl ?_
    refine WL.fin hK114 (fun _ _ h => h) ?_
    refine WC.seq fun K115 hK115 => ?_
    refine WC.seq fun K116 hK116 => ?_
    -- region 1
    refine WC.region ?_
    -- R1.0 3 := icmp.go:12 move
    refine WL.v (by first | exact r_move (v := .int _ _) rfl | exact r_move rfl) rfl rfl rfl ?_
    refine WL.fin hK116 (fun _ _ h => h) ?_
    refine WC.block ?_
    refine WC.seq fun K117 hK117 => ?_
    refine WC.seq fun K118 hK118 => ?_
    -- region 2
    refine WC.region ?_
    -- R2.0 5 := icmp.go:13 binOp
    refine WL.v (by first | exact r_eql rfl rfl (decide_eq_true (by omega)) | exact r_eql rfl rfl (decide_eq_false (by omega)) | exact r_eql rfl rfl rfl) rfl rfl rfl ?_
    -- R2.1 4 := icmp.go:13 assign
    refine WL.v (by first | exact r_assign (v := .bool _) rfl | exact r_assign rfl) rfl rfl rfl ?_
    refine WL.fin hK118 (fun _ _ h => h) ?_
    refine WC.condT rfl rfl ?_
    refine WC.skipF hK117 (fun _ _ h => h) ?_
    refine WC.condT rfl rfl ?_
    refine WC.seq fun K119 hK119 => ?_
    -- region 7
    refine WC.region ?_
    -- R7.0 2 := icmp.go:15 assign
    refine WL.v (by first | exact r_assign (v := .bool _) rfl | exact r_assign rfl) rfl rfl rfl ?_
    refine WL.fin hK119 (fun _ _ h => h) ?_
    refine WC.ret1 Tryd.results48 (fun _ _ h => h) rfl ?_
    exact ⟨_, rfl, .inl ⟨rfl, .inl h3⟩, st⟩
  by_cases h4 : t = 4
  · skip
    refine enter [.int .u8 t] Tryd.func48 rfl Tryd.ntmps48 rfl ?_
    show WC _ _ _ 10 [] [(0, .int .u8 t)] _
    refine WC.seq fun K120 hK120 => ?_
    -- region 0
    refine WC.region ?_
    -- R0.0 2 := icmp.go:11 assign
    refine WL.v (by first | exact r_assign (v := .bool _) rfl | exact r_assign rfl) rfl rfl rfl ?_
    refine WL.fin hK120 (fun _ _ h => h) ?_
    refine WC.seq fun K121 hK121 => ?_
    refine WC.seq fun K122 hK122 => ?_
    -- region 1
    refine WC.region ?_
    -- R1.0 3 := icmp.go:12 move
    refine WL.v (by first | exact r_move (v := .int _ _) rfl | exact r_move rfl) rfl rfl rfl ?_
    refine WL.fin hK122 (fun _ _ h => h) ?_
    refine WC.block ?_
    refine WC.seq fun K123 hK123 => ?_
    refine WC.seq fun K124 hK124 => ?_
    -- region 2
    refine WC.region ?_
    -- R2.0 5 := icmp.go:13 binOp
    refine WL.v (by first | exact r_eql rfl rfl (decide_eq_true (by omega)) | exact r_eql rfl rfl (decide_eq_false (by omega)) | exact r_eql rfl rfl rfl) rfl rfl rfl ?_
    -- R2.1 4 := icmp.go:13 assign
    refine WL.v (by first | exact r_assign (v := .bool _) rfl | exact r_assign rfl) rfl rfl rfl ?_
    refine WL.fin hK124 (fun _ _ h => h) ?_
    refine WC.condF rfl rfl ?_
    refine WC.seq fun K125 hK125 => ?_
    -- region 3
    refine WC.region ?_
    -- R3.0 6 := icmp.go:13 binOp
    refine WL.v (by first | exact r_eql rfl rfl (decide_eq_true (by omega)) | exact r_eql rfl rfl (decide_eq_false (by omega)) | exact r_eql rfl rfl rfl) rfl rfl rfl ?_
    -- R3.1 4 := icmp.go:13 assign
    refine WL.v (by first | exact r_assign (v := .bool _) rfl | exact r_assign rfl) rfl rfl rfl ?_
    refine WL.fin hK125 (fun _ _ h => h) ?_
    refine WC.condT rfl rfl ?_
    refine WC.skipF hK123 (fun _ _ h => h) ?_
    refine WC.condT rfl rfl ?_
    refine WC.seq fun K126 hK126 => ?_
    -- region 7
    refine WC.region ?_
    -- R7.0 2 := icmp.go:15 assign
    refine WL.v (by first | exact r_assign (v := .bool _) rfl | exact r_assign rfl) rfl rfl rfl ?_
    refine WL.fin hK126 (fun _ _ h => h) ?_
    refine WC.ret1 Tryd.results48 (fun _ _ h => h) rfl ?_
    exact ⟨_, rfl, .inl ⟨rfl, .inr (.inl h4)⟩, st⟩
  by_cases h5 : t = 5
  · skip
    refine enter [.int .u8 t] Tryd.func48 rfl Tryd.ntmps48 rfl ?_
    show WC _ _ _ 10 [] [(0, .int .u8 t)] _
    refine WC.seq fun K127 hK127 => ?_
    -- region 0
    refine WC.region ?_
    -- R0.0 2 := icmp.go:11 assign
    refine WL.v (by first | exact r_assign (v := .bool _) rfl | exact r_assign rfl) rfl rfl rfl ?_
    refine WL.fin hK127 (fun _ _ h => h) ?_
    refine WC.seq fun K128 hK128 => ?_
    refine WC.seq fun K129 hK129 => ?_
    -- region 1
    refine WC.region ?_
    -- R1.0 3 := icmp.go:12 move
    refine WL.v (by first | exact r_move (v := .int _ _) rfl | exact r_move rfl) rfl rfl rfl ?_
    refine WL.fin hK129 (fun _ _ h => h) ?_
    refine WC.block ?_
    refine WC.seq fun K130 hK130 => ?_
    refine WC.seq fun K131 hK131 => ?_
    -- region 2
    refine WC.region ?_
    -- R2.0 5 := icmp.go:13 binOp
    refine WL.v (by first | exact r_eql rfl rfl (decide_eq_true (by omega)) | exact r_eql rfl rfl (decide_eq_false (by omega)) | exact r_eql rfl rfl rfl) rfl rfl rfl ?_
    -- R2.1 4 := icmp.go:13 assign
    refine WL.v (by first | exact r_assign (v := .bool _) rfl | exact r_assign rfl) rfl rfl rfl ?_
    refine WL.fin hK131 (fun _ _ h => h) ?_
    refine WC.condF rfl rfl ?_
    refine WC.seq fun K132 hK132 => ?_
    -- region 3
    refine WC.region ?_
    -- R3.0 6 := icmp.go:13 binOp
    refine WL.v (by first | exact r_eql rfl rfl (decide_eq_true (by omega)) | exact r_eql rfl rfl (decide_eq_false (by omega)) | exact r_eql rfl rfl rfl) rfl rfl rfl ?_
    -- R3.1 4 := icmp.go:13 assign
    refine WL.v (by first | exact r_assign (v := .bool _) rfl | exact r_assign rfl) rfl rfl rfl ?_
    refine WL.fin hK132 (fun _ _ h => h) ?_
    refine WC.condF rfl rfl ?_
    refine WC.seq fun K133 hK133 => ?_
    -- region 4
    refine WC.region ?_
    -- R4.0 7 := icmp.go:13 binOp
    refine WL.v (by first | exact r_eql rfl rfl (decide_eq_true (by omega)) | exact r_eql rfl rfl (decide_eq_false (by omega)) | exact r_eql rfl rfl rfl) rfl rfl rfl ?_
    -- R4.1 4 := icmp.go:13 assign
    refine WL.v (by first | exact r_assign (v := .bool _) rfl | exact r_assign rfl) rfl rfl rfl ?_
    refine WL.fin hK133 (fun _ _ h => h) ?_
    refine WC.condT rfl rfl ?_
    refine WC.skipF hK130 (fun _ _ h => h) ?_
    refine WC.condT rfl rfl ?_
    refine WC.seq fun K134 hK134 => ?_
    -- region 7
    refine WC.region ?_
    -- R7.0 2 := icmp.go:15 assign
    refine WL.v (by first | exact r_assign (v := .bool _) rfl | exact r_assign rfl) rfl rfl rfl ?_
    refine WL.fin hK134 (fun _ _ h => h) ?_
    refine WC.ret1 Tryd.results48 (fun _ _ h => h) rfl ?_
    exact ⟨_, rfl, .inl ⟨rfl, .inr (.inr (.inl h5))⟩, st⟩
  by_cases h11 : t = 11
  · skip
    refine enter [.int .u8 t] Tryd.func48 rfl Tryd.ntmps48 rfl ?_
    show WC _ _ _ 10 [] [(0, .int .u8 t)] _
    refine WC.seq fun K135 hK135 => ?_
    -- region 0
    refine WC.region ?_
    -- R0.0 2 := icmp.go:11 assign
    refine WL.v (by first | exact r_assign (v := .bool _) rfl | exact r_assign rfl) rfl rfl rfl ?_
    refine WL.fin hK135 (fun _ _ h => h) ?_
    refine WC.seq fun K136 hK136 => ?_
    refine WC.seq fun K137 hK137 => ?_
    -- region 1
    refine WC.region ?_
    -- R1.0 3 := icmp.go:12 move
    refine WL.v (by first | exact r_move (v := .int _ _) rfl | exact r_move rfl) rfl rfl rfl ?_
    refine WL.fin hK137 (fun _ _ h => h) ?_
    refine WC.block ?_
    refine WC.seq fun K138 hK138 => ?_
    refine WC.seq fun K139 hK139 => ?_
    -- region 2
    refine WC.region ?_
    -- R2.0 5 := icmp.go:13 binOp
    refine WL.v (by first | exact r_eql rfl rfl (decide_eq_true (by omega)) | exact r_eql rfl rfl (decide_eq_false (by omega)) | exact r_eql rfl rfl rfl) rfl rfl rfl ?_
    -- R2.1 4 := icmp.go:13 assign
    refine WL.v (by first | exact r_assign (v := .bool _) rfl | exact r_assign rfl) rfl rfl rfl ?_
    refine WL.fin hK139 (fun _ _ h => h) ?_
    refine WC.condF rfl rfl ?_
    refine WC.seq fun K140 hK140 => ?_
    -- region 3
    refine WC.region ?_
    -- R3.0 6 := icmp.go:13 binOp
    refine WL.v (by first | exact r_eql rfl rfl (decide_eq_true (by omega)) | exact r_eql rfl rfl (decide_eq_false (by omega)) | exact r_eql rfl rfl rfl) rfl rfl rfl ?_
    -- R3.1 4 := icmp.go:13 assign
    refine WL.v (by first | exact r_assign (v := .bool _) rfl | exact r_assign rfl) rfl rfl rfl ?_
    refine WL.fin hK140 (fun _ _ h => h) ?_
    refine WC.condF rfl rfl ?_
    refine WC.seq fun K141 hK141 => ?_
    -- region 4
    refine WC.region ?_
    -- R4.0 7 := icmp.go:13 binOp
    refine WL.v (by first | exact r_eql rfl rfl (decide_eq_true (by omega)) | exact r_eql rfl rfl (decide_eq_false (by omega)) | exact r_eql rfl rfl rfl) rfl rfl rfl ?_
    -- R4.1 4 := icmp.go:13 assign
    refine WL.v (by first | exact r_assign (v := .bool _) rfl | exact r_assign rfl) rfl rfl rfl ?_
    refine WL.fin hK141 (fun _ _ h => h) ?_
    refine WC.condF rfl rfl ?_
    refine WC.seq fun K142 hK142 => ?_
    -- region 5
    refine WC.region ?_
    -- R5.0 8 := icmp.go:14 binOp
    refine WL.v (by first | exact r_eql rfl rfl (decide_eq_true (by omega)) | exact r_eql rfl rfl (decide_eq_false (by omega)) | exact r_eql rfl rfl rfl) rfl rfl rfl ?_
    -- R5.1 4 := icmp.go:14 assign
    refine WL.v (by first | exact r_assign (v := .bool _) rfl | exact r_assign rfl) rfl rfl rfl ?_
    refine WL.fin hK142 (fun _ _ h => h) ?_
    refine WC.condT rfl rfl ?_
    refine WC.skipF hK138 (fun _ _ h => h) ?_
    refine WC.condT rfl rfl ?_
    refine WC.seq fun K143 hK143 => ?_
    -- region 7
    refine WC.region ?_
    -- R7.0 2 := icmp.go:15 assign
    refine WL.v (by first | exact r_assign (v := .bool _) rfl | exact r_assign rfl) rfl rfl rfl ?_
    refine WL.fin hK143 (fun _ _ h => h) ?_
    refine WC.ret1 Tryd.results48 (fun _ _ h => h) rfl ?_
    exact ⟨_, rfl, .inl ⟨rfl, .inr (.inr (.inr (.inl h11)))⟩, st⟩
  by_cases h12 : t = 12
  · skip
    refine enter [.int .u8 t] Tryd.func48 rfl Tryd.ntmps48 rfl ?_
    show WC _ _ _ 10 [] [(0, .int .u8 t)] _
    refine WC.seq fun K144 hK144 => ?_
    -- region 0
    refine WC.region ?_
    -- R0.0 2 := icmp.go:11 assign
    refine WL.v (by first | exact r_assign (v := .bool _) rfl | exact r_assign rfl) rfl rfl rfl ?_
    refine WL.fin hK144 (fun _ _ h => h) ?_
    refine WC.seq fun K145 hK145 => ?_
    refine WC.seq fun K146 hK146 => ?_
    -- region 1
    refine WC.region ?_
    -- R1.0 3 := icmp.go:12 move
    refine WL.v (by first | exact r_move (v := .int _ _) rfl | exact r_move rfl) rfl rfl rfl ?_
    refine WL.fin hK146 (fun _ _ h => h) ?_
    refine WC.block ?_
    refine WC.seq fun K147 hK147 => ?_
    refine WC.seq fun K148 hK148 => ?_
    -- region 2
    refine WC.region ?_
    -- R2.0 5 := icmp.go:13 binOp
    refine WL.v (by first | exact r_eql rfl rfl (decide_eq_true (by omega)) | exact r_eql rfl rfl (decide_eq_false (by omega)) | exact r_eql rfl rfl rfl) rfl rfl rfl ?_
    -- R2.1 4 := icmp.go:13 assign
    refine WL.v (by first | exact r_assign (v := .bool _) rfl | exact r_assign rfl) rfl rfl rfl ?_
    refine WL.fin hK148 (fun _ _ h => h) ?_
    refine WC.condF rfl rfl ?_
    refine WC.seq fun K149 hK149 => ?_
    -- region 3
    refine WC.region ?_
    -- R3.0 6 := icmp.go:13 binOp
    refine WL.v (by first | exact r_eql rfl rfl (decide_eq_true (by omega)) | exact r_eql rfl rfl (decide_eq_false (by omega)) | exact r_eql rfl rfl rfl) rfl rfl rfl ?_
    -- R3.1 4 := icmp.go:13 assign
    refine WL.v (by first | exact r_assign (v := .bool _) rfl | exact r_assign rfl) rfl rfl rfl ?_
    refine WL.fin hK149 (fun _ _ h => h) ?_
    refine WC.condF rfl rfl ?_
    refine WC.seq fun K150 hK150 => ?_
    -- region 4
    refine WC.region ?_
    -- R4.0 7 := icmp.go:13 binOp
    refine WL.v (by first | exact r_eql rfl rfl (decide_eq_true (by omega)) | exact r_eql rfl rfl (decide_eq_false (by omega)) | exact r_eql rfl rfl rfl) rfl rfl rfl ?_
    -- R4.1 4 := icmp.go:13 assign
    refine WL.v (by first | exact r_assign (v := .bool _) rfl | exact r_assign rfl) rfl rfl rfl ?_
    refine WL.fin hK150 (fun _ _ h => h) ?_
    refine WC.condF rfl rfl ?_
    refine WC.seq fun K151 hK151 => ?_
    -- region 5
    refine WC.region ?_
    -- R5.0 8 := icmp.go:14 binOp
    refine WL.v (by first | exact r_eql rfl rfl (decide_eq_true (by omega)) | exact r_eql rfl rfl (decide_eq_false (by omega)) | exact r_eql rfl rfl rfl) rfl rfl rfl ?_
    -- R5.1 4 := icmp.go:14 assign
    refine WL.v (by first | exact r_assign (v := .bool _) rfl | exact r_assign rfl) rfl rfl rfl ?_
    refine WL.fin hK151 (fun _ _ h => h) ?_
    refine WC.condF rfl rfl ?_
    -- region 6
    refine WC.region ?_
    -- R6.0 9 := icmp.go:14 binOp
    refine WL.v (by first | exact r_eql rfl rfl (decide_eq_true (by omega)) | exact r_eql rfl rfl (decide_eq_false (by omega)) | exact r_eql rfl rfl rfl) rfl rfl rfl ?_
    -- R6.1 4 := icmp.go:14 assign
    refine WL.v (by first | exact r_assign (v := .bool _) rfl | exact r_assign rfl) rfl rfl rfl ?_
    refine WL.fin hK147 (fun _ _ h => h) ?_
    refine WC.condT rfl rfl ?_
    refine WC.seq fun K152 hK152 => ?_
    -- region 7
    refine WC.region ?_
    -- R7.0 2 := icmp.go:15 assign
    refine WL.v (by first | exact r_assign (v := .bool _) rfl | exact r_assign rfl) rfl rfl rfl ?_
    refine WL.fin hK152 (fun _ _ h => h) ?_
    refine WC.ret1 Tryd.results48 (fun _ _ h => h) rfl ?_
    exact ⟨_, rfl, .inl ⟨rfl, .inr (.inr (.inr (.inr h12)))⟩, st⟩
  refine enter [.int .u8 t] Tryd.func48 rfl Tryd.ntmps48 rfl ?_
  show WC _ _ _ 10 [] [(0, .int .u8 t)] _
  refine WC.seq fun K153 hK153 => ?_
  -- region 0
  refine WC.region ?_
  -- R0.0 2 := icmp.go:11 assign
  refine WL.v (by first | exact r_assign (v := .bool _) rfl | exact r_assign rfl) rfl rfl rfl ?_
  refine WL.fin hK153 (fun _ _ h => h) ?_
  refine WC.seq fun K154 hK154 => ?_
  refine WC.seq fun K155 hK155 => ?_
  -- region 1
  refine WC.region ?_
  -- R1.0 3 := icmp.go:12 move
  refine WL.v (by first | exact r_move (v := .int _ _) rfl | exact r_move rfl) rfl rfl rfl ?_
  refine WL.fin hK155 (fun _ _ h => h) ?_
  refine WC.block ?_
  refine WC.seq fun K156 hK156 => ?_
  refine WC.seq fun K157 hK157 => ?_
  -- region 2
  refine WC.region ?_
  -- R2.0 5 := icmp.go:13 binOp
  refine WL.v (by first | exact r_eql rfl rfl (decide_eq_true (by omega)) | exact r_eql rfl rfl (decide_eq_false (by omega)) | exact r_eql rfl rfl rfl) rfl rfl rfl ?_
  -- R2.1 4 := icmp.go:13 assign
  refine WL.v (by first | exact r_assign (v := .bool _) rfl | exact r_assign rfl) rfl rfl rfl ?_
  refine WL.fin hK157 (fun _ _ h => h) ?_
  refine WC.condF rfl rfl ?_
  refine WC.seq fun K158 hK158 => ?_
  -- region 3
  refine WC.region ?_
  -- R3.0 6 := icmp.go:13 binOp
  refine WL.v (by first | exact r_eql rfl rfl (decide_eq_true (by omega)) | exact r_eql rfl rfl (decide_eq_false (by omega)) | exact r_eql rfl rfl rfl) rfl rfl rfl ?_
  -- R3.1 4 := icmp.go:13 assign
  refine WL.v (by first | exact r_assign (v := .bool _) rfl | exact r_assign rfl) rfl rfl rfl ?_
  refine WL.fin hK158 (fun _ _ h => h) ?_
  refine WC.condF rfl rfl ?_
  refine WC.seq fun K159 hK159 => ?_
  -- region 4
  refine WC.region ?_
  -- R4.0 7 := icmp.go:13 binOp
  refine WL.v (by first | exact r_eql rfl rfl (decide_eq_true (by omega)) | exact r_eql rfl rfl (decide_eq_false (by omega)) | exact r_eql rfl rfl rfl) rfl rfl rfl ?_
  -- R4.1 4 := icmp.go:13 assign
  refine WL.v (by first | exact r_assign (v := .bool _) rfl | exact r_assign rfl) rfl rfl rfl ?_
  refine WL.fin hK159 (fun _ _ h => h) ?_
  refine WC.condF rfl rfl ?_
  refine WC.seq fun K160 hK160 => ?_
  -- region 5
  refine WC.region ?_
  -- R5.0 8 := icmp.go:14 binOp
  refine WL.v (by first | exact r_eql rfl rfl (decide_eq_true (by omega)) | exact r_eql rfl rfl (decide_eq_false (by omega)) | exact r_eql rfl rfl rfl) rfl rfl rfl ?_
  -- R5.1 4 := icmp.go:14 assign
  refine WL.v (by first | exact r_assign (v := .bool _) rfl | exact r_assign rfl) rfl rfl rfl ?_
  refine WL.fin hK160 (fun _ _ h => h) ?_
  refine WC.condF rfl rfl ?_
  -- region 6
  refine WC.region ?_
  -- R6.0 9 := icmp.go:14 binOp
  refine WL.v (by first | exact r_eql rfl rfl (decide_eq_true (by omega)) | exact r_eql rfl rfl (decide_eq_false (by omega)) | exact r_eql rfl rfl rfl) rfl rfl rfl ?_
  -- R6.1 4 := icmp.go:14 assign
  refine WL.v (by first | exact r_assign (v := .bool _) rfl | exact r_assign rfl) rfl rfl rfl ?_
  refine WL.fin hK156 (fun _ _ h => h) ?_
  refine WC.condF rfl rfl ?_
  refine WC.skipF hK154 (fun _ _ h => h) ?_
  refine WC.seq fun K161 hK161 => ?_
  -- region 8
  refine WC.region ?_
  -- R8.0 2 := icmp.go:17 assign
  refine WL.v (by first | exact r_assign (v := .bool _) rfl | exact r_assign rfl) rfl rfl rfl ?_
  refine WL.fin hK161 (fun _ _ h => h) ?_
  refine WC.ret1 Tryd.results48 (fun _ _ h => h) rfl ?_
  exact ⟨_, rfl, .inr ⟨rfl, fun h => by unfold icmpE at h; omega⟩, st⟩

theorem opaque_ok (b o : Nat) (x : Nat → Int) (sv : Value) (s : SV) (hx : IpR x) (hs : s.ok) (hl : s.bs.length ≤ 1000000000) (hr : ∀ its w', S0 w0 (its ++ L) w' → CF w' b o 17 (nth (ipL x sv))) (hsr : ∀ its w', S0 w0 (its ++ L) w' → s.rd w') (st : S0 w0 L w) :
    Calls Tryd.prog 30 #[.pointer (some ⟨b, o, none⟩), .slice s.a s.bs.length s.c] w (Ret fun v w' => BoolIs v (opqP x s.bs) ∧ S0 w0 L w') := by
  refine enter [.pointer (some ⟨b, o, none⟩), .slice s.a s.bs.length s.c] Tryd.func30 rfl Tryd.ntmps30 rfl ?_
  show WC _ _ _ 25 [] [(0, .pointer (some ⟨b, o, none⟩)), (1, .slice s.a s.bs.length s.c)] _
  refine WC.seq fun K162 hK162 => ?_
  -- region 0
  refine WC.region ?_
  -- R0.0 4 := frame.go:9 assign
  refine WL.v (by first | exact r_assign (v := .bool _) rfl | exact r_assign rfl) rfl rfl rfl ?_
  refine WL.fin hK162 (fun _ _ h => h) ?_
  refine WC.seq fun K163 hK163 => ?_
  refine WC.seq fun K164 hK164 => ?_
  -- region 1
  refine WC.region ?_
  -- R1.0 5 := frame.go:10 move
  refine WL.v (by first | exact r_move (v := .pointer _) rfl | exact r_move rfl) rfl rfl rfl ?_
  -- R1.1 6 := frame.go:10 call
  refine WL.call (r_call ty_call47 rfl) rfl rfl rfl (frag_ok b o x sv hx hr st) ?_
  rintro fv w ⟨hf, st⟩
  refine WL.fin hK164 (fun _ _ h => h) ?_
  rcases hf with ⟨rfl, hf⟩ | ⟨rfl, hf⟩
  · skip
    refine WC.condT rfl rfl ?_
    refine WC.seq fun K165 hK165 => ?_
    -- region 2
    refine WC.region ?_
    -- R2.0 4 := frame.go:11 assign
    refine WL.v (by first | exact r_assign (v := .bool _) rfl | exact r_assign rfl) rfl rfl rfl ?_
    refine WL.fin hK165 (fun _ _ h => h) ?_
    refine WC.ret1 Tryd.results30 (fun _ _ h => h) rfl ?_
    exact ⟨_, rfl, .inl ⟨rfl, .inl hf⟩, st⟩
  by_cases h6 : x 6 = 6
  · skip
    refine WC.condF rfl rfl ?_
    refine WC.skipF hK163 (fun _ _ h => h) ?_
    refine WC.seq fun K166 hK166 => ?_
    refine WC.seq fun K167 hK167 => ?_
    -- region 3
    refine WC.region ?_
    -- R3.0 7 := frame.go:13 move
    refine WL.v (by first | exact r_move (v := .pointer _) rfl | exact r_move rfl) rfl rfl rfl ?_
    -- R3.1 8 := frame.go:13 nilCheck
    refine WL.v (by exact r_nilCheck rfl) rfl rfl rfl ?_
    -- R3.2 9 := frame.go:13 fieldAddr
    refine WL.v (by exact r_field ty_fld36_6 rfl) rfl rfl rfl ?_
    -- R3.3 10 := frame.go:13 load
    refine WL.v (by first | exact r_load1 ty_one5 rfl (hr [] _ st 6 (by decide)) | exact r_load1 ty_one5 rfl (hr _ _ st 6 (by decide)) | exact r_load1 ty_one5 rfl (hr [_] _ st 6 (by decide)) | exact r_load1 ty_one5 rfl (hr [_, _] _ st 6 (by decide)) | exact r_load1 ty_one5 rfl (hr [_, _, _] _ st 6 (by decide))) rfl rfl rfl ?_
    refine WL.fin hK167 (fun _ _ h => h) ?_
    refine WC.block ?_
    refine WC.seq fun K168 hK168 => ?_
    -- region 4
    refine WC.region ?_
    -- R4.0 12 := frame.go:14 binOp
    refine WL.v (by first | exact r_eql rfl rfl (decide_eq_true (by omega)) | exact r_eql rfl rfl (decide_eq_false (by omega)) | exact r_eql rfl rfl rfl) rfl rfl rfl ?_
    -- R4.1 11 := frame.go:14 assign
    refine WL.v (by first | exact r_assign (v := .bool _) rfl | exact r_assign rfl) rfl rfl rfl ?_
    refine WL.fin hK168 (fun _ _ h => h) ?_
    refine WC.condT rfl rfl ?_
    refine WC.seq fun K169 hK169 => ?_
    -- region 5
    refine WC.region ?_
    -- R5.0 4 := frame.go:15 assign
    refine WL.v (by first | exact r_assign (v := .bool _) rfl | exact r_assign rfl) rfl rfl rfl ?_
    refine WL.fin hK169 (fun _ _ h => h) ?_
    refine WC.ret1 Tryd.results30 (fun _ _ h => h) rfl ?_
    exact ⟨_, rfl, .inr ⟨rfl, fun h => h.elim hf (fun h => h.1 h6)⟩, st⟩
  by_cases h1 : x 6 = 1
  · by_cases h0 : s.bs.length = 0
    · skip
      refine WC.condF rfl rfl ?_
      refine WC.skipF hK163 (fun _ _ h => h) ?_
      refine WC.seq fun K170 hK170 => ?_
      refine WC.seq fun K171 hK171 => ?_
      -- region 3
      refine WC.region ?_
      -- R3.0 7 := frame.go:13 move
      refine WL.v (by first | exact r_move (v := .pointer _) rfl | exact r_move rfl) rfl rfl rfl ?_
      -- R3.1 8 := frame.go:13 nilCheck
      refine WL.v (by exact r_nilCheck rfl) rfl rfl rfl ?_
      -- R3.2 9 := frame.go:13 fieldAddr
      refine WL.v (by exact r_field ty_fld36_6 rfl) rfl rfl rfl ?_
      -- R3.3 10 := frame.go:13 load
      refine WL.v (by first | exact r_load1 ty_one5 rfl (hr [] _ st 6 (by decide)) | exact r_load1 ty_one5 rfl (hr _ _ st 6 (by decide)) | exact r_load1 ty_one5 rfl (hr [_] _ st 6 (by decide)) | exact r_load1 ty_one5 rfl (hr [_, _] _ st 6 (by decide)) | exact r_load1 ty_one5 rfl (hr [_, _, _] _ st 6 (by decide))) rfl rfl rfl ?_
      refine WL.fin hK171 (fun _ _ h => h) ?_
      refine WC.block ?_
      refine WC.seq fun K172 hK172 => ?_
      -- region 4
      refine WC.region ?_
      -- R4.0 12 := frame.go:14 binOp
      refine WL.v (by first | exact r_eql rfl rfl (decide_eq_true (by omega)) | exact r_eql rfl rfl (decide_eq_false (by omega)) | exact r_eql rfl rfl rfl) rfl rfl rfl ?_
      -- R4.1 11 := frame.go:14 assign
      refine WL.v (by first | exact r_assign (v := .bool _) rfl | exact r_assign rfl) rfl rfl rfl ?_
      refine WL.fin hK172 (fun _ _ h => h) ?_
      refine WC.condF rfl rfl ?_
      refine WC.seq fun K173 hK173 => ?_
      -- region 6
      refine WC.region ?_
      -- R6.0 14 := frame.go:16 binOp
      refine WL.v (by first | exact r_eql rfl rfl (decide_eq_true (by omega)) | exact r_eql rfl rfl (decide_eq_false (by omega)) | exact r_eql rfl rfl rfl) rfl rfl rfl ?_
      -- R6.1 13 := frame.go:16 assign
      refine WL.v (by first | exact r_assign (v := .bool _) rfl | exact r_assign rfl) rfl rfl rfl ?_
      refine WL.fin hK173 (fun _ _ h => h) ?_
      refine WC.condT rfl rfl ?_
      refine WC.seq fun K174 hK174 => ?_
      -- region 7
      refine WC.region ?_
      -- R7.0 15 := frame.go:17 move
      refine WL.v (by first | exact r_move (v := .slice _ _ _) rfl | exact r_move rfl) rfl rfl rfl ?_
      -- R7.1 16 := frame.go:17 call
      refine WL.v (by exact r_len ty_usl25 rfl) rfl rfl rfl ?_
      -- R7.2 17 := frame.go:17 binOp
      refine WL.v (by first | exact r_eql rfl rfl (decide_eq_true (by omega)) | exact r_eql rfl rfl (decide_eq_false (by omega)) | exact r_eql rfl rfl rfl) rfl rfl rfl ?_
      -- R7.3 18 := frame.go:17 move
      refine WL.v (by first | exact r_move (v := .bool _) rfl | exact r_move rfl) rfl rfl rfl ?_
      -- R7.4 19 := frame.go:17 move
      refine WL.no rfl rfl ?_
      -- R7.5 20 := frame.go:17 indexAddr
      refine WL.no rfl rfl ?_
      -- R7.6 21 := frame.go:17 load
      refine WL.no rfl rfl ?_
      -- R7.7 22 := frame.go:17 call
      refine WL.no rfl rfl ?_
      -- R7.8 23 := frame.go:17 unOp
      refine WL.no rfl rfl ?_
      -- R7.9 24 := frame.go:17 pick
      refine WL.v (by first | exact r_pickT (v := .bool _) rfl rfl | exact r_pickF (v := .bool _) rfl rfl) rfl rfl rfl ?_
      -- R7.10 4 := frame.go:17 assign
      refine WL.v (by first | exact r_assign (v := .bool _) rfl | exact r_assign rfl) rfl rfl rfl ?_
      refine WL.fin hK174 (fun _ _ h => h) ?_
      refine WC.ret1 Tryd.results30 (fun _ _ h => h) rfl ?_
      exact ⟨_, rfl, .inl ⟨rfl, .inr ⟨h6, fun _ => .inl h0⟩⟩, st⟩
    · have ha := hs.adr (by omega)
      obtain ⟨a, c, bb, oo, bs⟩ := s
      simp only at ha h0 hl hsr ⊢
      subst ha
      refine WC.condF rfl rfl ?_
      refine WC.skipF hK163 (fun _ _ h => h) ?_
      refine WC.seq fun K175 hK175 => ?_
      refine WC.seq fun K176 hK176 => ?_
      -- region 3
      refine WC.region ?_
      -- R3.0 7 := frame.go:13 move
      refine WL.v (by first | exact r_move (v := .pointer _) rfl | exact r_move rfl) rfl rfl rfl ?_
      -- R3.1 8 := frame.go:13 nilCheck
      refine WL.v (by exact r_nilCheck rfl) rfl rfl rfl ?_
      -- R3.2 9 := frame.go:13 fieldAddr
      refine WL.v (by exact r_field ty_fld36_6 rfl) rfl rfl rfl ?_
      -- R3.3 10 := frame.go:13 load
      refine WL.v (by first | exact r_load1 ty_one5 rfl (hr [] _ st 6 (by decide)) | exact r_load1 ty_one5 rfl (hr _ _ st 6 (by decide)) | exact r_load1 ty_one5 rfl (hr [_] _ st 6 (by decide)) | exact r_load1 ty_one5 rfl (hr [_, _] _ st 6 (by decide)) | exact r_load1 ty_one5 rfl (hr [_, _, _] _ st 6 (by decide))) rfl rfl rfl ?_
      refine WL.fin hK176 (fun _ _ h => h) ?_
      refine WC.block ?_
      refine WC.seq fun K177 hK177 => ?_
      -- region 4
      refine WC.region ?_
      -- R4.0 12 := frame.go:14 binOp
      refine WL.v (by first | exact r_eql rfl rfl (decide_eq_true (by omega)) | exact r_eql rfl rfl (decide_eq_false (by omega)) | exact r_eql rfl rfl rfl) rfl rfl rfl ?_
      -- R4.1 11 := frame.go:14 assign
      refine WL.v (by first | exact r_assign (v := .bool _) rfl | exact r_assign rfl) rfl rfl rfl ?_
      refine WL.fin hK177 (fun _ _ h => h) ?_
      refine WC.condF rfl rfl ?_
      refine WC.seq fun K178 hK178 => ?_
      -- region 6
      refine WC.region ?_
      -- R6.0 14 := frame.go:16 binOp
      refine WL.v (by first | exact r_eql rfl rfl (decide_eq_true (by omega)) | exact r_eql rfl rfl (decide_eq_false (by omega)) | exact r_eql rfl rfl rfl) rfl rfl rfl ?_
      -- R6.1 13 := frame.go:16 assign
      refine WL.v (by first | exact r_assign (v := .bool _) rfl | exact r_assign rfl) rfl rfl rfl ?_
      refine WL.fin hK178 (fun _ _ h => h) ?_
      refine WC.condT rfl rfl ?_
      refine WC.seq fun K179 hK179 => ?_
      -- region 7
      refine WC.region ?_
      -- R7.0 15 := frame.go:17 move
      refine WL.v (by first | exact r_move (v := .slice _ _ _) rfl | exact r_move rfl) rfl rfl rfl ?_
      -- R7.1 16 := frame.go:17 call
      refine WL.v (by exact r_len ty_usl25 rfl) rfl rfl rfl ?_
      -- R7.2 17 := frame.go:17 binOp
      refine WL.v (by first | exact r_eql rfl rfl (decide_eq_true (by omega)) | exact r_eql rfl rfl (decide_eq_false (by omega)) | exact r_eql rfl rfl rfl) rfl rfl rfl ?_
      -- R7.3 18 := frame.go:17 move
      refine WL.v (by first | exact r_move (v := .bool _) rfl | exact r_move rfl) rfl rfl rfl ?_
      -- R7.4 19 := frame.go:17 move
      refine WL.v (by first | exact r_move (v := .slice _ _ _) rfl | exact r_move rfl) rfl rfl rfl ?_
      -- R7.5 20 := frame.go:17 indexAddr
      refine WL.v (by exact r_indexS (j := 0) ty_sl25 rfl rfl rfl (by first | decide | omega)) rfl rfl rfl ?_
      -- R7.6 21 := frame.go:17 load
      refine WL.v (by exact r_load1 ty_one5 rfl (hsr [] _ st 0 (by simp only; omega))) rfl rfl rfl ?_
      -- R7.7 22 := frame.go:17 call
      refine WL.call (r_call ty_call48 rfl) rfl rfl rfl (icmpE_ok (bs.getD 0 0) st) ?_
      rintro fv w ⟨hi, st⟩
      obtain ⟨tt, rfl, hi2⟩ := BoolIs.t hi
      -- R7.8 23 := frame.go:17 unOp
      refine WL.v (by first | exact r_notT rfl | exact r_notF rfl | exact r_not rfl) rfl rfl rfl ?_
      -- R7.9 24 := frame.go:17 pick
      refine WL.v (by first | exact r_pickT (v := .bool _) rfl rfl | exact r_pickF (v := .bool _) rfl rfl) rfl rfl rfl ?_
      -- R7.10 4 := frame.go:17 assign
      refine WL.v (by first | exact r_assign (v := .bool _) rfl | exact r_assign rfl) rfl rfl rfl ?_
      refine WL.fin hK179 (fun _ _ h => h) ?_
      refine WC.ret1 Tryd.results30 (fun _ _ h => h) rfl ?_
      refine ⟨_, rfl, BoolIs.of ⟨fun h => .inr ⟨h6, fun _ => .inr fun hc => ?_⟩, fun h => ?_⟩, st⟩
      · rw [hi2.2 hc] at h; cases h
      · rcases h with h | h
        · exact absurd h hf
        · rcases h.2 h1 with h | h
          · exact absurd h h0
          · cases tt with
            | true => exact absurd (hi2.1 rfl) h
            | false => rfl
  refine WC.condF rfl rfl ?_
  refine WC.skipF hK163 (fun _ _ h => h) ?_
  refine WC.seq fun K180 hK180 => ?_
  refine WC.seq fun K181 hK181 => ?_
  -- region 3
  refine WC.region ?_
  -- R3.0 7 := frame.go:13 move
  refine WL.v (by first | exact r_move (v := .pointer _) rfl | exact r_move rfl) rfl rfl rfl ?_
  -- R3.1 8 := frame.go:13 nilCheck
  refine WL.v (by exact r_nilCheck rfl) rfl rfl rfl ?_
  -- R3.2 9 := frame.go:13 fieldAddr
  refine WL.v (by exact r_field ty_fld36_6 rfl) rfl rfl rfl ?_
  -- R3.3 10 := frame.go:13 load
  refine WL.v (by first | exact r_load1 ty_one5 rfl (hr [] _ st 6 (by decide)) | exact r_load1 ty_one5 rfl (hr _ _ st 6 (by decide)) | exact r_load1 ty_one5 rfl (hr [_] _ st 6 (by decide)) | exact r_load1 ty_one5 rfl (hr [_, _] _ st 6 (by decide)) | exact r_load1 ty_one5 rfl (hr [_, _, _] _ st 6 (by decide))) rfl rfl rfl ?_
  refine WL.fin hK181 (fun _ _ h => h) ?_
  refine WC.block ?_
  refine WC.seq fun K182 hK182 => ?_
  -- region 4
  refine WC.region ?_
  -- R4.0 12 := frame.go:14 binOp
  refine WL.v (by first | exact r_eql rfl rfl (decide_eq_true (by omega)) | exact r_eql rfl rfl (decide_eq_false (by omega)) | exact r_eql rfl rfl rfl) rfl rfl rfl ?_
  -- R4.1 11 := frame.go:14 assign
  refine WL.v (by first | exact r_assign (v := .bool _) rfl | exact r_assign rfl) rfl rfl rfl ?_
  refine WL.fin hK182 (fun _ _ h => h) ?_
  refine WC.condF rfl rfl ?_
  refine WC.seq fun K183 hK183 => ?_
  -- region 6
  refine WC.region ?_
  -- R6.0 14 := frame.go:16 binOp
  refine WL.v (by first | exact r_eql rfl rfl (decide_eq_true (by omega)) | exact r_eql rfl rfl (decide_eq_false (by omega)) | exact r_eql rfl rfl rfl) rfl rfl rfl ?_
  -- R6.1 13 := frame.go:16 assign
  refine WL.v (by first | exact r_assign (v := .bool _) rfl | exact r_assign rfl) rfl rfl rfl ?_
  refine WL.fin hK183 (fun _ _ h => h) ?_
  refine WC.condF rfl rfl ?_
  refine WC.skipF hK180 (fun _ _ h => h) ?_
  refine WC.seq fun K184 hK184 => ?_
  -- region 8
  refine WC.region ?_
  -- R8.0 4 := frame.go:19 assign
  refine WL.v (by first | exact r_assign (v := .bool _) rfl | exact r_assign rfl) rfl rfl rfl ?_
  refine WL.fin hK184 (fun _ _ h => h) ?_
  refine WC.ret1 Tryd.results30 (fun _ _ h => h) rfl ?_
  exact ⟨_, rfl, .inl ⟨rfl, .inr ⟨h6, fun h => absurd h h1⟩⟩, st⟩

theorem checkOpt_ok (hE : ErrOk w0 ET EU) (a : Option Addr) (n c : Nat) (hn : n ≤ 1000000000) (st : S0 w0 L w) : Calls Tryd.prog 73 #[.slice a n c] w (Ret fun v w' => IfErr v (optP n) ∧ S0 w0 L w') := by
  by_cases h4 : n % 4 = 0
  · skip
    by_cases h40 : n ≤ 40
    · skip
      refine enter [.slice a n c] Tryd.func73 rfl Tryd.ntmps73 rfl ?_
      show WC _ _ _ 13 [] [(0, .slice a n c)] _
      refine WC.seq fun K185 hK185 => ?_
      -- region 0
      refine WC.region ?_
      -- R0.0 2 := ipv4.go:63 assign
      refine WL.v (by first | exact r_assign (v := .nilIface) rfl | exact r_assign (v := .iface _ _) rfl | exact r_assign rfl) rfl rfl rfl ?_
      refine WL.fin hK185 (fun _ _ h => h) ?_
      refine WC.seq fun K186 hK186 => ?_
      refine WC.seq fun K187 hK187 => ?_
      -- region 1
      refine WC.region ?_
      -- R1.0 3 := ipv4.go:64 move
      refine WL.v (by first | exact r_move (v := .slice _ _ _) rfl | exact r_move rfl) rfl rfl rfl ?_
      -- R1.1 4 := ipv4.go:64 call
      refine WL.v (by exact r_len ty_usl25 rfl) rfl rfl rfl ?_
      -- R1.2 5 := ipv4.go:64 binOp
      refine WL.v (by exact r_rem (r := ((n % 4 : Nat) : Int)) rfl rfl (by omega) rfl) rfl rfl rfl ?_
      -- R1.3 6 := ipv4.go:64 binOp
      refine WL.v (by first | exact r_neq rfl rfl (decide_eq_true (by omega)) | exact r_neq rfl rfl (decide_eq_false (by omega)) | exact r_neq rfl rfl rfl) rfl rfl rfl ?_
      -- R1.4 7 := ipv4.go:64 move
      refine WL.v (by first | exact r_move (v := .bool _) rfl | exact r_move rfl) rfl rfl rfl ?_
      -- R1.5 8 := ipv4.go:64 move
      refine WL.v (by first | exact r_move (v := .slice _ _ _) rfl | exact r_move rfl) rfl rfl rfl ?_
      -- R1.6 9 := ipv4.go:64 call
      refine WL.v (by exact r_len ty_usl25 rfl) rfl rfl rfl ?_
      -- R1.7 10 := ipv4.go:64 binOp
      refine WL.v (by first | exact r_gtr rfl rfl (decide_eq_true (by omega)) | exact r_gtr rfl rfl (decide_eq_false (by omega)) | exact r_gtr rfl rfl rfl) rfl rfl rfl ?_
      -- R1.8 11 := ipv4.go:64 pick
      refine WL.v (by first | exact r_pickT (v := .bool _) rfl rfl | exact r_pickF (v := .bool _) rfl rfl) rfl rfl rfl ?_
      refine WL.fin hK187 (fun _ _ h => h) ?_
      refine WC.condF rfl rfl ?_
      refine WC.skipF hK186 (fun _ _ h => h) ?_
      refine WC.seq fun K188 hK188 => ?_
      -- region 3
      refine WC.region ?_
      -- R3.0 2 := ipv4.go:67 assign
      refine WL.v (by first | exact r_assign (v := .nilIface) rfl | exact r_assign (v := .iface _ _) rfl | exact r_assign rfl) rfl rfl rfl ?_
      refine WL.fin hK188 (fun _ _ h => h) ?_
      refine WC.ret1 Tryd.results73 (fun _ _ h => h) rfl ?_
      exact ⟨_, rfl, .inl ⟨rfl, h4, h40⟩, st⟩
    · skip
      refine enter [.slice a n c] Tryd.func73 rfl Tryd.ntmps73 rfl ?_
      show WC _ _ _ 13 [] [(0, .slice a n c)] _
      refine WC.seq fun K189 hK189 => ?_
      -- region 0
      refine WC.region ?_
      -- R0.0 2 := ipv4.go:63 assign
      refine WL.v (by first | exact r_assign (v := .nilIface) rfl | exact r_assign (v := .iface _ _) rfl | exact r_assign rfl) rfl rfl rfl ?_
      refine WL.fin hK189 (fun _ _ h => h) ?_
      refine WC.seq fun K190 hK190 => ?_
      refine WC.seq fun K191 hK191 => ?_
      -- region 1
      refine WC.region ?_
      -- R1.0 3 := ipv4.go:64 move
      refine WL.v (by first | exact r_move (v := .slice _ _ _) rfl | exact r_move rfl) rfl rfl rfl ?_
      -- R1.1 4 := ipv4.go:64 call
      refine WL.v (by exact r_len ty_usl25 rfl) rfl rfl rfl ?_
      -- R1.2 5 := ipv4.go:64 binOp
      refine WL.v (by exact r_rem (r := ((n % 4 : Nat) : Int)) rfl rfl (by omega) rfl) rfl rfl rfl ?_
      -- R1.3 6 := ipv4.go:64 binOp
      refine WL.v (by first | exact r_neq rfl rfl (decide_eq_true (by omega)) | exact r_neq rfl rfl (decide_eq_false (by omega)) | exact r_neq rfl rfl rfl) rfl rfl rfl ?_
      -- R1.4 7 := ipv4.go:64 move
      refine WL.v (by first | exact r_move (v := .bool _) rfl | exact r_move rfl) rfl rfl rfl ?_
      -- R1.5 8 := ipv4.go:64 move
      refine WL.v (by first | exact r_move (v := .slice _ _ _) rfl | exact r_move rfl) rfl rfl rfl ?_
      -- R1.6 9 := ipv4.go:64 call
      refine WL.v (by exact r_len ty_usl25 rfl) rfl rfl rfl ?_
      -- R1.7 10 := ipv4.go:64 binOp
      refine WL.v (by first | exact r_gtr rfl rfl (decide_eq_true (by omega)) | exact r_gtr rfl rfl (decide_eq_false (by omega)) | exact r_gtr rfl rfl rfl) rfl rfl rfl ?_
      -- R1.8 11 := ipv4.go:64 pick
      refine WL.v (by first | exact r_pickT (v := .bool _) rfl rfl | exact r_pickF (v := .bool _) rfl rfl) rfl rfl rfl ?_
      refine WL.fin hK191 (fun _ _ h => h) ?_
      refine WC.condT rfl rfl ?_
      refine WC.seq fun K192 hK192 => ?_
      -- region 2
      refine WC.region ?_
      -- R2.0 12 := ipv4.go:65 load
      refine WL.v (by exact r_load1 ty_one47 rfl (st.old (fun h => h) (hE 18 (by decide)))) rfl rfl rfl ?_
      -- R2.1 2 := ipv4.go:65 assign
      refine WL.v (by first | exact r_assign (v := .nilIface) rfl | exact r_assign (v := .iface _ _) rfl | exact r_assign rfl) rfl rfl rfl ?_
      refine WL.fin hK192 (fun _ _ h => h) ?_
      refine WC.ret1 Tryd.results73 (fun _ _ h => h) rfl ?_
      exact ⟨_, rfl, .inr ⟨⟨_, _, rfl⟩, fun h => h40 h.2⟩, st⟩
  · skip
    refine enter [.slice a n c] Tryd.func73 rfl Tryd.ntmps73 rfl ?_
    show WC _ _ _ 13 [] [(0, .slice a n c)] _
    refine WC.seq fun K193 hK193 => ?_
    -- region 0
    refine WC.region ?_
    -- R0.0 2 := ipv4.go:63 assign
    refine WL.v (by first | exact r_assign (v := .nilIface) rfl | exact r_assign (v := .iface _ _) rfl | exact r_assign rfl) rfl rfl rfl ?_
    refine WL.fin hK193 (fun _ _ h => h) ?_
    refine WC.seq fun K194 hK194 => ?_
    refine WC.seq fun K195 hK195 => ?_
    -- region 1
    refine WC.region ?_
    -- R1.0 3 := ipv4.go:64 move
    refine WL.v (by first | exact r_move (v := .slice _ _ _) rfl | exact r_move rfl) rfl rfl rfl ?_
    -- R1.1 4 := ipv4.go:64 call
    refine WL.v (by exact r_len ty_usl25 rfl) rfl rfl rfl ?_
    -- R1.2 5 := ipv4.go:64 binOp
    refine WL.v (by exact r_rem (r := ((n % 4 : Nat) : Int)) rfl rfl (by omega) rfl) rfl rfl rfl ?_
    -- R1.3 6 := ipv4.go:64 binOp
    refine WL.v (by first | exact r_neq rfl rfl (decide_eq_true (by omega)) | exact r_neq rfl rfl (decide_eq_false (by omega)) | exact r_neq rfl rfl rfl) rfl rfl rfl ?_
    -- R1.4 7 := ipv4.go:64 move
    refine WL.v (by first | exact r_move (v := .bool _) rfl | exact r_move rfl) rfl rfl rfl ?_
    -- R1.5 8 := ipv4.go:64 move
    refine WL.no rfl rfl ?_
    -- R1.6 9 := ipv4.go:64 call
    refine WL.no rfl rfl ?_
    -- R1.7 10 := ipv4.go:64 binOp
    refine WL.no rfl rfl ?_
    -- R1.8 11 := ipv4.go:64 pick
    refine WL.v (by first | exact r_pickT (v := .bool _) rfl rfl | exact r_pickF (v := .bool _) rfl rfl) rfl rfl rfl ?_
    refine WL.fin hK195 (fun _ _ h => h) ?_
    refine WC.condT rfl rfl ?_
    refine WC.seq fun K196 hK196 => ?_
    -- region 2
    refine WC.region ?_
    -- R2.0 12 := ipv4.go:65 load
    refine WL.v (by exact r_load1 ty_one47 rfl (st.old (fun h => h) (hE 18 (by decide)))) rfl rfl rfl ?_
    -- R2.1 2 := ipv4.go:65 assign
    refine WL.v (by first | exact r_assign (v := .nilIface) rfl | exact r_assign (v := .iface _ _) rfl | exact r_assign rfl) rfl rfl rfl ?_
    refine WL.fin hK196 (fun _ _ h => h) ?_
    refine WC.ret1 Tryd.results73 (fun _ _ h => h) rfl ?_
    exact ⟨_, rfl, .inr ⟨⟨_, _, rfl⟩, fun h => h4 h.1⟩, st⟩

theorem checkIp_ok (hE : ErrOk w0 ET EU) (b o : Nat) (x : Nat → Int) (s : SV) (hx : IpR x) (hl : s.bs.length ≤ 1000000000) (hr : ∀ its w', S0 w0 (its ++ L) w' → CF w' b o 17 (nth (ipL x s.v))) (st : S0 w0 L w) :
    Calls Tryd.prog 50 #[.pointer (some ⟨b, o, none⟩)] w (Ret fun v w' => IfErr v (ipP x s.bs.length) ∧ S0 w0 L w') := by
  have h1 := hx.r1
  by_cases h7 : 7 < x 3
  · skip
    refine enter [.pointer (some ⟨b, o, none⟩)] Tryd.func50 rfl Tryd.ntmps50 rfl ?_
    show WC _ _ _ 34 [] [(0, .pointer (some ⟨b, o, none⟩))] _
    refine WC.seq fun K197 hK197 => ?_
    -- region 0
    refine WC.region ?_
    -- R0.0 2 := ipv4.go:73 assign
    refine WL.v (by first | exact r_assign (v := .nilIface) rfl | exact r_assign (v := .iface _ _) rfl | exact r_assign rfl) rfl rfl rfl ?_
    refine WL.fin hK197 (fun _ _ h => h) ?_
    refine WC.seq fun K198 hK198 => ?_
    refine WC.seq fun K199 hK199 => ?_
    -- region 1
    refine WC.region ?_
    -- R1.0 4 := ipv4.go:74 move
    refine WL.v (by first | exact r_move (v := .pointer _) rfl | exact r_move rfl) rfl rfl rfl ?_
    -- R1.1 5 := ipv4.go:74 nilCheck
    refine WL.v (by exact r_nilCheck rfl) rfl rfl rfl ?_
    -- R1.2 6 := ipv4.go:74 fieldAddr
    refine WL.v (by exact r_field ty_fld36_3 rfl) rfl rfl rfl ?_
    -- R1.3 7 := ipv4.go:74 load
    refine WL.v (by first | exact r_load1 ty_one5 rfl (hr [] _ st 3 (by decide)) | exact r_load1 ty_one5 rfl (hr _ _ st 3 (by decide)) | exact r_load1 ty_one5 rfl (hr [_] _ st 3 (by decide)) | exact r_load1 ty_one5 rfl (hr [_, _] _ st 3 (by decide)) | exact r_load1 ty_one5 rfl (hr [_, _, _] _ st 3 (by decide))) rfl rfl rfl ?_
    -- R1.4 8 := ipv4.go:74 binOp
    refine WL.v (by first | exact r_gtr rfl rfl (decide_eq_true (by omega)) | exact r_gtr rfl rfl (decide_eq_false (by omega)) | exact r_gtr rfl rfl rfl) rfl rfl rfl ?_
    -- R1.5 9 := ipv4.go:74 move
    refine WL.v (by first | exact r_move (v := .bool _) rfl | exact r_move rfl) rfl rfl rfl ?_
    -- R1.6 10 := ipv4.go:74 move
    refine WL.no rfl rfl ?_
    -- R1.7 11 := ipv4.go:74 nilCheck
    refine WL.no rfl rfl ?_
    -- R1.8 12 := ipv4.go:74 fieldAddr
    refine WL.no rfl rfl ?_
    -- R1.9 13 := ipv4.go:74 load
    refine WL.no rfl rfl ?_
    -- R1.10 14 := ipv4.go:74 binOp
    refine WL.no rfl rfl ?_
    -- R1.11 15 := ipv4.go:74 pick
    refine WL.v (by first | exact r_pickT (v := .bool _) rfl rfl | exact r_pickF (v := .bool _) rfl rfl) rfl rfl rfl ?_
    refine WL.fin hK199 (fun _ _ h => h) ?_
    refine WC.condT rfl rfl ?_
    refine WC.seq fun K200 hK200 => ?_
    -- region 2
    refine WC.region ?_
    -- R2.0 16 := ipv4.go:75 load
    refine WL.v (by exact r_load1 ty_one47 rfl (st.old (fun h => h) (hE 16 (by decide)))) rfl rfl rfl ?_
    -- R2.1 2 := ipv4.go:75 assign
    refine WL.v (by first | exact r_assign (v := .nilIface) rfl | exact r_assign (v := .iface _ _) rfl | exact r_assign rfl) rfl rfl rfl ?_
    refine WL.fin hK200 (fun _ _ h => h) ?_
    refine WC.ret1 Tryd.results50 (fun _ _ h => h) rfl ?_
    exact ⟨_, rfl, .inr ⟨⟨_, _, rfl⟩, fun h => by have := h.1; omega⟩, st⟩
  by_cases h8 : 8191 < x 4
  · skip
    refine enter [.pointer (some ⟨b, o, none⟩)] Tryd.func50 rfl Tryd.ntmps50 rfl ?_
    show WC _ _ _ 34 [] [(0, .pointer (some ⟨b, o, none⟩))] _
    refine WC.seq fun K201 hK201 => ?_
    -- region 0
    refine WC.region ?_
    -- R0.0 2 := ipv4.go:73 assign
    refine WL.v (by first | exact r_assign (v := .nilIface) rfl | exact r_assign (v := .iface _ _) rfl | exact r_assign rfl) rfl rfl rfl ?_
    refine WL.fin hK201 (fun _ _ h => h) ?_
    refine WC.seq fun K202 hK202 => ?_
    refine WC.seq fun K203 hK203 => ?_
    -- region 1
    refine WC.region ?_
    -- R1.0 4 := ipv4.go:74 move
    refine WL.v (by first | exact r_move (v := .pointer _) rfl | exact r_move rfl) rfl rfl rfl ?_
    -- R1.1 5 := ipv4.go:74 nilCheck
    refine WL.v (by exact r_nilCheck rfl) rfl rfl rfl ?_
    -- R1.2 6 := ipv4.go:74 fieldAddr
    refine WL.v (by exact r_field ty_fld36_3 rfl) rfl rfl rfl ?_
    -- R1.3 7 := ipv4.go:74 load
    refine WL.v (by first | exact r_load1 ty_one5 rfl (hr [] _ st 3 (by decide)) | exact r_load1 ty_one5 rfl (hr _ _ st 3 (by decide)) | exact r_load1 ty_one5 rfl (hr [_] _ st 3 (by decide)) | exact r_load1 ty_one5 rfl (hr [_, _] _ st 3 (by decide)) | exact r_load1 ty_one5 rfl (hr [_, _, _] _ st 3 (by decide))) rfl rfl rfl ?_
    -- R1.4 8 := ipv4.go:74 binOp
    refine WL.v (by first | exact r_gtr rfl rfl (decide_eq_true (by omega)) | exact r_gtr rfl rfl (decide_eq_false (by omega)) | exact r_gtr rfl rfl rfl) rfl rfl rfl ?_
    -- R1.5 9 := ipv4.go:74 move
    refine WL.v (by first | exact r_move (v := .bool _) rfl | exact r_move rfl) rfl rfl rfl ?_
    -- R1.6 10 := ipv4.go:74 move
    refine WL.v (by first | exact r_move (v := .pointer _) rfl | exact r_move rfl) rfl rfl rfl ?_
    -- R1.7 11 := ipv4.go:74 nilCheck
    refine WL.v (by exact r_nilCheck rfl) rfl rfl rfl ?_
    -- R1.8 12 := ipv4.go:74 fieldAddr
    refine WL.v (by exact r_field ty_fld36_4 rfl) rfl rfl rfl ?_
    -- R1.9 13 := ipv4.go:74 load
    refine WL.v (by first | exact r_load1 ty_one30 rfl (hr [] _ st 4 (by decide)) | exact r_load1 ty_one30 rfl (hr _ _ st 4 (by decide)) | exact r_load1 ty_one30 rfl (hr [_] _ st 4 (by decide)) | exact r_load1 ty_one30 rfl (hr [_, _] _ st 4 (by decide)) | exact r_load1 ty_one30 rfl (hr [_, _, _] _ st 4 (by decide))) rfl rfl rfl ?_
    -- R1.10 14 := ipv4.go:74 binOp
    refine WL.v (by first | exact r_gtr rfl rfl (decide_eq_true (by omega)) | exact r_gtr rfl rfl (decide_eq_false (by omega)) | exact r_gtr rfl rfl rfl) rfl rfl rfl ?_
    -- R1.11 15 := ipv4.go:74 pick
    refine WL.v (by first | exact r_pickT (v := .bool _) rfl rfl | exact r_pickF (v := .bool _) rfl rfl) rfl rfl rfl ?_
    refine WL.fin hK203 (fun _ _ h => h) ?_
    refine WC.condT rfl rfl ?_
    refine WC.seq fun K204 hK204 => ?_
    -- region 2
    refine WC.region ?_
    -- R2.0 16 := ipv4.go:75 load
    refine WL.v (by exact r_load1 ty_one47 rfl (st.old (fun h => h) (hE 16 (by decide)))) rfl rfl rfl ?_
    -- R2.1 2 := ipv4.go:75 assign
    refine WL.v (by first | exact r_assign (v := .nilIface) rfl | exact r_assign (v := .iface _ _) rfl | exact r_assign rfl) rfl rfl rfl ?_
    refine WL.fin hK204 (fun _ _ h => h) ?_
    refine WC.ret1 Tryd.results50 (fun _ _ h => h) rfl ?_
    exact ⟨_, rfl, .inr ⟨⟨_, _, rfl⟩, fun h => by have := h.2.1; omega⟩, st⟩
  refine enter [.pointer (some ⟨b, o, none⟩)] Tryd.func50 rfl Tryd.ntmps50 rfl ?_
  show WC _ _ _ 34 [] [(0, .pointer (some ⟨b, o, none⟩))] _
  refine WC.seq fun K205 hK205 => ?_
  -- region 0
  refine WC.region ?_
  -- R0.0 2 := ipv4.go:73 assign
  refine WL.v (by first | exact r_assign (v := .nilIface) rfl | exact r_assign (v := .iface _ _) rfl | exact r_assign rfl) rfl rfl rfl ?_
  refine WL.fin hK205 (fun _ _ h => h) ?_
  refine WC.seq fun K206 hK206 => ?_
  refine WC.seq fun K207 hK207 => ?_
  -- region 1
  refine WC.region ?_
  -- R1.0 4 := ipv4.go:74 move
  refine WL.v (by first | exact r_move (v := .pointer _) rfl | exact r_move rfl) rfl rfl rfl ?_
  -- R1.1 5 := ipv4.go:74 nilCheck
  refine WL.v (by exact r_nilCheck rfl) rfl rfl rfl ?_
  -- R1.2 6 := ipv4.go:74 fieldAddr
  refine WL.v (by exact r_field ty_fld36_3 rfl) rfl rfl rfl ?_
  -- R1.3 7 := ipv4.go:74 load
  refine WL.v (by first | exact r_load1 ty_one5 rfl (hr [] _ st 3 (by decide)) | exact r_load1 ty_one5 rfl (hr _ _ st 3 (by decide)) | exact r_load1 ty_one5 rfl (hr [_] _ st 3 (by decide)) | exact r_load1 ty_one5 rfl (hr [_, _] _ st 3 (by decide)) | exact r_load1 ty_one5 rfl (hr [_, _, _] _ st 3 (by decide))) rfl rfl rfl ?_
  -- R1.4 8 := ipv4.go:74 binOp
  refine WL.v (by first | exact r_gtr rfl rfl (decide_eq_true (by omega)) | exact r_gtr rfl rfl (decide_eq_false (by omega)) | exact r_gtr rfl rfl rfl) rfl rfl rfl ?_
  -- R1.5 9 := ipv4.go:74 move
  refine WL.v (by first | exact r_move (v := .bool _) rfl | exact r_move rfl) rfl rfl rfl ?_
  -- R1.6 10 := ipv4.go:74 move
  refine WL.v (by first | exact r_move (v := .pointer _) rfl | exact r_move rfl) rfl rfl rfl ?_
  -- R1.7 11 := ipv4.go:74 nilCheck
  refine WL.v (by exact r_nilCheck rfl) rfl rfl rfl ?_
  -- R1.8 12 := ipv4.go:74 fieldAddr
  refine WL.v (by exact r_field ty_fld36_4 rfl) rfl rfl rfl ?_
  -- R1.9 13 := ipv4.go:74 load
  refine WL.v (by first | exact r_load1 ty_one30 rfl (hr [] _ st 4 (by decide)) | exact r_load1 ty_one30 rfl (hr _ _ st 4 (by decide)) | exact r_load1 ty_one30 rfl (hr [_] _ st 4 (by decide)) | exact r_load1 ty_one30 rfl (hr [_, _] _ st 4 (by decide)) | exact r_load1 ty_one30 rfl (hr [_, _, _] _ st 4 (by decide))) rfl rfl rfl ?_
  -- R1.10 14 := ipv4.go:74 binOp
  refine WL.v (by first | exact r_gtr rfl rfl (decide_eq_true (by omega)) | exact r_gtr rfl rfl (decide_eq_false (by omega)) | exact r_gtr rfl rfl rfl) rfl rfl rfl ?_
  -- R1.11 15 := ipv4.go:74 pick
  refine WL.v (by first | exact r_pickT (v := .bool _) rfl rfl | exact r_pickF (v := .bool _) rfl rfl) rfl rfl rfl ?_
  refine WL.fin hK207 (fun _ _ h => h) ?_
  refine WC.condF rfl rfl ?_
  refine WC.skipF hK206 (fun _ _ h => h) ?_
  refine WC.seq fun K208 hK208 => ?_
  refine WC.seq fun K209 hK209 => ?_
  -- region 3
  refine WC.region ?_
  -- R3.0 17 := ipv4.go:77 move
  refine WL.v (by first | exact r_move (v := .pointer _) rfl | exact r_move rfl) rfl rfl rfl ?_
  -- R3.1 18 := ipv4.go:77 nilCheck
  refine WL.v (by exact r_nilCheck rfl) rfl rfl rfl ?_
  -- R3.2 19 := ipv4.go:77 fieldAddr
  refine WL.v (by exact r_field ty_fld36_10 rfl) rfl rfl rfl ?_
  -- R3.3 20 := ipv4.go:77 load
  refine WL.v (by first | exact r_load1 ty_one25 rfl (hr [] _ st 16 (by decide)) | exact r_load1 ty_one25 rfl (hr _ _ st 16 (by decide)) | exact r_load1 ty_one25 rfl (hr [_] _ st 16 (by decide)) | exact r_load1 ty_one25 rfl (hr [_, _] _ st 16 (by decide)) | exact r_load1 ty_one25 rfl (hr [_, _, _] _ st 16 (by decide))) rfl rfl rfl ?_
  -- R3.4 21 := ipv4.go:77 call
  refine WL.call (r_call ty_call73 rfl) rfl rfl rfl (checkOpt_ok hE s.a s.bs.length s.c hl st) ?_
  rintro ev w ⟨he, st⟩
  -- R3.5 3 := ipv4.go:77 assign
  refine WL.v (by first | exact r_assign (v := .nilIface) rfl | exact r_assign (v := .iface _ _) rfl | exact r_assign rfl) rfl rfl rfl ?_
  refine WL.fin hK209 (fun _ _ h => h) ?_
  rcases he with ⟨rfl, he⟩ | ⟨⟨T, u, rfl⟩, he⟩
  · skip
    refine WC.seq fun K210 hK210 => ?_
    -- region 4
    refine WC.region ?_
    -- R4.0 22 := ipv4.go:77 move
    refine WL.v (by first | exact r_move (v := .nilIface) rfl | exact r_move (v := .iface _ _) rfl | exact r_move rfl) rfl rfl rfl ?_
    -- R4.1 23 := ipv4.go:77 binOp
    refine WL.v (by first | exact r_nil_neq ty_ifc47 rfl | exact r_some_neq ty_ifc47 rfl) rfl rfl rfl ?_
    refine WL.fin hK210 (fun _ _ h => h) ?_
    by_cases h9 : x 1 < 20 + (s.bs.length : Int)
    · skip
      refine WC.condF rfl rfl ?_
      refine WC.skipF hK208 (fun _ _ h => h) ?_
      refine WC.seq fun K211 hK211 => ?_
      refine WC.seq fun K212 hK212 => ?_
      -- region 6 (draws)
      refine WC.quietS st ty_mixed (by kernel_rfl) fun Kq hKq => ?_
      -- R6.0 25 := ipv4.go:80 move
      refine QL.v (fun w st => by first | exact r_move (v := .pointer _) rfl | exact r_move rfl) rfl rfl rfl ?_
      -- R6.1 26 := ipv4.go:80 nilCheck
      refine QL.v (fun w st => by exact r_nilCheck rfl) rfl rfl rfl ?_
      -- R6.2 27 := ipv4.go:80 fieldAddr
      refine QL.v (fun w st => by exact r_field ty_fld36_1 rfl) rfl rfl rfl ?_
      -- R6.3 28 := ipv4.go:80 load
      refine QL.v (fun w st => by first | exact r_load1 ty_one30 rfl (hr [] _ st 1 (by decide)) | exact r_load1 ty_one30 rfl (hr _ _ st 1 (by decide)) | exact r_load1 ty_one30 rfl (hr [_] _ st 1 (by decide)) | exact r_load1 ty_one30 rfl (hr [_, _] _ st 1 (by decide)) | exact r_load1 ty_one30 rfl (hr [_, _, _] _ st 1 (by decide))) rfl rfl rfl ?_
      -- R6.4 29 := ipv4.go:80 convert
      refine QL.v (fun w st => by first | exact r_conv ty_cv30_3 rfl (wi64 (by omega) (by omega)) | exact r_conv ty_cv30_3 rfl rfl) rfl rfl rfl ?_
      -- R6.5 30 := ipv4.go:80 move
      refine QL.v (fun w st => by first | exact r_move (v := .pointer _) rfl | exact r_move rfl) rfl rfl rfl ?_
      -- R6.6 31 := ipv4.go:80 call
      refine QL.call (val := .int .i64 ((20 + s.bs.length : Nat) : Int)) (fun w st => r_call ty_call29 rfl) rfl rfl rfl (fun w st => ipLen_ok b o x s hl hr st) ?_
      -- R6.7 32 := ipv4.go:80 binOp
      refine QL.v (fun w st => by first | exact r_lss rfl rfl (decide_eq_true (by omega)) | exact r_lss rfl rfl (decide_eq_false (by omega)) | exact r_lss rfl rfl rfl) rfl rfl rfl ?_
      refine QL.wl hKq fun w st => ?_
      refine WL.fin hK212 (fun _ _ h => h) ?_
      refine WC.condT rfl rfl ?_
      refine WC.seq fun K213 hK213 => ?_
      -- region 7
      refine WC.region ?_
      -- R7.0 33 := ipv4.go:81 load
      refine WL.v (by exact r_load1 ty_one47 rfl (st.old (fun h => h) (hE 15 (by decide)))) rfl rfl rfl ?_
      -- R7.1 2 := ipv4.go:81 assign
      refine WL.v (by first | exact r_assign (v := .nilIface) rfl | exact r_assign (v := .iface _ _) rfl | exact r_assign rfl) rfl rfl rfl ?_
      refine WL.fin hK213 (fun _ _ h => h) ?_
      refine WC.ret1 Tryd.results50 (fun _ _ h => h) rfl ?_
      exact ⟨_, rfl, .inr ⟨⟨_, _, rfl⟩, fun h => by have := h.2.2.2; omega⟩, st⟩
    · skip
      refine WC.condF rfl rfl ?_
      refine WC.skipF hK208 (fun _ _ h => h) ?_
      refine WC.seq fun K214 hK214 => ?_
      refine WC.seq fun K215 hK215 => ?_
      -- region 6 (draws)
      refine WC.quietS st ty_mixed (by kernel_rfl) fun Kq hKq => ?_
      -- R6.0 25 := ipv4.go:80 move
      refine QL.v (fun w st => by first | exact r_move (v := .pointer _) rfl | exact r_move rfl) rfl rfl rfl ?_
      -- R6.1 26 := ipv4.go:80 nilCheck
      refine QL.v (fun w st => by exact r_nilCheck rfl) rfl rfl rfl ?_
      -- R6.2 27 := ipv4.go:80 fieldAddr
      refine QL.v (fun w st => by exact r_field ty_fld36_1 rfl) rfl rfl rfl ?_
      -- R6.3 28 := ipv4.go:80 load
      refine QL.v (fun w st => by first | exact r_load1 ty_one30 rfl (hr [] _ st 1 (by decide)) | exact r_load1 ty_one30 rfl (hr _ _ st 1 (by decide)) | exact r_load1 ty_one30 rfl (hr [_] _ st 1 (by decide)) | exact r_load1 ty_one30 rfl (hr [_, _] _ st 1 (by decide)) | exact r_load1 ty_one30 rfl (hr [_, _, _] _ st 1 (by decide))) rfl rfl rfl ?_
      -- R6.4 29 := ipv4.go:80 convert
      refine QL.v (fun w st => by first | exact r_conv ty_cv30_3 rfl (wi64 (by omega) (by omega)) | exact r_conv ty_cv30_3 rfl rfl) rfl rfl rfl ?_
      -- R6.5 30 := ipv4.go:80 move
      refine QL.v (fun w st => by first | exact r_move (v := .pointer _) rfl | exact r_move rfl) rfl rfl rfl ?_
      -- R6.6 31 := ipv4.go:80 call
      refine QL.call (val := .int .i64 ((20 + s.bs.length : Nat) : Int)) (fun w st => r_call ty_call29 rfl) rfl rfl rfl (fun w st => ipLen_ok b o x s hl hr st) ?_
      -- R6.7 32 := ipv4.go:80 binOp
      refine QL.v (fun w st => by first | exact r_lss rfl rfl (decide_eq_true (by omega)) | exact r_lss rfl rfl (decide_eq_false (by omega)) | exact r_lss rfl rfl rfl) rfl rfl rfl ?_
      refine QL.wl hKq fun w st => ?_
      refine WL.fin hK215 (fun _ _ h => h) ?_
      refine WC.condF rfl rfl ?_
      refine WC.skipF hK214 (fun _ _ h => h) ?_
      refine WC.seq fun K216 hK216 => ?_
      -- region 8
      refine WC.region ?_
      -- R8.0 2 := ipv4.go:83 assign
      refine WL.v (by first | exact r_assign (v := .nilIface) rfl | exact r_assign (v := .iface _ _) rfl | exact r_assign rfl) rfl rfl rfl ?_
      refine WL.fin hK216 (fun _ _ h => h) ?_
      refine WC.ret1 Tryd.results50 (fun _ _ h => h) rfl ?_
      exact ⟨_, rfl, .inl ⟨rfl, by omega, by omega, he, by omega⟩, st⟩
  · skip
    refine WC.seq fun K217 hK217 => ?_
    -- region 4
    refine WC.region ?_
    -- R4.0 22 := ipv4.go:77 move
    refine WL.v (by first | exact r_move (v := .nilIface) rfl | exact r_move (v := .iface _ _) rfl | exact r_move rfl) rfl rfl rfl ?_
    -- R4.1 23 := ipv4.go:77 binOp
    refine WL.v (by first | exact r_nil_neq ty_ifc47 rfl | exact r_some_neq ty_ifc47 rfl) rfl rfl rfl ?_
    refine WL.fin hK217 (fun _ _ h => h) ?_
    refine WC.condT rfl rfl ?_
    refine WC.seq fun K218 hK218 => ?_
    -- region 5
    refine WC.region ?_
    -- R5.0 24 := ipv4.go:78 move
    refine WL.v (by first | exact r_move (v := .nilIface) rfl | exact r_move (v := .iface _ _) rfl | exact r_move rfl) rfl rfl rfl ?_
    -- R5.1 2 := ipv4.go:78 assign
    refine WL.v (by first | exact r_assign (v := .nilIface) rfl | exact r_assign (v := .iface _ _) rfl | exact r_assign rfl) rfl rfl rfl ?_
    refine WL.fin hK218 (fun _ _ h => h) ?_
    refine WC.ret1 Tryd.results50 (fun _ _ h => h) rfl ?_
    exact ⟨_, rfl, .inr ⟨⟨_, _, rfl⟩, fun h => he h.2.2.1⟩, st⟩

theorem ipWords_ok (b o : Nat) (x : Nat → Int) (s : SV) (hx : IpR x) (hP : ipP x s.bs.length) (hr : ∀ its w', S0 w0 (its ++ L) w' → CF w' b o 17 (nth (ipL x s.v))) (st : S0 w0 L w) :
    Calls Tryd.prog 78 #[.pointer (some ⟨b, o, none⟩)] w (Ret fun v w' => v = .tuple #[.int .u16 (16384 + ((20 + s.bs.length) / 4 : Nat) * 256 + x 0), .int .u16 (x 3 * 8192 + x 4)] ∧ S0 w0 L w') := by
  obtain ⟨p3, p4, ⟨pm, p40⟩, p1⟩ := hP
  have h0 := hx.r0
  have h3 := hx.r3
  have h4 := hx.r4
  obtain ⟨q, hq⟩ : ∃ q : Nat, q = (20 + s.bs.length) / 4 := ⟨_, rfl⟩
  have hq2 : q ≤ 15 := by omega
  rw [← hq]
  refine enter [.pointer (some ⟨b, o, none⟩)] Tryd.func78 rfl Tryd.ntmps78 rfl ?_
  show WC _ _ _ 29 [] [(0, .pointer (some ⟨b, o, none⟩))] _
  refine WC.seq fun K219 hK219 => ?_
  -- region 0
  refine WC.region ?_
  -- R0.0 2 := ipv4.go:87 assign
  refine WL.v (by first | exact r_assign (v := .int _ _) rfl | exact r_assign rfl) rfl rfl rfl ?_
  -- R0.1 3 := ipv4.go:87 assign
  refine WL.v (by first | exact r_assign (v := .int _ _) rfl | exact r_assign rfl) rfl rfl rfl ?_
  refine WL.fin hK219 (fun _ _ h => h) ?_
  refine WC.seq fun K220 hK220 => ?_
  -- region 1 (draws)
  refine WC.quietS st ty_mixed (by kernel_rfl) fun Kq hKq => ?_
  -- R1.0 4 := ipv4.go:88 move
  refine QL.v (fun w st => by first | exact r_move (v := .pointer _) rfl | exact r_move rfl) rfl rfl rfl ?_
  -- R1.1 5 := ipv4.go:88 call
  refine QL.call (val := .int .i64 ((20 + s.bs.length : Nat) : Int)) (fun w st => r_call ty_call29 rfl) rfl rfl rfl (fun w st => ipLen_ok b o x s (by omega) hr st) ?_
  -- R1.2 6 := ipv4.go:88 binOp
  refine QL.v (fun w st => by exact r_quo (r := (q : Int)) rfl rfl (by omega) (by rw [show (((20 + s.bs.length : Nat) : Int)).tdiv 4 = (((20 + s.bs.length) / 4 : Nat) : Int) from rfl, ← hq, wi64 (by omega) (by omega)])) rfl rfl rfl ?_
  -- R1.3 7 := ipv4.go:88 convert
  refine QL.v (fun w st => by first | exact r_conv ty_cv3_30 rfl (wu16 (by omega) (by omega)) | exact r_conv ty_cv3_30 rfl rfl) rfl rfl rfl ?_
  -- R1.4 8 := ipv4.go:88 binOp
  refine QL.v (fun w st => by exact r_shl (r := (q : Int) * 2 ^ 8) rfl rfl (by omega) (wu16 (x := (q : Int) * 2 ^ 8) (by omega) (by omega))) rfl rfl rfl ?_
  -- R1.5 9 := ipv4.go:88 binOp
  refine QL.v (fun w st => by exact r_or (r := (q : Int) * 2 ^ 8 + 1 * 2 ^ 14) rfl rfl ((congrArg IntKind.u16.wrap (or_u' 16 14 (a := (q : Int) * 2 ^ 8) (b := 1) (by omega) (by omega) (by omega) (by omega) (by omega))).trans (wu16 (by omega) (by omega)))) rfl rfl rfl ?_
  -- R1.6 10 := ipv4.go:88 move
  refine QL.v (fun w st => by first | exact r_move (v := .pointer _) rfl | exact r_move rfl) rfl rfl rfl ?_
  -- R1.7 11 := ipv4.go:88 nilCheck
  refine QL.v (fun w st => by exact r_nilCheck rfl) rfl rfl rfl ?_
  -- R1.8 12 := ipv4.go:88 fieldAddr
  refine QL.v (fun w st => by exact r_field ty_fld36_0 rfl) rfl rfl rfl ?_
  -- R1.9 13 := ipv4.go:88 load
  refine QL.v (fun w st => by first | exact r_load1 ty_one5 rfl (hr [] _ st 0 (by decide)) | exact r_load1 ty_one5 rfl (hr _ _ st 0 (by decide)) | exact r_load1 ty_one5 rfl (hr [_] _ st 0 (by decide)) | exact r_load1 ty_one5 rfl (hr [_, _] _ st 0 (by decide)) | exact r_load1 ty_one5 rfl (hr [_, _, _] _ st 0 (by decide))) rfl rfl rfl ?_
  -- R1.10 14 := ipv4.go:88 convert
  refine QL.v (fun w st => by first | exact r_conv ty_cv5_30 rfl (wu16 (by omega) (by omega)) | exact r_conv ty_cv5_30 rfl rfl) rfl rfl rfl ?_
  -- R1.11 15 := ipv4.go:88 binOp
  refine QL.v (fun w st => by exact r_or (r := x 0 + ((q : Int) + 64) * 2 ^ 8) rfl rfl (by rw [show (q : Int) * 2 ^ 8 + 1 * 2 ^ 14 = ((q : Int) + 64) * 2 ^ 8 by omega]; exact (congrArg IntKind.u16.wrap (or_u' 16 8 h0.1 (by omega) (by omega) (by omega) (by omega))).trans (wu16 (by omega) (by omega)))) rfl rfl rfl ?_
  -- R1.12 2 := ipv4.go:88 assign
  refine QL.v (fun w st => by first | exact r_assign (v := .int _ _) rfl | exact r_assign rfl) rfl rfl rfl ?_
  refine QL.wl hKq fun w st => ?_
  refine WL.fin hK220 (fun _ _ h => h) ?_
  refine WC.seq fun K221 hK221 => ?_
  -- region 2 (draws)
  refine WC.quietS st ty_mixed (by kernel_rfl) fun Kq hKq => ?_
  -- R2.0 16 := ipv4.go:89 move
  refine QL.v (fun w st => by first | exact r_move (v := .pointer _) rfl | exact r_move rfl) rfl rfl rfl ?_
  -- R2.1 17 := ipv4.go:89 nilCheck
  refine QL.v (fun w st => by exact r_nilCheck rfl) rfl rfl rfl ?_
  -- R2.2 18 := ipv4.go:89 fieldAddr
  refine QL.v (fun w st => by exact r_field ty_fld36_3 rfl) rfl rfl rfl ?_
  -- R2.3 19 := ipv4.go:89 load
  refine QL.v (fun w st => by first | exact r_load1 ty_one5 rfl (hr [] _ st 3 (by decide)) | exact r_load1 ty_one5 rfl (hr _ _ st 3 (by decide)) | exact r_load1 ty_one5 rfl (hr [_] _ st 3 (by decide)) | exact r_load1 ty_one5 rfl (hr [_, _] _ st 3 (by decide)) | exact r_load1 ty_one5 rfl (hr [_, _, _] _ st 3 (by decide))) rfl rfl rfl ?_
  -- R2.4 20 := ipv4.go:89 convert
  refine QL.v (fun w st => by first | exact r_conv ty_cv5_30 rfl (wu16 (by omega) (by omega)) | exact r_conv ty_cv5_30 rfl rfl) rfl rfl rfl ?_
  -- R2.5 21 := ipv4.go:89 binOp
  refine QL.v (fun w st => by exact r_shl (r := x 3 * 2 ^ 13) rfl rfl (by omega) (wu16 (x := x 3 * 2 ^ 13) (by omega) (by omega))) rfl rfl rfl ?_
  -- R2.6 22 := ipv4.go:89 move
  refine QL.v (fun w st => by first | exact r_move (v := .pointer _) rfl | exact r_move rfl) rfl rfl rfl ?_
  -- R2.7 23 := ipv4.go:89 nilCheck
  refine QL.v (fun w st => by exact r_nilCheck rfl) rfl rfl rfl ?_
  -- R2.8 24 := ipv4.go:89 fieldAddr
  refine QL.v (fun w st => by exact r_field ty_fld36_4 rfl) rfl rfl rfl ?_
  -- R2.9 25 := ipv4.go:89 load
  refine QL.v (fun w st => by first | exact r_load1 ty_one30 rfl (hr [] _ st 4 (by decide)) | exact r_load1 ty_one30 rfl (hr _ _ st 4 (by decide)) | exact r_load1 ty_one30 rfl (hr [_] _ st 4 (by decide)) | exact r_load1 ty_one30 rfl (hr [_, _] _ st 4 (by decide)) | exact r_load1 ty_one30 rfl (hr [_, _, _] _ st 4 (by decide))) rfl rfl rfl ?_
  -- R2.10 26 := ipv4.go:89 binOp
  refine QL.v (fun w st => by exact r_or (r := x 4 + x 3 * 2 ^ 13) rfl rfl ((congrArg IntKind.u16.wrap (or_u' 16 13 h4.1 (by omega) h3.1 (by omega) (by omega))).trans (wu16 (by omega) (by omega)))) rfl rfl rfl ?_
  -- R2.11 3 := ipv4.go:89 assign
  refine QL.v (fun w st => by first | exact r_assign (v := .int _ _) rfl | exact r_assign rfl) rfl rfl rfl ?_
  refine QL.wl hKq fun w st => ?_
  refine WL.fin hK221 (fun _ _ h => h) ?_
  refine WC.seq fun K222 hK222 => ?_
  -- region 3
  refine WC.region ?_
  -- R3.0 27 := ipv4.go:90 move
  refine WL.v (by first | exact r_move (v := .int _ _) rfl | exact r_move rfl) rfl rfl rfl ?_
  -- R3.1 28 := ipv4.go:90 move
  refine WL.v (by first | exact r_move (v := .int _ _) rfl | exact r_move rfl) rfl rfl rfl ?_
  -- R3.2 2 := ipv4.go:90 assign
  refine WL.v (by first | exact r_assign (v := .int _ _) rfl | exact r_assign rfl) rfl rfl rfl ?_
  -- R3.3 3 := ipv4.go:90 assign
  refine WL.v (by first | exact r_assign (v := .int _ _) rfl | exact r_assign rfl) rfl rfl rfl ?_
  refine WL.fin hK222 (fun _ _ h => h) ?_
  refine WC.ret2 Tryd.results78 (fun _ _ h => h) rfl ?_
  refine ⟨_, rfl, ?_, st⟩
  show Value.tuple #[.int .u16 (x 0 + ((q : Int) + 64) * 2 ^ 8), .int .u16 (x 4 + x 3 * 2 ^ 13)] = _
  rw [show x 0 + ((q : Int) + 64) * 2 ^ 8 = 16384 + (q : Int) * 256 + x 0 by omega, show x 4 + x 3 * 2 ^ 13 = x 3 * 8192 + x 4 by omega]
end Go.Proofs.Qxb6500841aDoor

