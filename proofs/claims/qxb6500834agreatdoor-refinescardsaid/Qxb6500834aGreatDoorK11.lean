import Derived.Test.Qxb6500834aGreatDoorK10
set_option linter.unusedVariables false
set_option linter.unusedSimpArgs false
set_option maxRecDepth 20000
namespace Go.Proofs.Qxb6500834aGreatDoor
open Go.RowKit Go.E1 Go.Kern
variable {w0 : World} {L L' l I J K K' X : List HI} {w : World} {M : KM} {s : KS} {XQ : Nat → List HI}
variable {br bp bm mode now armed t r : Nat} {held claim : Nat → Nat → Nat} {qv : Nat → Value} {tk : Nat → TK} {cells : Nat → Nat} {births : Nat} {ov v : Value} {Q : List (Nat × Nat)} {queue : Nat → List (Nat × Nat)}

/-! Rows of integers and of truths. -/
def iF (F : Nat → Int) (i : Nat) : Value := .int .i64 (F i)
def bF (F : Nat → Bool) (i : Nat) : Value := .bool (F i)
theorem iF_set {F : Nat → Int} {i n : Nat} {x : Int} : ∀ k, k < n → upd (iF F) (0 + i * 1) (.int .i64 x) k = iF (updN F i x) k := fun k _ => by
  rw [upd_eq]
  unfold iF updN
  rw [show 0 + i * 1 = i by omega]
  split <;> rfl
theorem bF_set {F : Nat → Bool} {i n : Nat} {x : Bool} : ∀ k, k < n → upd (bF F) (0 + i * 1) (.bool x) k = bF (updN F i x) k := fun k _ => by
  rw [upd_eq]
  unfold bF updN
  rw [show 0 + i * 1 = i by omega]
  split <;> rfl
theorem c_iF {F : Nat → Int} {b T n i : Nat} (hm : (b, Row T n (iF F)) ∈ l) (hi : i < n) (st : S0 w0 l w) : w.cell? ⟨b, 0 + i * 1, none⟩ = some (.int .i64 (F i)) := by
  rw [st.cell hm (by omega), show 0 + i * 1 = i by omega]; rfl
theorem c_bF {F : Nat → Bool} {b T n i : Nat} (hm : (b, Row T n (bF F)) ∈ l) (hi : i < n) (st : S0 w0 l w) : w.cell? ⟨b, 0 + i * 1, none⟩ = some (.bool (F i)) := by
  rw [st.cell hm (by omega), show 0 + i * 1 = i by omega]; rfl
theorem c_hM {b T : Nat} (hm : (b, Row T 320 (hM held)) ∈ l) (ht : t < 16) (hr : r < 20) (st : S0 w0 l w) : w.cell? ⟨b, 0 + t * 20 + r * 1, none⟩ = some (.int .i64 (held t r : Nat)) := by
  rw [st.cell hm (by omega)]
  unfold hM
  rw [show (0 + t * 20 + r * 1) / 20 = t by omega, show (0 + t * 20 + r * 1) % 20 = r by omega]
theorem hM_set {x : Nat} (ht : t < 16) (hr : r < 20) : ∀ k, k < 320 → upd (hM held) (0 + t * 20 + r * 1) (.int .i64 (x : Nat)) k = hM (upd2 held t r x) k := fun k hk => by
  rw [upd_eq]
  unfold hM upd2
  by_cases h : k = 0 + t * 20 + r * 1
  · rw [if_pos h, if_pos (by omega)]
  · rw [if_neg h, if_neg (by omega)]

def allN (p : Nat → Bool) (n : Nat) : Bool := (List.range n).all p
theorem allN_succ {p : Nat → Bool} {n : Nat} : allN p (n + 1) = (allN p n && p n) := by unfold allN; rw [List.range_succ, List.all_append]; simp
theorem allN_iff {p : Nat → Bool} {n : Nat} : allN p n = true ↔ ∀ i, i < n → p i = true := by unfold allN; rw [List.all_eq_true]; simp
theorem allN_no {p : Nat → Bool} {n i : Nat} (hi : i < n) (h : p i = false) : allN p n = false := by
  cases h2 : allN p n with
  | false => rfl
  | true => rw [allN_iff.1 h2 i hi] at h; cases h
def fitsP (claim held : Nat → Nat → Nat) (F : Nat → Int) (t : Nat) : Bool := allN (fun r => decide ((claim t r : Int) - (held t r : Nat) ≤ F r)) 20

theorem fits_ok {bh bf : Nat} {F : Nat → Int} (ht : t < 16) (hh : ∀ t r, held t r ≤ 16) (hc : ∀ t r, claim t r ≤ 16) (hm : pI bp mode claim ∈ l) (hmh : (bh, Row 45 320 (hM held)) ∈ l) (hmf : (bf, Row 44 20 (iF F)) ∈ l) (st : S0 w0 l w) :
    Calls Tryz.prog 189 #[.pointer (some ⟨bp, 0, none⟩), .int .i64 (t : Nat), .pointer (some ⟨bh, 0, none⟩), .pointer (some ⟨bf, 0, none⟩)] w (Ret fun v w' => v = .bool (fitsP claim held F t) ∧ S0 w0 l w') := by
  refine enter [.pointer (some ⟨bp, 0, none⟩), .int .i64 (t : Nat), .pointer (some ⟨bh, 0, none⟩), .pointer (some ⟨bf, 0, none⟩)] Tryz.func189 rfl Tryz.ntmps189 rfl ?_
  show WC _ _ _ 36 [] [(0, .pointer (some ⟨bp, 0, none⟩)), (1, .int .i64 (t : Nat)), (2, .pointer (some ⟨bh, 0, none⟩)), (3, .pointer (some ⟨bf, 0, none⟩))] _
  refine WC.seq fun K373 hK373 => ?_
  -- region 0
  refine WC.region ?_
  -- R0.0 8 := policym.go:69 assign
  refine WL.v (by first | exact r_assign (v := .bool _) rfl | exact r_assign rfl) rfl rfl rfl ?_
  refine WL.fin hK373 (fun _ _ h => h) ?_
  refine WC.seq fun K374 hK374 => ?_
  refine WC.seq fun K375 hK375 => ?_
  -- region 1
  refine WC.region ?_
  -- R1.0 10 := policym.go:70 move
  refine WL.v (by first | exact r_move (v := .int _ _) rfl | exact r_move rfl) rfl rfl rfl ?_
  refine WL.fin hK375 (fun _ _ h => h) ?_
  refine WC.block ?_
  refine WC.loop (ι := Nat) (fun i => [(0, .pointer (some ⟨bp, 0, none⟩)), (1, .int .i64 (t : Nat)), (2, .pointer (some ⟨bh, 0, none⟩)), (3, .pointer (some ⟨bf, 0, none⟩)), (10, .int .i64 (i : Nat))])
    (fun i w' => i ≤ 20 ∧ allN (fun r => decide ((claim t r : Int) - (held t r : Nat) ≤ F r)) i = true ∧ S0 w0 l w') (fun i => 20 - i) 0 ⟨Nat.zero_le _, rfl, st⟩ ?_ ?_
  · skip
    repeat (first | exact sub_nil _ | refine sub_cons rfl rfl ?_)
  clear st
  rintro i w ⟨hi, hal, st⟩ K1 hK1
  by_cases h20 : i = 20
  · subst h20
    refine WC.seq fun K376 hK376 => ?_
    -- region 2
    refine WC.region ?_
    -- R2.0 11 := policym.go:70 binOp
    refine WL.v (by first | exact r_lss rfl rfl (decide_eq_true (by omega)) | exact r_lss rfl rfl (decide_eq_false (by omega)) | exact r_lss rfl rfl rfl) rfl rfl rfl ?_
    refine WL.fin hK376 (fun _ _ h => h) ?_
    refine WC.seq fun K377 hK377 => ?_
    refine WC.condF rfl rfl ?_
    refine WC.exitF hK374 (fun _ _ h => h) ?_
    refine WC.seq fun K378 hK378 => ?_
    -- region 7
    refine WC.region ?_
    -- R7.0 8 := policym.go:75 assign
    refine WL.v (by first | exact r_assign (v := .bool _) rfl | exact r_assign rfl) rfl rfl rfl ?_
    refine WL.fin hK378 (fun _ _ h => h) ?_
    refine WC.ret1 Tryz.results189 (fun _ _ h => h) rfl ?_
    exact ⟨_, rfl, by rw [show fitsP claim held F t = true from hal]; rfl, st⟩
  have hi' : i < 20 := by omega
  have h1 := hh t i
  have h2 := hc t i
  by_cases hp : (claim t i : Int) - (held t i : Nat) ≤ F i
  · skip
    refine WC.seq fun K379 hK379 => ?_
    -- region 2
    refine WC.region ?_
    -- R2.0 11 := policym.go:70 binOp
    refine WL.v (by first | exact r_lss rfl rfl (decide_eq_true (by omega)) | exact r_lss rfl rfl (decide_eq_false (by omega)) | exact r_lss rfl rfl rfl) rfl rfl rfl ?_
    refine WL.fin hK379 (fun _ _ h => h) ?_
    refine WC.seq fun K380 hK380 => ?_
    refine WC.condT rfl rfl ?_
    refine WC.skipF hK380 (fun _ _ h => h) ?_
    refine WC.seq fun K381 hK381 => ?_
    refine WC.block ?_
    refine WC.seq fun K382 hK382 => ?_
    -- region 3
    refine WC.region ?_
    -- R3.0 12 := policym.go:70 move
    refine WL.v (by first | exact r_move (v := .int _ _) rfl | exact r_move rfl) rfl rfl rfl ?_
    -- R3.1 9 := policym.go:70 assign
    refine WL.v (by first | exact r_assign (v := .int _ _) rfl | exact r_assign rfl) rfl rfl rfl ?_
    refine WL.fin hK382 (fun _ _ h => h) ?_
    refine WC.seq fun K383 hK383 => ?_
    -- region 4 (draws)
    refine WC.quietS st ty_mixed (by kernel_rfl) fun Kq hKq => ?_
    -- R4.0 13 := policym.go:71 move
    refine QL.v (fun w st => by first | exact r_move (v := .pointer _) rfl | exact r_move rfl) rfl rfl rfl ?_
    -- R4.1 14 := policym.go:71 move
    refine QL.v (fun w st => by first | exact r_move (v := .int _ _) rfl | exact r_move rfl) rfl rfl rfl ?_
    -- R4.2 15 := policym.go:71 move
    refine QL.v (fun w st => by first | exact r_move (v := .int _ _) rfl | exact r_move rfl) rfl rfl rfl ?_
    -- R4.3 16 := policym.go:71 nilCheck
    refine QL.v (fun w st => by exact r_nilCheck rfl) rfl rfl rfl ?_
    -- R4.4 17 := policym.go:71 fieldAddr
    refine QL.v (fun w st => by exact r_field ty_fld131_1 rfl) rfl rfl rfl ?_
    -- R4.5 18 := policym.go:71 indexAddr
    refine QL.v (fun w st => by exact r_indexA ty_ar45 rfl rfl rfl (by omega)) rfl rfl rfl ?_
    -- R4.6 19 := policym.go:71 indexAddr
    refine QL.v (fun w st => by exact r_indexA ty_ar44 rfl rfl rfl (by omega)) rfl rfl rfl ?_
    -- R4.7 20 := policym.go:71 load
    refine QL.v (fun w st => by exact r_load1 (v := .int .i64 (claim t i : Nat)) ty_one3 rfl (c_claim st hm ht hi')) rfl rfl rfl ?_
    -- R4.8 21 := policym.go:71 move
    refine QL.v (fun w st => by first | exact r_move (v := .pointer _) rfl | exact r_move rfl) rfl rfl rfl ?_
    -- R4.9 22 := policym.go:71 move
    refine QL.v (fun w st => by first | exact r_move (v := .int _ _) rfl | exact r_move rfl) rfl rfl rfl ?_
    -- R4.10 23 := policym.go:71 move
    refine QL.v (fun w st => by first | exact r_move (v := .int _ _) rfl | exact r_move rfl) rfl rfl rfl ?_
    -- R4.11 24 := policym.go:71 nilCheck
    refine QL.v (fun w st => by exact r_nilCheck rfl) rfl rfl rfl ?_
    -- R4.12 25 := policym.go:71 indexAddr
    refine QL.v (fun w st => by exact r_indexA ty_ar45 rfl rfl rfl (by omega)) rfl rfl rfl ?_
    -- R4.13 26 := policym.go:71 indexAddr
    refine QL.v (fun w st => by exact r_indexA ty_ar44 rfl rfl rfl (by omega)) rfl rfl rfl ?_
    -- R4.14 27 := policym.go:71 load
    refine QL.v (fun w st => by exact r_load1 (v := .int .i64 (held t i : Nat)) ty_one3 rfl (c_hM hmh ht hi' st)) rfl rfl rfl ?_
    -- R4.15 28 := policym.go:71 binOp
    refine QL.v (fun w st => by first | exact r_sub rfl rfl (wi64 (by omega) (by omega)) | exact r_sub rfl rfl rfl) rfl rfl rfl ?_
    -- R4.16 29 := policym.go:71 move
    refine QL.v (fun w st => by first | exact r_move (v := .pointer _) rfl | exact r_move rfl) rfl rfl rfl ?_
    -- R4.17 30 := policym.go:71 move
    refine QL.v (fun w st => by first | exact r_move (v := .int _ _) rfl | exact r_move rfl) rfl rfl rfl ?_
    -- R4.18 31 := policym.go:71 nilCheck
    refine QL.v (fun w st => by exact r_nilCheck rfl) rfl rfl rfl ?_
    -- R4.19 32 := policym.go:71 indexAddr
    refine QL.v (fun w st => by exact r_indexA ty_ar44 rfl rfl rfl (by omega)) rfl rfl rfl ?_
    -- R4.20 33 := policym.go:71 load
    refine QL.v (fun w st => by exact r_load1 (v := .int .i64 (F i)) ty_one3 rfl (c_iF hmf hi' st)) rfl rfl rfl ?_
    -- R4.21 34 := policym.go:71 binOp
    refine QL.v (fun w st => by first | exact r_gtr rfl rfl (decide_eq_true (by omega)) | exact r_gtr rfl rfl (decide_eq_false (by omega)) | exact r_gtr rfl rfl rfl) rfl rfl rfl ?_
    refine QL.wl hKq fun w st => ?_
    refine WL.fin hK383 (fun _ _ h => h) ?_
    refine WC.condF rfl rfl ?_
    refine WC.skipF hK381 (fun _ _ h => h) ?_
    -- region 6
    refine WC.region ?_
    -- R6.0 35 := policym.go:70 binOp
    refine WL.v (by first | exact r_add rfl rfl (wi64 (by omega) (by omega)) | exact r_add rfl rfl rfl) rfl rfl rfl ?_
    -- R6.1 10 := policym.go:70 move
    refine WL.v (by first | exact r_move (v := .int _ _) rfl | exact r_move rfl) rfl rfl rfl ?_
    refine WL.next hK1 (fun _ _ h => h) (i + 1) ⟨hi', by rw [allN_succ, hal]; exact decide_eq_true hp, st⟩ (by omega) (by repeat (first | exact sub_nil _ | refine sub_cons rfl rfl ?_))
  · skip
    refine WC.seq fun K384 hK384 => ?_
    -- region 2
    refine WC.region ?_
    -- R2.0 11 := policym.go:70 binOp
    refine WL.v (by first | exact r_lss rfl rfl (decide_eq_true (by omega)) | exact r_lss rfl rfl (decide_eq_false (by omega)) | exact r_lss rfl rfl rfl) rfl rfl rfl ?_
    refine WL.fin hK384 (fun _ _ h => h) ?_
    refine WC.seq fun K385 hK385 => ?_
    refine WC.condT rfl rfl ?_
    refine WC.skipF hK385 (fun _ _ h => h) ?_
    refine WC.seq fun K386 hK386 => ?_
    refine WC.block ?_
    refine WC.seq fun K387 hK387 => ?_
    -- region 3
    refine WC.region ?_
    -- R3.0 12 := policym.go:70 move
    refine WL.v (by first | exact r_move (v := .int _ _) rfl | exact r_move rfl) rfl rfl rfl ?_
    -- R3.1 9 := policym.go:70 assign
    refine WL.v (by first | exact r_assign (v := .int _ _) rfl | exact r_assign rfl) rfl rfl rfl ?_
    refine WL.fin hK387 (fun _ _ h => h) ?_
    refine WC.seq fun K388 hK388 => ?_
    -- region 4 (draws)
    refine WC.quietS st ty_mixed (by kernel_rfl) fun Kq hKq => ?_
    -- R4.0 13 := policym.go:71 move
    refine QL.v (fun w st => by first | exact r_move (v := .pointer _) rfl | exact r_move rfl) rfl rfl rfl ?_
    -- R4.1 14 := policym.go:71 move
    refine QL.v (fun w st => by first | exact r_move (v := .int _ _) rfl | exact r_move rfl) rfl rfl rfl ?_
    -- R4.2 15 := policym.go:71 move
    refine QL.v (fun w st => by first | exact r_move (v := .int _ _) rfl | exact r_move rfl) rfl rfl rfl ?_
    -- R4.3 16 := policym.go:71 nilCheck
    refine QL.v (fun w st => by exact r_nilCheck rfl) rfl rfl rfl ?_
    -- R4.4 17 := policym.go:71 fieldAddr
    refine QL.v (fun w st => by exact r_field ty_fld131_1 rfl) rfl rfl rfl ?_
    -- R4.5 18 := policym.go:71 indexAddr
    refine QL.v (fun w st => by exact r_indexA ty_ar45 rfl rfl rfl (by omega)) rfl rfl rfl ?_
    -- R4.6 19 := policym.go:71 indexAddr
    refine QL.v (fun w st => by exact r_indexA ty_ar44 rfl rfl rfl (by omega)) rfl rfl rfl ?_
    -- R4.7 20 := policym.go:71 load
    refine QL.v (fun w st => by exact r_load1 (v := .int .i64 (claim t i : Nat)) ty_one3 rfl (c_claim st hm ht hi')) rfl rfl rfl ?_
    -- R4.8 21 := policym.go:71 move
    refine QL.v (fun w st => by first | exact r_move (v := .pointer _) rfl | exact r_move rfl) rfl rfl rfl ?_
    -- R4.9 22 := policym.go:71 move
    refine QL.v (fun w st => by first | exact r_move (v := .int _ _) rfl | exact r_move rfl) rfl rfl rfl ?_
    -- R4.10 23 := policym.go:71 move
    refine QL.v (fun w st => by first | exact r_move (v := .int _ _) rfl | exact r_move rfl) rfl rfl rfl ?_
    -- R4.11 24 := policym.go:71 nilCheck
    refine QL.v (fun w st => by exact r_nilCheck rfl) rfl rfl rfl ?_
    -- R4.12 25 := policym.go:71 indexAddr
    refine QL.v (fun w st => by exact r_indexA ty_ar45 rfl rfl rfl (by omega)) rfl rfl rfl ?_
    -- R4.13 26 := policym.go:71 indexAddr
    refine QL.v (fun w st => by exact r_indexA ty_ar44 rfl rfl rfl (by omega)) rfl rfl rfl ?_
    -- R4.14 27 := policym.go:71 load
    refine QL.v (fun w st => by exact r_load1 (v := .int .i64 (held t i : Nat)) ty_one3 rfl (c_hM hmh ht hi' st)) rfl rfl rfl ?_
    -- R4.15 28 := policym.go:71 binOp
    refine QL.v (fun w st => by first | exact r_sub rfl rfl (wi64 (by omega) (by omega)) | exact r_sub rfl rfl rfl) rfl rfl rfl ?_
    -- R4.16 29 := policym.go:71 move
    refine QL.v (fun w st => by first | exact r_move (v := .pointer _) rfl | exact r_move rfl) rfl rfl rfl ?_
    -- R4.17 30 := policym.go:71 move
    refine QL.v (fun w st => by first | exact r_move (v := .int _ _) rfl | exact r_move rfl) rfl rfl rfl ?_
    -- R4.18 31 := policym.go:71 nilCheck
    refine QL.v (fun w st => by exact r_nilCheck rfl) rfl rfl rfl ?_
    -- R4.19 32 := policym.go:71 indexAddr
    refine QL.v (fun w st => by exact r_indexA ty_ar44 rfl rfl rfl (by omega)) rfl rfl rfl ?_
    -- R4.20 33 := policym.go:71 load
    refine QL.v (fun w st => by exact r_load1 (v := .int .i64 (F i)) ty_one3 rfl (c_iF hmf hi' st)) rfl rfl rfl ?_
    -- R4.21 34 := policym.go:71 binOp
    refine QL.v (fun w st => by first | exact r_gtr rfl rfl (decide_eq_true (by omega)) | exact r_gtr rfl rfl (decide_eq_false (by omega)) | exact r_gtr rfl rfl rfl) rfl rfl rfl ?_
    refine QL.wl hKq fun w st => ?_
    refine WL.fin hK388 (fun _ _ h => h) ?_
    refine WC.condT rfl rfl ?_
    refine WC.seq fun K389 hK389 => ?_
    -- region 5
    refine WC.region ?_
    -- R5.0 8 := policym.go:72 assign
    refine WL.v (by first | exact r_assign (v := .bool _) rfl | exact r_assign rfl) rfl rfl rfl ?_
    refine WL.fin hK389 (fun _ _ h => h) ?_
    refine WC.ret1 Tryz.results189 (fun _ _ h => h) rfl ?_
    exact ⟨_, rfl, by rw [show fitsP claim held F t = false from allN_no hi' (decide_eq_false hp)]; rfl, st⟩

/-! The banker's question. -/
structure SS where
  F : Nat → Int
  fin : Nat → Bool
  left : Int
  found : Bool
def safeT (claim held : Nat → Nat → Nat) (s : SS) (t : Nat) : SS := if s.fin t || !fitsP claim held s.F t then s else ⟨fun r => s.F r + (held t r : Nat), updN s.fin t true, s.left - 1, true⟩
def sweepP (claim held : Nat → Nat → Nat) (s : SS) : Nat → SS
  | 0 => s
  | n + 1 => safeT claim held (sweepP claim held s n) n
def safeO (claim held : Nat → Nat → Nat) : Nat → SS → Bool
  | 0, _ => true
  | k + 1, s => if s.left ≤ 0 then true else if (sweepP claim held { s with found := false } 16).found then safeO claim held k (sweepP claim held { s with found := false } 16) else false
def safeP (claim held : Nat → Nat → Nat) : Bool := safeO claim held 17 ⟨freeP held, fun _ => false, 16, false⟩
end Go.Proofs.Qxb6500834aGreatDoor

