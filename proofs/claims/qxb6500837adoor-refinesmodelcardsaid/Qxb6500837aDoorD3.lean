import Derived.Test.Qxb6500837aDoorD2
set_option linter.unusedVariables false
set_option linter.unusedSimpArgs false
set_option maxRecDepth 20000
namespace Go.Proofs.Qxb6500837aDoor
open Go.RowKit Go.E1 Go.Disk
variable {w0 : World} {L : List HI} {w : World} {D : DK} {m : Int} {q : Obj → Prop}

def stP (pc : Nat → Nat → Int) (s mm : Nat) (f : Nat → Int) (t j : Nat) : Int := if t = s ∧ j < mm then f j else pc t j
def ZE (D : DK) : Prop := ∀ t, D.eb (t / 64) = none → ∀ j, D.pc t j = 0
def withE (D : DK) (i b : Nat) : DK := { D with eb := fun j => if j = i then some b else D.eb j }
def withP (D : DK) (s mm : Nat) (f : Nat → Int) : DK := { D with pc := stP D.pc s mm f }

theorem di_front {x : HI} : (DIq q D m (x :: L)).Perm (x :: DIq q D m L) := by
  unfold DIq DX
  have p : (D.XK ++ (gather D.nE (exI D.eb D.pc) ++ (gather D.nS (slI D.sb D.ss D.sd) ++ x :: L))).Perm (x :: (D.XK ++ (gather D.nE (exI D.eb D.pc) ++ (gather D.nS (slI D.sb D.ss D.sd) ++ L)))) := by
    refine ((List.perm_middle.append_left _).append_left _).trans ?_
    refine (List.perm_middle.append_left _).trans List.perm_middle
  refine ((((p.cons _).cons _).cons _).cons _).trans ?_
  generalize D.XK ++ (gather D.nE (exI D.eb D.pc) ++ (gather D.nS (slI D.sb D.ss D.sd) ++ L)) = T
  refine (((List.Perm.swap _ _ _).cons _).cons _ |>.cons _).trans ?_
  refine ((List.Perm.swap _ _ _).cons _ |>.cons _).trans ?_
  exact ((List.Perm.swap _ _ _).cons _).trans (List.Perm.swap _ _ _)

theorem add_ext {i b : Nat} (hi : i < D.nE) (hn : D.eb i = none) (hz : ZE D)
    (st : S0 w0 ((D.bX, Row 29 D.nE (upd (exF D.eb) (0 + i * 1) (.slice (some ⟨b, 0, none⟩) 32768 32768))) :: (b, Row 5 (32768 * 1) (zrow [.int .u8 0])) :: (D.bD, Row 97 23 (nth (dC m D))) :: (D.bS, Row 128 D.nS (slF D.sb)) :: (D.bM, q) :: DX D L) w) : S0 w0 (DIq q (withE D i b) m L) w := by
  obtain ⟨R, hR⟩ := at_ext (D := D) (m := m) (L := L) (q := q) hi
  have h0 := hR D rfl rfl rfl rfl rfl rfl rfl rfl rfl rfl rfl (fun _ _ => rfl) (fun _ _ _ => rfl)
  have h1 := hR (withE D i b) rfl rfl rfl rfl rfl rfl rfl rfl rfl rfl rfl (fun j hj => by simp [withE, hj]) (fun _ _ _ => rfl)
  have e0 : exI D.eb D.pc i = [] := by simp [exI, hn]
  have e1 : exI (withE D i b).eb (withE D i b).pc i = [(b, Row 5 32768 (exR D.pc i))] := by simp [exI, withE]
  rw [e0, List.nil_append] at h0
  rw [e1] at h1
  have hc := ((List.Perm.swap _ _ _).trans h0 : List.Perm ((D.bX, Row 29 D.nE (exF D.eb)) :: (D.bD, Row 97 23 (nth (dC m D))) :: (D.bS, Row 128 D.nS (slF D.sb)) :: (D.bM, q) :: DX D L) ((D.bX, Row 29 D.nE (exF D.eb)) :: R)).cons_inv
  have st : S0 w0 ((D.bX, Row 29 D.nE (exF (withE D i b).eb)) :: (b, Row 5 (32768 * 1) (zrow [.int .u8 0])) :: (D.bD, Row 97 23 (nth (dC m D))) :: (D.bS, Row 128 D.nS (slF D.sb)) :: (D.bM, q) :: DX D L) w := st.impc fun o ho => ho.congr fun k hk => by
    rw [upd_eq]
    by_cases hki : k = 0 + i * 1
    · rw [if_pos hki]; simp [exF, withE, show k = i by omega]
    · rw [if_neg hki]; simp [exF, withE, show k ≠ i by omega]
  have st := st.front1
  have st : S0 w0 ((b, Row 5 32768 (exR D.pc i)) :: (D.bX, Row 29 D.nE (exF (withE D i b).eb)) :: (D.bD, Row 97 23 (nth (dC m D))) :: (D.bS, Row 128 D.nS (slF D.sb)) :: (D.bM, q) :: DX D L) w := st.impc fun o ho => by
    refine Row.congr (n := 32768 * 1) ho fun k hk => ?_
    have : D.pc (64 * i + k / 512) (k % 512) = 0 := hz _ (by rw [show (64 * i + k / 512) / 64 = i by omega]; exact hn) _
    unfold exR
    rw [this]
    simp [zrow, nth, Nat.mod_one]
  exact st.perm (((hc.cons _).cons _).trans h1.symm)

theorem front_ext {s b : Nat} (hi : s / 64 < D.nE) (hb : D.eb (s / 64) = some b) (st : S0 w0 (DIq q D m L) w) : ∃ R, S0 w0 ((b, Row 5 32768 (exR D.pc (s / 64))) :: R) w ∧ (∀ x, x ∈ gather D.nS (slI D.sb D.ss D.sd) → x ∈ (b, Row 5 32768 (exR D.pc (s / 64))) :: R) ∧
    ∀ (mm : Nat) (f : Nat → Int) (w' : World), mm ≤ 512 → S0 w0 ((b, Row 5 32768 (upds (exR D.pc (s / 64)) (s % 64 * 512) mm fun j => .int .u8 (f j))) :: R) w' → S0 w0 (DIq q (withP D s mm f) m L) w' := by
  obtain ⟨R, hR⟩ := at_ext (D := D) (m := m) (L := L) (q := q) hi
  have h0 := hR D rfl rfl rfl rfl rfl rfl rfl rfl rfl rfl rfl (fun _ _ => rfl) (fun _ _ _ => rfl)
  have e0 : exI D.eb D.pc (s / 64) = [(b, Row 5 32768 (exR D.pc (s / 64)))] := by simp [exI, hb]
  rw [e0] at h0
  refine ⟨_, st.perm h0, fun x hx => h0.mem_iff.1 (by simp [hx]), fun mm f w' hmm st' => ?_⟩
  have h1 := hR (withP D s mm f) rfl rfl rfl rfl rfl rfl rfl rfl rfl rfl rfl (fun _ _ => rfl) (fun j k hj => by
    show stP D.pc s mm f j k = D.pc j k
    unfold stP; rw [if_neg (by intro h; exact hj (by rw [h.1]))])
  have e1 : exI (withP D s mm f).eb (withP D s mm f).pc (s / 64) = [(b, Row 5 32768 (exR (stP D.pc s mm f) (s / 64)))] := by simp [exI, withP, hb]
  rw [e1] at h1
  refine St.perm ?_ h1.symm
  refine st'.impc fun o ho => ho.congr fun k hk => ?_
  rw [upds_eq]
  unfold exR stP
  by_cases hk2 : s % 64 * 512 ≤ k ∧ k < s % 64 * 512 + mm
  · rw [if_pos hk2, if_pos (by omega), show k % 512 = k - s % 64 * 512 by omega]
  · rw [if_neg hk2, if_neg (by omega)]

set_option maxHeartbeats 4000000 in
theorem store_ok (s mm cc bx ox : Nat) (f : Nat → Int) (hs : s < D.sectors) (hsec : D.sectors ≤ 65536) (hmm : mm ≤ 512) (hz : ZE D) (hsrc : ∀ l w', (∀ x, x ∈ gather D.nS (slI D.sb D.ss D.sd) → x ∈ l) → S0 w0 l w' → ∀ j, j < mm → w'.cell? ⟨bx, ox + j, none⟩ = some (.int .u8 (f j))) (st : S0 w0 (DIq q D m L) w) :
    Calls Tryd.prog 57 #[.pointer (some ⟨D.bD, 2, none⟩), .int .i64 (s : Nat), .slice (some ⟨bx, ox, none⟩) mm cc] w (Ret fun v w' => ∃ eb', ZE { D with eb := eb', pc := stP D.pc s mm f } ∧ S0 w0 (DIq q { D with eb := eb', pc := stP D.pc s mm f } m L) w') := by
  have hi : s / 64 < D.nE := by unfold DK.nE; omega
  by_cases h0 : mm = 0
  · subst h0
    have e : stP D.pc s 0 f = D.pc := by funext t j; unfold stP; rw [if_neg (by omega)]
    refine enter [.pointer (some ⟨D.bD, 2, none⟩), .int .i64 (s : Nat), .slice (some ⟨bx, ox, none⟩) 0 cc] Tryd.func57 rfl Tryd.ntmps57 rfl ?_
    show WC _ _ _ 44 [] [(0, .pointer (some ⟨D.bD, 2, none⟩)), (1, .int .i64 (s : Nat)), (2, .slice (some ⟨bx, ox, none⟩) 0 cc)] _
    refine WC.seq fun K10 hK10 => ?_
    refine WC.seq fun K11 hK11 => ?_
    -- region 0
    refine WC.region ?_
    -- R0.0 8 := platter.go:33 move
    refine WL.v (by first | exact r_move (v := .slice _ _ _) rfl | exact r_move rfl) rfl rfl rfl ?_
    -- R0.1 9 := platter.go:33 call
    refine WL.v (by exact r_len ty_usl29 rfl) rfl rfl rfl ?_
    -- R0.2 10 := platter.go:33 binOp
    refine WL.v (by first | exact r_eql rfl rfl (decide_eq_true (by omega)) | exact r_eql rfl rfl (decide_eq_false (by omega)) | exact r_eql rfl rfl rfl) rfl rfl rfl ?_
    refine WL.fin hK11 (fun _ _ h => h) ?_
    refine WC.condT rfl rfl ?_
    refine WC.ret0 Tryd.results57 (fun _ _ h => h) ?_
    exact ⟨_, rfl, D.eb, by rw [e]; exact hz, by rw [e]; exact st⟩
  cases hb : D.eb (s / 64) with
  | some b =>
    refine enter [.pointer (some ⟨D.bD, 2, none⟩), .int .i64 (s : Nat), .slice (some ⟨bx, ox, none⟩) mm cc] Tryd.func57 rfl Tryd.ntmps57 rfl ?_
    show WC _ _ _ 44 [] [(0, .pointer (some ⟨D.bD, 2, none⟩)), (1, .int .i64 (s : Nat)), (2, .slice (some ⟨bx, ox, none⟩) mm cc)] _
    refine WC.seq fun K12 hK12 => ?_
    refine WC.seq fun K13 hK13 => ?_
    -- region 0
    refine WC.region ?_
    -- R0.0 8 := platter.go:33 move
    refine WL.v (by first | exact r_move (v := .slice _ _ _) rfl | exact r_move rfl) rfl rfl rfl ?_
    -- R0.1 9 := platter.go:33 call
    refine WL.v (by exact r_len ty_usl29 rfl) rfl rfl rfl ?_
    -- R0.2 10 := platter.go:33 binOp
    refine WL.v (by exact r_eql rfl rfl (decide_eq_false (by omega))) rfl rfl rfl ?_
    refine WL.fin hK13 (fun _ _ h => h) ?_
    refine WC.condF rfl rfl ?_
    refine WC.skipF hK12 (fun _ _ h => h) ?_
    refine WC.seq fun K14 hK14 => ?_
    -- region 1
    refine WC.region ?_
    -- R1.0 11 := platter.go:36 move
    refine WL.v (by first | exact r_move (v := .int _ _) rfl | exact r_move rfl) rfl rfl rfl ?_
    -- R1.1 12 := platter.go:36 binOp
    refine WL.v (by exact r_quo (r := ((s / 64 : Nat) : Int)) rfl rfl (by omega) (by rw [show ((s : Nat) : Int).tdiv 64 = ((s / 64 : Nat) : Int) from rfl]; exact wi64 (by omega) (by omega))) rfl rfl rfl ?_
    -- R1.2 6 := platter.go:36 assign
    refine WL.v (by first | exact r_assign (v := .int _ _) rfl | exact r_assign rfl) rfl rfl rfl ?_
    refine WL.fin hK14 (fun _ _ h => h) ?_
    refine WC.seq fun K15 hK15 => ?_
    refine WC.seq fun K16 hK16 => ?_
    -- region 2
    refine WC.region ?_
    -- R2.0 13 := platter.go:37 move
    refine WL.v (by first | exact r_move (v := .pointer _) rfl | exact r_move rfl) rfl rfl rfl ?_
    -- R2.1 14 := platter.go:37 nilCheck
    refine WL.v (by exact r_nilCheck rfl) rfl rfl rfl ?_
    -- R2.2 15 := platter.go:37 fieldAddr
    refine WL.v (by exact r_field ty_fld91_1 rfl) rfl rfl rfl ?_
    -- R2.3 16 := platter.go:37 load
    refine WL.v (by exact r_load1 ty_one54 rfl (by first | assumption | exact st.c0 (by first | decide | omega) | exact st.c1 (by first | decide | omega) | exact st.c2 (by first | decide | omega) | exact st.c3 (by first | decide | omega) | exact st.c4 (by first | decide | omega) | exact st.c5 (by first | decide | omega) | exact st.c6 (by first | decide | omega) | exact st.c7 (by first | decide | omega) | exact st.c8 (by first | decide | omega))) rfl rfl rfl ?_
    -- R2.4 17 := platter.go:37 move
    refine WL.v (by first | exact r_move (v := .int _ _) rfl | exact r_move rfl) rfl rfl rfl ?_
    -- R2.5 18 := platter.go:37 indexAddr
    refine WL.v (by exact r_indexS (j := s / 64) ty_sl54 rfl rfl rfl hi) rfl rfl rfl ?_
    -- R2.6 19 := platter.go:37 load
    refine WL.v (v := .slice (some ⟨b, 0, none⟩) 32768 32768) (by exact r_load1 ty_one29 rfl (by rw [ld_ext st hi, exF_some hb])) rfl rfl rfl ?_
    -- R2.7 20 := platter.go:37 binOp
    refine WL.v (by first | exact r_sleqT ty_sl29 rfl rfl | exact r_sleqF ty_sl29 rfl rfl) rfl rfl rfl ?_
    refine WL.fin hK16 (fun _ _ h => h) ?_
    refine WC.condF rfl rfl ?_
    refine WC.skipF hK15 (fun _ _ h => h) ?_
    refine WC.seq fun K17 hK17 => ?_
    -- region 4
    refine WC.region ?_
    -- R4.0 28 := platter.go:40 move
    refine WL.v (by first | exact r_move (v := .int _ _) rfl | exact r_move rfl) rfl rfl rfl ?_
    -- R4.1 29 := platter.go:40 binOp
    refine WL.v (by exact r_rem (r := ((s % 64 : Nat) : Int)) rfl rfl (by omega) rfl) rfl rfl rfl ?_
    -- R4.2 30 := platter.go:40 binOp
    refine WL.v (by exact r_mul (r := ((s % 64 * 512 : Nat) : Int)) rfl rfl ((wi64 (by omega) (by omega)).trans (by omega))) rfl rfl rfl ?_
    -- R4.3 7 := platter.go:40 assign
    refine WL.v (by first | exact r_assign (v := .int _ _) rfl | exact r_assign rfl) rfl rfl rfl ?_
    refine WL.fin hK17 (fun _ _ h => h) ?_
    -- region 5
    refine WC.region ?_
    -- R5.0 31 := platter.go:41 move
    refine WL.v (by first | exact r_move (v := .pointer _) rfl | exact r_move rfl) rfl rfl rfl ?_
    -- R5.1 32 := platter.go:41 nilCheck
    refine WL.v (by exact r_nilCheck rfl) rfl rfl rfl ?_
    -- R5.2 33 := platter.go:41 fieldAddr
    refine WL.v (by exact r_field ty_fld91_1 rfl) rfl rfl rfl ?_
    -- R5.3 34 := platter.go:41 load
    refine WL.v (by exact r_load1 ty_one54 rfl (by first | assumption | exact st.c0 (by first | decide | omega) | exact st.c1 (by first | decide | omega) | exact st.c2 (by first | decide | omega) | exact st.c3 (by first | decide | omega) | exact st.c4 (by first | decide | omega) | exact st.c5 (by first | decide | omega) | exact st.c6 (by first | decide | omega) | exact st.c7 (by first | decide | omega) | exact st.c8 (by first | decide | omega))) rfl rfl rfl ?_
    -- R5.4 35 := platter.go:41 move
    refine WL.v (by first | exact r_move (v := .int _ _) rfl | exact r_move rfl) rfl rfl rfl ?_
    -- R5.5 36 := platter.go:41 indexAddr
    refine WL.v (by exact r_indexS (j := s / 64) ty_sl54 rfl rfl rfl hi) rfl rfl rfl ?_
    -- R5.6 37 := platter.go:41 load
    refine WL.v (v := .slice (some ⟨b, 0, none⟩) 32768 32768) (by exact r_load1 ty_one29 rfl (by rw [ld_ext st hi, exF_some hb])) rfl rfl rfl ?_
    -- R5.7 38 := platter.go:41 move
    refine WL.v (by first | exact r_move (v := .int _ _) rfl | exact r_move rfl) rfl rfl rfl ?_
    -- R5.8 39 := platter.go:41 move
    refine WL.v (by first | exact r_move (v := .int _ _) rfl | exact r_move rfl) rfl rfl rfl ?_
    -- R5.9 40 := platter.go:41 binOp
    refine WL.v (by exact r_add (r := ((s % 64 * 512 + 512 : Nat) : Int)) rfl rfl ((wi64 (by omega) (by omega)).trans (by omega))) rfl rfl rfl ?_
    -- R5.10 41 := platter.go:41 slice
    refine WL.v (by exact r_slS (l := s % 64 * 512) (h := s % 64 * 512 + 512) (m := 32768) ty_sl29 rfl ⟨_, rfl⟩ ⟨_, rfl⟩ rfl (fun h => by cases h) (by omega) (by omega) (Nat.le_refl _) (by omega)) rfl rfl rfl ?_
    -- R5.11 42 := platter.go:41 move
    refine WL.v (by first | exact r_move (v := .slice _ _ _) rfl | exact r_move rfl) rfl rfl rfl ?_
    -- R5.12 43 := platter.go:41 call
    obtain ⟨R, st, hsub, hback⟩ := front_ext (s := s) hi hb st
    refine WL.copyM (m := mm) (m1 := 512) (o := s % 64 * 512) (news := fun j => .int .u8 (f j)) st ty_sl29 (by show Value.slice (some ⟨b, 0 + s % 64 * 512 * 1, none⟩) (s % 64 * 512 + 512 - s % 64 * 512) _ = _; rw [show 0 + s % 64 * 512 * 1 = s % 64 * 512 by omega, show s % 64 * 512 + 512 - s % 64 * 512 = 512 by omega]) rfl hmm (by omega) (hsrc _ _ hsub st) (fun _ _ => rfl) rfl rfl rfl ?_
    intro w st
    have st := hback mm f w hmm st
    refine WL.end0 Tryd.results57 (fun _ _ h => h) ?_
    exact ⟨_, rfl, D.eb, fun t ht j => by
      show stP D.pc s mm f t j = 0
      have : D.eb (t / 64) = none := ht
      unfold stP
      rw [if_neg (by intro h; rw [h.1, hb] at this; cases this)]
      exact hz t this j, st⟩
  | none =>
    refine enter [.pointer (some ⟨D.bD, 2, none⟩), .int .i64 (s : Nat), .slice (some ⟨bx, ox, none⟩) mm cc] Tryd.func57 rfl Tryd.ntmps57 rfl ?_
    show WC _ _ _ 44 [] [(0, .pointer (some ⟨D.bD, 2, none⟩)), (1, .int .i64 (s : Nat)), (2, .slice (some ⟨bx, ox, none⟩) mm cc)] _
    refine WC.seq fun K18 hK18 => ?_
    refine WC.seq fun K19 hK19 => ?_
    -- region 0
    refine WC.region ?_
    -- R0.0 8 := platter.go:33 move
    refine WL.v (by first | exact r_move (v := .slice _ _ _) rfl | exact r_move rfl) rfl rfl rfl ?_
    -- R0.1 9 := platter.go:33 call
    refine WL.v (by exact r_len ty_usl29 rfl) rfl rfl rfl ?_
    -- R0.2 10 := platter.go:33 binOp
    refine WL.v (by exact r_eql rfl rfl (decide_eq_false (by omega))) rfl rfl rfl ?_
    refine WL.fin hK19 (fun _ _ h => h) ?_
    refine WC.condF rfl rfl ?_
    refine WC.skipF hK18 (fun _ _ h => h) ?_
    refine WC.seq fun K20 hK20 => ?_
    -- region 1
    refine WC.region ?_
    -- R1.0 11 := platter.go:36 move
    refine WL.v (by first | exact r_move (v := .int _ _) rfl | exact r_move rfl) rfl rfl rfl ?_
    -- R1.1 12 := platter.go:36 binOp
    refine WL.v (by exact r_quo (r := ((s / 64 : Nat) : Int)) rfl rfl (by omega) (by rw [show ((s : Nat) : Int).tdiv 64 = ((s / 64 : Nat) : Int) from rfl]; exact wi64 (by omega) (by omega))) rfl rfl rfl ?_
    -- R1.2 6 := platter.go:36 assign
    refine WL.v (by first | exact r_assign (v := .int _ _) rfl | exact r_assign rfl) rfl rfl rfl ?_
    refine WL.fin hK20 (fun _ _ h => h) ?_
    refine WC.seq fun K21 hK21 => ?_
    refine WC.seq fun K22 hK22 => ?_
    -- region 2
    refine WC.region ?_
    -- R2.0 13 := platter.go:37 move
    refine WL.v (by first | exact r_move (v := .pointer _) rfl | exact r_move rfl) rfl rfl rfl ?_
    -- R2.1 14 := platter.go:37 nilCheck
    refine WL.v (by exact r_nilCheck rfl) rfl rfl rfl ?_
    -- R2.2 15 := platter.go:37 fieldAddr
    refine WL.v (by exact r_field ty_fld91_1 rfl) rfl rfl rfl ?_
    -- R2.3 16 := platter.go:37 load
    refine WL.v (by exact r_load1 ty_one54 rfl (by first | assumption | exact st.c0 (by first | decide | omega) | exact st.c1 (by first | decide | omega) | exact st.c2 (by first | decide | omega) | exact st.c3 (by first | decide | omega) | exact st.c4 (by first | decide | omega) | exact st.c5 (by first | decide | omega) | exact st.c6 (by first | decide | omega) | exact st.c7 (by first | decide | omega) | exact st.c8 (by first | decide | omega))) rfl rfl rfl ?_
    -- R2.4 17 := platter.go:37 move
    refine WL.v (by first | exact r_move (v := .int _ _) rfl | exact r_move rfl) rfl rfl rfl ?_
    -- R2.5 18 := platter.go:37 indexAddr
    refine WL.v (by exact r_indexS (j := s / 64) ty_sl54 rfl rfl rfl hi) rfl rfl rfl ?_
    -- R2.6 19 := platter.go:37 load
    refine WL.v (v := .slice none 0 0) (by exact r_load1 ty_one29 rfl (by rw [ld_ext st hi, exF_none hb])) rfl rfl rfl ?_
    -- R2.7 20 := platter.go:37 binOp
    refine WL.v (by first | exact r_sleqT ty_sl29 rfl rfl | exact r_sleqF ty_sl29 rfl rfl) rfl rfl rfl ?_
    refine WL.fin hK22 (fun _ _ h => h) ?_
    refine WC.condT rfl rfl ?_
    -- region 3 (draws)
    refine WC.heldS [6, 7] [0, 1, 2, 3, 4] [5, 6, 7] st (st) ty_mixed (by kernel_rfl) fun w st Kq hKq => ?_
    -- R3.0 21 := platter.go:38 move
    refine HL.v (fun w st => by first | exact r_move (v := .pointer _) rfl | exact r_move rfl) rfl rfl rfl ?_
    -- R3.1 22 := platter.go:38 nilCheck
    refine HL.v (fun w st => by exact r_nilCheck rfl) rfl rfl rfl ?_
    -- R3.2 23 := platter.go:38 fieldAddr
    refine HL.v (fun w st => by exact r_field ty_fld91_1 rfl) rfl rfl rfl ?_
    -- R3.3 24 := platter.go:38 load
    refine HL.v (fun w st => by exact r_load1 ty_one54 rfl (by first | assumption | exact st.c0 (by first | decide | omega) | exact st.c1 (by first | decide | omega) | exact st.c2 (by first | decide | omega) | exact st.c3 (by first | decide | omega) | exact st.c4 (by first | decide | omega) | exact st.c5 (by first | decide | omega) | exact st.c6 (by first | decide | omega) | exact st.c7 (by first | decide | omega) | exact st.c8 (by first | decide | omega))) rfl rfl rfl ?_
    -- R3.4 25 := platter.go:38 move
    refine HL.v (fun w st => by first | exact r_move (v := .int _ _) rfl | exact r_move rfl) rfl rfl rfl ?_
    refine HL.fin hKq ?_
    refine TL.at ?_
    -- R3.5 26 := platter.go:38 makeSlice
    refine WL.make (len := 32768) (cap := 32768) st ty_mk29 ty_zero5 rfl rfl (by first | rfl | omega) (by first | rfl | omega) (by omega) (by omega) (by omega) rfl rfl rfl rfl ?_
    intro b26 w st
    refine TL.nxt (by first | exact st | exact st.drop | exact st.drop1 | exact st.drop2 | exact st.drop3 | exact st.drop4 | exact st.drop.drop | exact st.drop.drop1 | exact st.drop.drop2 | exact st.drop.drop3 | exact st.drop.drop4 | exact st.drop.drop.drop | exact st.drop.drop.drop.drop | exact st_dropL st | exact st_dropL st.drop | exact st_none st) ?_
    refine TL.at ?_
    -- R3.6 27 := platter.go:38 indexAddr
    refine WL.v (by exact r_indexS (j := s / 64) ty_sl54 rfl rfl rfl hi) rfl rfl rfl ?_
    refine TL.nxt' rfl ?_
    refine TL.at ?_
    -- R3.7 None := platter.go:38 store
    refine WL.store (v := .slice (some ⟨b26, 0, none⟩) 32768 32768) st.front2 ty_one29 rfl rfl rfl (by omega) rfl rfl ?_
    intro w st
    have st := add_ext hi hb hz st
    obtain ⟨D1, hD1⟩ : ∃ D1, D1 = withE D (s / 64) b26 := ⟨_, rfl⟩
    have hb1 : D1.eb (s / 64) = some b26 := by rw [hD1]; simp [withE]
    have hi1 : s / 64 < D1.nE := by rw [hD1]; exact hi
    have ebD : D1.bD = D.bD := by rw [hD1]; rfl
    have hsrc1 : ∀ l w', (∀ x, x ∈ gather D1.nS (slI D1.sb D1.ss D1.sd) → x ∈ l) → S0 w0 l w' → ∀ j, j < mm → w'.cell? ⟨bx, ox + j, none⟩ = some (.int .u8 (f j)) := by rw [hD1]; exact hsrc
    rw [← hD1] at st
    refine TL.nxt' rfl ?_
    refine TL.wl ?_
    refine WL.fin hK21 (fun _ _ h => h) ?_
    refine WC.seq fun K23 hK23 => ?_
    -- region 4
    refine WC.region ?_
    -- R4.0 28 := platter.go:40 move
    refine WL.v (by first | exact r_move (v := .int _ _) rfl | exact r_move rfl) rfl rfl rfl ?_
    -- R4.1 29 := platter.go:40 binOp
    refine WL.v (by exact r_rem (r := ((s % 64 : Nat) : Int)) rfl rfl (by omega) rfl) rfl rfl rfl ?_
    -- R4.2 30 := platter.go:40 binOp
    refine WL.v (by exact r_mul (r := ((s % 64 * 512 : Nat) : Int)) rfl rfl ((wi64 (by omega) (by omega)).trans (by omega))) rfl rfl rfl ?_
    -- R4.3 7 := platter.go:40 assign
    refine WL.v (by first | exact r_assign (v := .int _ _) rfl | exact r_assign rfl) rfl rfl rfl ?_
    refine WL.fin hK23 (fun _ _ h => h) ?_
    -- region 5
    refine WC.region ?_
    -- R5.0 31 := platter.go:41 move
    refine WL.v (by first | exact r_move (v := .pointer _) rfl | exact r_move rfl) rfl rfl rfl ?_
    -- R5.1 32 := platter.go:41 nilCheck
    refine WL.v (by exact r_nilCheck rfl) rfl rfl rfl ?_
    -- R5.2 33 := platter.go:41 fieldAddr
    refine WL.v (by exact r_field ty_fld91_1 rfl) rfl rfl rfl ?_
    -- R5.3 34 := platter.go:41 load
    refine WL.v (v := .slice (some ⟨D1.bX, 0, none⟩) D1.nE D1.nE) (by exact r_load1 ty_one54 rfl (by rw [← ebD]; exact st.c0 (by decide))) rfl rfl rfl ?_
    -- R5.4 35 := platter.go:41 move
    refine WL.v (by first | exact r_move (v := .int _ _) rfl | exact r_move rfl) rfl rfl rfl ?_
    -- R5.5 36 := platter.go:41 indexAddr
    refine WL.v (by exact r_indexS (j := s / 64) ty_sl54 rfl rfl rfl hi1) rfl rfl rfl ?_
    -- R5.6 37 := platter.go:41 load
    refine WL.v (v := .slice (some ⟨b26, 0, none⟩) 32768 32768) (by exact r_load1 ty_one29 rfl (by rw [ld_ext st hi1, exF_some hb1])) rfl rfl rfl ?_
    -- R5.7 38 := platter.go:41 move
    refine WL.v (by first | exact r_move (v := .int _ _) rfl | exact r_move rfl) rfl rfl rfl ?_
    -- R5.8 39 := platter.go:41 move
    refine WL.v (by first | exact r_move (v := .int _ _) rfl | exact r_move rfl) rfl rfl rfl ?_
    -- R5.9 40 := platter.go:41 binOp
    refine WL.v (by exact r_add (r := ((s % 64 * 512 + 512 : Nat) : Int)) rfl rfl ((wi64 (by omega) (by omega)).trans (by omega))) rfl rfl rfl ?_
    -- R5.10 41 := platter.go:41 slice
    refine WL.v (by exact r_slS (l := s % 64 * 512) (h := s % 64 * 512 + 512) (m := 32768) ty_sl29 rfl ⟨_, rfl⟩ ⟨_, rfl⟩ rfl (fun h => by cases h) (by omega) (by omega) (Nat.le_refl _) (by omega)) rfl rfl rfl ?_
    -- R5.11 42 := platter.go:41 move
    refine WL.v (by first | exact r_move (v := .slice _ _ _) rfl | exact r_move rfl) rfl rfl rfl ?_
    -- R5.12 43 := platter.go:41 call
    obtain ⟨R, st, hsub, hback⟩ := front_ext (s := s) hi1 hb1 st
    refine WL.copyM (m := mm) (m1 := 512) (o := s % 64 * 512) (news := fun j => .int .u8 (f j)) st ty_sl29 (by show Value.slice (some ⟨b26, 0 + s % 64 * 512 * 1, none⟩) (s % 64 * 512 + 512 - s % 64 * 512) _ = _; rw [show 0 + s % 64 * 512 * 1 = s % 64 * 512 by omega, show s % 64 * 512 + 512 - s % 64 * 512 = 512 by omega]) rfl hmm (by omega) (hsrc1 _ _ hsub st) (fun _ _ => rfl) rfl rfl rfl ?_
    intro w st
    have st := hback mm f w hmm st
    refine WL.end0 Tryd.results57 (fun _ _ h => h) ?_
    refine ⟨_, rfl, (withE D (s / 64) b26).eb, fun t ht j => ?_, by rw [hD1] at st; exact st⟩
    have ht : (if t / 64 = s / 64 then some b26 else D.eb (t / 64)) = none := ht
    show stP D.pc s mm f t j = 0
    by_cases hts : t / 64 = s / 64
    · rw [if_pos hts] at ht; cases ht
    · rw [if_neg hts] at ht
      unfold stP
      rw [if_neg (by intro h; exact hts (by rw [h.1]))]
      exact hz t ht j
end Go.Proofs.Qxb6500837aDoor

