import Derived.Test.Qxb6500837aDoorD3
set_option linter.unusedVariables false
set_option linter.unusedSimpArgs false
set_option maxRecDepth 20000
namespace Go.Proofs.Qxb6500837aDoor
open Go.RowKit Go.E1 Go.Disk
variable {w0 : World} {L : List HI} {w : World} {D : DK} {m : Int}

theorem u8_one (x : Int) : (Value.int .u8 x).oneCell' = true := rfl

set_option maxHeartbeats 4000000 in
theorem load_ok (s cc bb ob nb : Nat) (g : Nat → Value) (hs : s < D.sectors) (hsec : D.sectors ≤ 65536) (hob : ob + 512 ≤ nb) (hz : ZE D) (st : S0 w0 (DI D m ((bb, Row 5 nb g) :: L)) w) :
    Calls Tryd.prog 61 #[.pointer (some ⟨D.bD, 2, none⟩), .int .i64 (s : Nat), .slice (some ⟨bb, ob, none⟩) 512 cc] w (Ret fun v w' => S0 w0 (DI D m ((bb, Row 5 nb (upds g ob 512 fun j => .int .u8 (D.pc s j))) :: L)) w') := by
  have hi : s / 64 < D.nE := by unfold DK.nE; omega
  cases hb : D.eb (s / 64) with
  | some b =>
    refine enter [.pointer (some ⟨D.bD, 2, none⟩), .int .i64 (s : Nat), .slice (some ⟨bb, ob, none⟩) 512 cc] Tryd.func61 rfl Tryd.ntmps61 rfl ?_
    show WC _ _ _ 29 [] [(0, .pointer (some ⟨D.bD, 2, none⟩)), (1, .int .i64 (s : Nat)), (2, .slice (some ⟨bb, ob, none⟩) 512 cc)] _
    refine WC.seq fun K24 hK24 => ?_
    -- region 0
    refine WC.region ?_
    -- R0.0 8 := platter.go:22 move
    refine WL.v (by first | exact r_move (v := .pointer _) rfl | exact r_move rfl) rfl rfl rfl ?_
    -- R0.1 9 := platter.go:22 nilCheck
    refine WL.v (by exact r_nilCheck rfl) rfl rfl rfl ?_
    -- R0.2 10 := platter.go:22 fieldAddr
    refine WL.v (by exact r_field ty_fld91_1 rfl) rfl rfl rfl ?_
    -- R0.3 11 := platter.go:22 load
    refine WL.v (by exact r_load1 ty_one54 rfl (by first | assumption | exact st.c0 (by first | decide | omega) | exact st.c1 (by first | decide | omega) | exact st.c2 (by first | decide | omega) | exact st.c3 (by first | decide | omega) | exact st.c4 (by first | decide | omega) | exact st.c5 (by first | decide | omega) | exact st.c6 (by first | decide | omega) | exact st.c7 (by first | decide | omega) | exact st.c8 (by first | decide | omega))) rfl rfl rfl ?_
    -- R0.4 12 := platter.go:22 move
    refine WL.v (by first | exact r_move (v := .int _ _) rfl | exact r_move rfl) rfl rfl rfl ?_
    -- R0.5 13 := platter.go:22 binOp
    refine WL.v (by exact r_quo (r := ((s / 64 : Nat) : Int)) rfl rfl (by omega) (by rw [show ((s : Nat) : Int).tdiv 64 = ((s / 64 : Nat) : Int) from rfl]; exact wi64 (by omega) (by omega))) rfl rfl rfl ?_
    -- R0.6 14 := platter.go:22 indexAddr
    refine WL.v (by exact r_indexS (j := s / 64) ty_sl54 rfl rfl rfl hi) rfl rfl rfl ?_
    -- R0.7 15 := platter.go:22 load
    refine WL.v (v := .slice (some ⟨b, 0, none⟩) 32768 32768) (by exact r_load1 ty_one29 rfl (by rw [ld_ext st hi, exF_some hb])) rfl rfl rfl ?_
    -- R0.8 6 := platter.go:22 assign
    refine WL.v (by first | exact r_assign (v := .slice _ _ _) rfl | exact r_assign rfl) rfl rfl rfl ?_
    refine WL.fin hK24 (fun _ _ h => h) ?_
    refine WC.seq fun K25 hK25 => ?_
    refine WC.seq fun K26 hK26 => ?_
    -- region 1
    refine WC.region ?_
    -- R1.0 16 := platter.go:23 move
    refine WL.v (by first | exact r_move (v := .slice _ _ _) rfl | exact r_move rfl) rfl rfl rfl ?_
    -- R1.1 17 := platter.go:23 binOp
    refine WL.v (by first | exact r_sleqT ty_sl29 rfl rfl | exact r_sleqF ty_sl29 rfl rfl) rfl rfl rfl ?_
    refine WL.fin hK26 (fun _ _ h => h) ?_
    refine WC.condF rfl rfl ?_
    refine WC.skipF hK25 (fun _ _ h => h) ?_
    refine WC.seq fun K27 hK27 => ?_
    -- region 3
    refine WC.region ?_
    -- R3.0 19 := platter.go:27 move
    refine WL.v (by first | exact r_move (v := .int _ _) rfl | exact r_move rfl) rfl rfl rfl ?_
    -- R3.1 20 := platter.go:27 binOp
    refine WL.v (by exact r_rem (r := ((s % 64 : Nat) : Int)) rfl rfl (by omega) rfl) rfl rfl rfl ?_
    -- R3.2 21 := platter.go:27 binOp
    refine WL.v (by exact r_mul (r := ((s % 64 * 512 : Nat) : Int)) rfl rfl ((wi64 (by omega) (by omega)).trans (by omega))) rfl rfl rfl ?_
    -- R3.3 7 := platter.go:27 assign
    refine WL.v (by first | exact r_assign (v := .int _ _) rfl | exact r_assign rfl) rfl rfl rfl ?_
    refine WL.fin hK27 (fun _ _ h => h) ?_
    -- region 4
    refine WC.region ?_
    -- R4.0 22 := platter.go:28 move
    refine WL.v (by first | exact r_move (v := .slice _ _ _) rfl | exact r_move rfl) rfl rfl rfl ?_
    -- R4.1 23 := platter.go:28 move
    refine WL.v (by first | exact r_move (v := .slice _ _ _) rfl | exact r_move rfl) rfl rfl rfl ?_
    -- R4.2 24 := platter.go:28 move
    refine WL.v (by first | exact r_move (v := .int _ _) rfl | exact r_move rfl) rfl rfl rfl ?_
    -- R4.3 25 := platter.go:28 move
    refine WL.v (by first | exact r_move (v := .int _ _) rfl | exact r_move rfl) rfl rfl rfl ?_
    -- R4.4 26 := platter.go:28 binOp
    refine WL.v (by exact r_add (r := ((s % 64 * 512 + 512 : Nat) : Int)) rfl rfl ((wi64 (by omega) (by omega)).trans (by omega))) rfl rfl rfl ?_
    -- R4.5 27 := platter.go:28 slice
    refine WL.v (by exact r_slS (l := s % 64 * 512) (h := s % 64 * 512 + 512) (m := 32768) ty_sl29 rfl ⟨_, rfl⟩ ⟨_, rfl⟩ rfl (fun h => by cases h) (by omega) (by omega) (Nat.le_refl _) (by omega)) rfl rfl rfl ?_
    -- R4.6 28 := platter.go:28 call
    have st := st.perm di_front
    refine WL.copyM (m := 512) (m1 := 512) (o := ob) (bx := b) (ox := s % 64 * 512) (news := fun j => .int .u8 (D.pc s j)) st ty_sl29 rfl (by show Value.slice (some ⟨b, 0 + s % 64 * 512 * 1, none⟩) (s % 64 * 512 + 512 - s % 64 * 512) _ = _; rw [show 0 + s % 64 * 512 * 1 = s % 64 * 512 by omega, show s % 64 * 512 + 512 - s % 64 * 512 = 512 by omega]) (Nat.le_refl _) hob (fun j hj => ld_pc st.drop hi hb hj) (fun _ _ => rfl) rfl rfl rfl ?_
    intro w st
    have st := st.perm (di_front (D := D) (m := m) (q := mapP D)).symm
    refine WL.end0 Tryd.results61 (fun _ _ h => h) ?_
    exact ⟨_, rfl, st⟩
  | none =>
    refine enter [.pointer (some ⟨D.bD, 2, none⟩), .int .i64 (s : Nat), .slice (some ⟨bb, ob, none⟩) 512 cc] Tryd.func61 rfl Tryd.ntmps61 rfl ?_
    show WC _ _ _ 29 [] [(0, .pointer (some ⟨D.bD, 2, none⟩)), (1, .int .i64 (s : Nat)), (2, .slice (some ⟨bb, ob, none⟩) 512 cc)] _
    refine WC.seq fun K28 hK28 => ?_
    -- region 0
    refine WC.region ?_
    -- R0.0 8 := platter.go:22 move
    refine WL.v (by first | exact r_move (v := .pointer _) rfl | exact r_move rfl) rfl rfl rfl ?_
    -- R0.1 9 := platter.go:22 nilCheck
    refine WL.v (by exact r_nilCheck rfl) rfl rfl rfl ?_
    -- R0.2 10 := platter.go:22 fieldAddr
    refine WL.v (by exact r_field ty_fld91_1 rfl) rfl rfl rfl ?_
    -- R0.3 11 := platter.go:22 load
    refine WL.v (by exact r_load1 ty_one54 rfl (by first | assumption | exact st.c0 (by first | decide | omega) | exact st.c1 (by first | decide | omega) | exact st.c2 (by first | decide | omega) | exact st.c3 (by first | decide | omega) | exact st.c4 (by first | decide | omega) | exact st.c5 (by first | decide | omega) | exact st.c6 (by first | decide | omega) | exact st.c7 (by first | decide | omega) | exact st.c8 (by first | decide | omega))) rfl rfl rfl ?_
    -- R0.4 12 := platter.go:22 move
    refine WL.v (by first | exact r_move (v := .int _ _) rfl | exact r_move rfl) rfl rfl rfl ?_
    -- R0.5 13 := platter.go:22 binOp
    refine WL.v (by exact r_quo (r := ((s / 64 : Nat) : Int)) rfl rfl (by omega) (by rw [show ((s : Nat) : Int).tdiv 64 = ((s / 64 : Nat) : Int) from rfl]; exact wi64 (by omega) (by omega))) rfl rfl rfl ?_
    -- R0.6 14 := platter.go:22 indexAddr
    refine WL.v (by exact r_indexS (j := s / 64) ty_sl54 rfl rfl rfl hi) rfl rfl rfl ?_
    -- R0.7 15 := platter.go:22 load
    refine WL.v (v := .slice none 0 0) (by exact r_load1 ty_one29 rfl (by rw [ld_ext st hi, exF_none hb])) rfl rfl rfl ?_
    -- R0.8 6 := platter.go:22 assign
    refine WL.v (by first | exact r_assign (v := .slice _ _ _) rfl | exact r_assign rfl) rfl rfl rfl ?_
    refine WL.fin hK28 (fun _ _ h => h) ?_
    refine WC.seq fun K29 hK29 => ?_
    refine WC.seq fun K30 hK30 => ?_
    -- region 1
    refine WC.region ?_
    -- R1.0 16 := platter.go:23 move
    refine WL.v (by first | exact r_move (v := .slice _ _ _) rfl | exact r_move rfl) rfl rfl rfl ?_
    -- R1.1 17 := platter.go:23 binOp
    refine WL.v (by first | exact r_sleqT ty_sl29 rfl rfl | exact r_sleqF ty_sl29 rfl rfl) rfl rfl rfl ?_
    refine WL.fin hK30 (fun _ _ h => h) ?_
    refine WC.condT rfl rfl ?_
    refine WC.seq fun K31 hK31 => ?_
    -- region 2
    refine WC.region ?_
    -- R2.0 18 := platter.go:24 move
    refine WL.v (by first | exact r_move (v := .slice _ _ _) rfl | exact r_move rfl) rfl rfl rfl ?_
    -- R2.1 None := platter.go:24 call
    have st := st.perm di_front
    refine WL.clearS (o := ob) (m := 512) (zv := .int .u8 0) st ty_sl29 ty_z15 rfl rfl rfl (by omega) hob rfl rfl ?_
    intro w st
    have st := st.perm (di_front (D := D) (m := m) (q := mapP D)).symm
    refine WL.fin hK31 (fun _ _ h => h) ?_
    refine WC.ret0 Tryd.results61 (fun _ _ h => h) ?_
    refine ⟨_, rfl, ?_⟩
    have e : (fun j => Value.int .u8 (D.pc s j)) = fun _ => .int .u8 0 := by funext j; rw [hz s hb j]
    rw [e]; exact st

/-! Slabs. -/
def ZS (D : DK) : Prop := ∀ t, D.sb (t / 32) = none → D.ss t = 0 ∧ ∀ j, D.sd t j = 0
def withS (D : DK) (i b : Nat) : DK := { D with sb := fun j => if j = i then some b else D.sb j }

theorem add_slab {i b : Nat} (hi : i < D.nS) (hn : D.sb i = none) (hz : ZS D)
    (st : S0 w0 ((D.bS, Row 128 D.nS (upd (slF D.sb) (0 + i * 1) (.pointer (some ⟨b, 0, none⟩)))) :: (b, Row 132 16416 (nth (List.replicate 32 (.int .i64 0) ++ List.replicate 16384 (.int .u8 0)))) :: (D.bD, Row 97 23 (nth (dC m D))) :: (D.bX, Row 29 D.nE (exF D.eb)) :: (D.bM, MapV (keyGood Go.Proofs.Tryd.prog 2) (gOf (nV D.N))) :: DX D L) w) : S0 w0 (DI (withS D i b) m L) w := by
  obtain ⟨R, hR⟩ := at_slab (D := D) (m := m) (L := L) hi
  have h0 := hR D rfl rfl rfl rfl rfl rfl rfl rfl rfl rfl rfl (fun _ _ => rfl) (fun _ _ => ⟨rfl, rfl⟩)
  have h1 := hR (withS D i b) rfl rfl rfl rfl rfl rfl rfl rfl rfl rfl rfl (fun j hj => by simp [withS, hj]) (fun _ _ => ⟨rfl, rfl⟩)
  have e0 : slI D.sb D.ss D.sd i = [] := by simp [slI, hn]
  have e1 : slI (withS D i b).sb (withS D i b).ss (withS D i b).sd i = [(b, Row 132 16416 (slR D.ss D.sd i))] := by simp [slI, withS]
  rw [e0, List.nil_append] at h0
  rw [e1] at h1
  have hsw : List.Perm ((D.bS, Row 128 D.nS (slF D.sb)) :: (D.bD, Row 97 23 (nth (dC m D))) :: (D.bX, Row 29 D.nE (exF D.eb)) :: (D.bM, MapV (keyGood Go.Proofs.Tryd.prog 2) (gOf (nV D.N))) :: DX D L) (DI D m L) := (List.Perm.swap _ _ _).trans ((List.Perm.swap _ _ _).cons _)
  have hc := (hsw.trans h0).cons_inv
  have st : S0 w0 ((D.bS, Row 128 D.nS (slF (withS D i b).sb)) :: (b, Row 132 16416 (nth (List.replicate 32 (.int .i64 0) ++ List.replicate 16384 (.int .u8 0)))) :: (D.bD, Row 97 23 (nth (dC m D))) :: (D.bX, Row 29 D.nE (exF D.eb)) :: (D.bM, MapV (keyGood Go.Proofs.Tryd.prog 2) (gOf (nV D.N))) :: DX D L) w := st.impc fun o ho => ho.congr fun k hk => by
    rw [upd_eq]
    by_cases hki : k = 0 + i * 1
    · rw [if_pos hki]; simp [slF, withS, show k = i by omega]
    · rw [if_neg hki]; simp [slF, withS, show k ≠ i by omega]
  have st := st.front1
  have st : S0 w0 ((b, Row 132 16416 (slR D.ss D.sd i)) :: (D.bS, Row 128 D.nS (slF (withS D i b).sb)) :: (D.bD, Row 97 23 (nth (dC m D))) :: (D.bX, Row 29 D.nE (exF D.eb)) :: (D.bM, MapV (keyGood Go.Proofs.Tryd.prog 2) (gOf (nV D.N))) :: DX D L) w := st.impc fun o ho => by
    refine Row.congr ho fun k hk => ?_
    unfold slR
    by_cases hk2 : k < 32
    · rw [if_pos hk2, (hz (32 * i + k) (by rw [show (32 * i + k) / 32 = i by omega]; exact hn)).1]
      unfold nth
      rw [List.getD_eq_getElem?_getD, List.getElem?_append_left (by rw [List.length_replicate]; exact hk2), List.getElem?_replicate, if_pos hk2]; rfl
    · rw [if_neg hk2, (hz (32 * i + (k - 32) / 512) (by rw [show (32 * i + (k - 32) / 512) / 32 = i by omega]; exact hn)).2]
      unfold nth
      rw [List.getD_eq_getElem?_getD, List.getElem?_append_right (by rw [List.length_replicate]; omega), List.length_replicate, List.getElem?_replicate, if_pos (by omega)]; rfl
  exact st.perm (((hc.cons _).cons _).trans h1.symm)

theorem front_slab {i b : Nat} (hi : i < D.nS) (hb : D.sb i = some b) (st : S0 w0 (DI D m L) w) : ∃ R, S0 w0 ((b, Row 132 16416 (slR D.ss D.sd i)) :: R) w ∧
    ∀ (ss' : Nat → Int) (sd' : Nat → Nat → Int) (g : Nat → Value) (w' : World), (∀ k, k < 16416 → g k = slR ss' sd' i k) → (∀ j, j / 32 ≠ i → ss' j = D.ss j ∧ sd' j = D.sd j) → S0 w0 ((b, Row 132 16416 g) :: R) w' → S0 w0 (DI { D with ss := ss', sd := sd' } m L) w' := by
  obtain ⟨R, hR⟩ := at_slab (D := D) (m := m) (L := L) hi
  have h0 := hR D rfl rfl rfl rfl rfl rfl rfl rfl rfl rfl rfl (fun _ _ => rfl) (fun _ _ => ⟨rfl, rfl⟩)
  have e0 : slI D.sb D.ss D.sd i = [(b, Row 132 16416 (slR D.ss D.sd i))] := by simp [slI, hb]
  rw [e0] at h0
  refine ⟨_, st.perm h0, fun ss' sd' g w' hg hd st' => ?_⟩
  have h1 := hR { D with ss := ss', sd := sd' } rfl rfl rfl rfl rfl rfl rfl rfl rfl rfl rfl (fun _ _ => rfl) hd
  have e1 : slI D.sb ss' sd' i = [(b, Row 132 16416 (slR ss' sd' i))] := by simp [slI, hb]
  simp only at h1
  rw [e1] at h1
  exact (st'.impc fun o ho => ho.congr hg).perm h1.symm

theorem setN_nV {N : Int → Option Nat} {s : Int} {q : Nat} : setN (nV N) s (.int .i64 (q : Nat)) = nV (fun x => if x = s then some q else N x) := by
  funext x; by_cases h : x = s <;> simp [setN, nV, h]
theorem delN_nV {N : Int → Option Nat} {s : Int} : delN (nV N) s = nV (fun x => if x = s then none else N x) := by
  funext x; by_cases h : x = s <;> simp [delN, nV, h]

def pushD (D : DK) (sb' : Nat → Option Nat) (s : Nat) (f : Nat → Int) : DK :=
  { D with sb := sb', ss := fun t => if t = D.tl % D.limit then (s : Int) else D.ss t, sd := fun t j => if t = D.tl % D.limit ∧ j < 512 then f j else D.sd t j, N := fun x => if x = (s : Int) then some D.tl else D.N x, tl := D.tl + 1 }

set_option maxHeartbeats 16000000 in
theorem push_ok (s cc bx ox : Nat) (f : Nat → Int) (hl : 1 ≤ D.limit) (hl2 : D.limit ≤ 65536) (htl : D.tl ≤ 1000000000000) (hs : s ≤ 65536) (hz : ZS D) (hsrc : ∀ l w', S0 w0 l w' → ∀ j, j < 512 → w'.cell? ⟨bx, ox + j, none⟩ = some (.int .u8 (f j))) (st : S0 w0 (DI D m L) w) :
    Calls Tryd.prog 58 #[.pointer (some ⟨D.bD, 4, none⟩), .int .i64 (s : Nat), .slice (some ⟨bx, ox, none⟩) 512 cc] w (Ret fun v w' => ∃ sb', ZS (pushD D sb' s f) ∧ (∀ i, D.sb i ≠ none → sb' i ≠ none) ∧ sb' (D.tl % D.limit / 32) ≠ none ∧ S0 w0 (DI (pushD D sb' s f) m L) w') := by
  obtain ⟨t, ht⟩ : ∃ t, t = D.tl % D.limit := ⟨_, rfl⟩
  have htl2 : t < D.limit := by rw [ht]; exact Nat.mod_lt _ (by omega)
  have hnS : t / 32 < D.nS := by unfold DK.nS; omega
  obtain ⟨k, hk⟩ : ∃ k, k = t % 32 := ⟨_, rfl⟩
  have hk2 : k < 32 := by omega
  have htk : 32 * (t / 32) + k = t := by omega
  cases hb : D.sb (t / 32) with
  | some b =>
    refine enter [.pointer (some ⟨D.bD, 4, none⟩), .int .i64 (s : Nat), .slice (some ⟨bx, ox, none⟩) 512 cc] Tryd.func58 rfl Tryd.ntmps58 rfl ?_
    show WC _ _ _ 78 [] [(0, .pointer (some ⟨D.bD, 4, none⟩)), (1, .int .i64 (s : Nat)), (2, .slice (some ⟨bx, ox, none⟩) 512 cc)] _
    refine WC.seq fun K32 hK32 => ?_
    -- region 0 (draws)
    refine WC.quietS st ty_mixed (by kernel_rfl) fun Kq hKq => ?_
    -- R0.0 9 := cache.go:45 move
    refine QL.v (fun w st => by first | exact r_move (v := .pointer _) rfl | exact r_move rfl) rfl rfl rfl ?_
    -- R0.1 10 := cache.go:45 nilCheck
    refine QL.v (fun w st => by exact r_nilCheck rfl) rfl rfl rfl ?_
    -- R0.2 11 := cache.go:45 fieldAddr
    refine QL.v (fun w st => by exact r_field ty_fld95_2 rfl) rfl rfl rfl ?_
    -- R0.3 12 := cache.go:45 load
    refine QL.v (fun w st => by exact r_load1 ty_one2 rfl (by first | assumption | exact st.c0 (by first | decide | omega) | exact st.c1 (by first | decide | omega) | exact st.c2 (by first | decide | omega) | exact st.c3 (by first | decide | omega) | exact st.c4 (by first | decide | omega) | exact st.c5 (by first | decide | omega) | exact st.c6 (by first | decide | omega) | exact st.c7 (by first | decide | omega) | exact st.c8 (by first | decide | omega))) rfl rfl rfl ?_
    -- R0.4 13 := cache.go:45 move
    refine QL.v (fun w st => by first | exact r_move (v := .pointer _) rfl | exact r_move rfl) rfl rfl rfl ?_
    -- R0.5 14 := cache.go:45 nilCheck
    refine QL.v (fun w st => by exact r_nilCheck rfl) rfl rfl rfl ?_
    -- R0.6 15 := cache.go:45 fieldAddr
    refine QL.v (fun w st => by exact r_field ty_fld95_0 rfl) rfl rfl rfl ?_
    -- R0.7 16 := cache.go:45 load
    refine QL.v (fun w st => by exact r_load1 ty_one2 rfl (by first | assumption | exact st.c0 (by first | decide | omega) | exact st.c1 (by first | decide | omega) | exact st.c2 (by first | decide | omega) | exact st.c3 (by first | decide | omega) | exact st.c4 (by first | decide | omega) | exact st.c5 (by first | decide | omega) | exact st.c6 (by first | decide | omega) | exact st.c7 (by first | decide | omega) | exact st.c8 (by first | decide | omega))) rfl rfl rfl ?_
    -- R0.8 17 := cache.go:45 binOp
    refine QL.v (fun w st => by exact r_rem (r := (t : Int)) rfl rfl (by omega) (by rw [ht]; exact rfl)) rfl rfl rfl ?_
    -- R0.9 6 := cache.go:45 assign
    refine QL.v (fun w st => by first | exact r_assign (v := .int _ _) rfl | exact r_assign rfl) rfl rfl rfl ?_
    refine QL.wl hKq fun w st => ?_
    refine WL.fin hK32 (fun _ _ h => h) ?_
    refine WC.seq fun K33 hK33 => ?_
    refine WC.seq fun K34 hK34 => ?_
    -- region 1
    refine WC.region ?_
    -- R1.0 18 := cache.go:46 move
    refine WL.v (by first | exact r_move (v := .pointer _) rfl | exact r_move rfl) rfl rfl rfl ?_
    -- R1.1 19 := cache.go:46 nilCheck
    refine WL.v (by exact r_nilCheck rfl) rfl rfl rfl ?_
    -- R1.2 20 := cache.go:46 fieldAddr
    refine WL.v (by exact r_field ty_fld95_3 rfl) rfl rfl rfl ?_
    -- R1.3 21 := cache.go:46 load
    refine WL.v (by exact r_load1 ty_one92 rfl (by first | assumption | exact st.c0 (by first | decide | omega) | exact st.c1 (by first | decide | omega) | exact st.c2 (by first | decide | omega) | exact st.c3 (by first | decide | omega) | exact st.c4 (by first | decide | omega) | exact st.c5 (by first | decide | omega) | exact st.c6 (by first | decide | omega) | exact st.c7 (by first | decide | omega) | exact st.c8 (by first | decide | omega))) rfl rfl rfl ?_
    -- R1.4 22 := cache.go:46 move
    refine WL.v (by first | exact r_move (v := .int _ _) rfl | exact r_move rfl) rfl rfl rfl ?_
    -- R1.5 23 := cache.go:46 binOp
    refine WL.v (by exact r_quo (r := ((t / 32 : Nat) : Int)) rfl rfl (by omega) (by rw [show ((t : Nat) : Int).tdiv 32 = ((t / 32 : Nat) : Int) from rfl]; exact wi64 (by omega) (by omega))) rfl rfl rfl ?_
    -- R1.6 24 := cache.go:46 indexAddr
    refine WL.v (by exact r_indexS (j := t / 32) ty_sl92 rfl rfl rfl hnS) rfl rfl rfl ?_
    -- R1.7 25 := cache.go:46 load
    refine WL.v (v := .pointer (some ⟨b, 0, none⟩)) (by exact r_load1 ty_one128 rfl (by rw [ld_slab st hnS, slF_some hb])) rfl rfl rfl ?_
    -- R1.8 26 := cache.go:46 binOp
    refine WL.v (by first | exact r_peqT ty_uptr128 rfl rfl | exact r_peqF ty_uptr128 rfl rfl) rfl rfl rfl ?_
    refine WL.fin hK34 (fun _ _ h => h) ?_
    refine WC.condF rfl rfl ?_
    refine WC.skipF hK33 (fun _ _ h => h) ?_
    refine WC.seq fun K35 hK35 => ?_
    -- region 3
    refine WC.region ?_
    -- R3.0 35 := cache.go:49 move
    refine WL.v (by first | exact r_move (v := .pointer _) rfl | exact r_move rfl) rfl rfl rfl ?_
    -- R3.1 36 := cache.go:49 nilCheck
    refine WL.v (by exact r_nilCheck rfl) rfl rfl rfl ?_
    -- R3.2 37 := cache.go:49 fieldAddr
    refine WL.v (by exact r_field ty_fld95_3 rfl) rfl rfl rfl ?_
    -- R3.3 38 := cache.go:49 load
    refine WL.v (by exact r_load1 ty_one92 rfl (by first | assumption | exact st.c0 (by first | decide | omega) | exact st.c1 (by first | decide | omega) | exact st.c2 (by first | decide | omega) | exact st.c3 (by first | decide | omega) | exact st.c4 (by first | decide | omega) | exact st.c5 (by first | decide | omega) | exact st.c6 (by first | decide | omega) | exact st.c7 (by first | decide | omega) | exact st.c8 (by first | decide | omega))) rfl rfl rfl ?_
    -- R3.4 39 := cache.go:49 move
    refine WL.v (by first | exact r_move (v := .int _ _) rfl | exact r_move rfl) rfl rfl rfl ?_
    -- R3.5 40 := cache.go:49 binOp
    refine WL.v (by exact r_quo (r := ((t / 32 : Nat) : Int)) rfl rfl (by omega) (by rw [show ((t : Nat) : Int).tdiv 32 = ((t / 32 : Nat) : Int) from rfl]; exact wi64 (by omega) (by omega))) rfl rfl rfl ?_
    -- R3.6 41 := cache.go:49 indexAddr
    refine WL.v (by exact r_indexS (j := t / 32) ty_sl92 rfl rfl rfl hnS) rfl rfl rfl ?_
    -- R3.7 42 := cache.go:49 load
    refine WL.v (v := .pointer (some ⟨b, 0, none⟩)) (by exact r_load1 ty_one128 rfl (by rw [ld_slab st hnS, slF_some hb])) rfl rfl rfl ?_
    -- R3.8 7 := cache.go:49 assign
    refine WL.v (by first | exact r_assign (v := .pointer _) rfl | exact r_assign rfl) rfl rfl rfl ?_
    refine WL.fin hK35 (fun _ _ h => h) ?_
    refine WC.seq fun K36 hK36 => ?_
    -- region 4
    refine WC.region ?_
    -- R4.0 43 := cache.go:50 move
    refine WL.v (by first | exact r_move (v := .int _ _) rfl | exact r_move rfl) rfl rfl rfl ?_
    -- R4.1 44 := cache.go:50 binOp
    refine WL.v (by exact r_rem (r := (k : Int)) rfl rfl (by omega) (by rw [hk]; exact rfl)) rfl rfl rfl ?_
    -- R4.2 8 := cache.go:50 assign
    refine WL.v (by first | exact r_assign (v := .int _ _) rfl | exact r_assign rfl) rfl rfl rfl ?_
    refine WL.fin hK36 (fun _ _ h => h) ?_
    refine WC.seq fun K37 hK37 => ?_
    -- region 5
    refine WC.region ?_
    -- R5.0 45 := cache.go:51 move
    refine WL.v (by first | exact r_move (v := .pointer _) rfl | exact r_move rfl) rfl rfl rfl ?_
    -- R5.1 46 := cache.go:51 move
    refine WL.v (by first | exact r_move (v := .int _ _) rfl | exact r_move rfl) rfl rfl rfl ?_
    -- R5.2 47 := cache.go:51 move
    refine WL.v (by first | exact r_move (v := .int _ _) rfl | exact r_move rfl) rfl rfl rfl ?_
    -- R5.3 48 := cache.go:51 nilCheck
    refine WL.v (by exact r_nilCheck rfl) rfl rfl rfl ?_
    -- R5.4 49 := cache.go:51 fieldAddr
    refine WL.v (by exact r_field ty_fld132_0 rfl) rfl rfl rfl ?_
    -- R5.5 50 := cache.go:51 indexAddr
    refine WL.v (by exact r_indexA (j := k) ty_ar129 rfl rfl rfl hk2) rfl rfl rfl ?_
    -- R5.6 None := cache.go:51 store
    obtain ⟨R1, st, hback1⟩ := front_slab (i := t / 32) (b := b) (by exact hnS) (by exact hb) st
    refine WL.store (v := .int .i64 (s : Nat)) st ty_one2 rfl rfl rfl (by omega) rfl rfl ?_
    intro w st
    have st := hback1 (fun x => if x = t then (s : Int) else D.ss x) D.sd _ w (fun i hi => by
        rw [upd_eq, show 0 + 0 + k * 1 = k by omega]
        unfold slR
        dsimp only
        by_cases hik : i = k
        · rw [if_pos hik, if_pos (by omega), if_pos (by omega)]
        · rw [if_neg hik]
          split
          · rw [if_neg (by omega)]
          · rfl) (fun j hj => ⟨by rw [if_neg (by intro h; exact hj (by rw [h]))], rfl⟩) st
    refine WL.fin hK37 (fun _ _ h => h) ?_
    refine WC.seq fun K38 hK38 => ?_
    -- region 6
    refine WC.region ?_
    -- R6.0 51 := cache.go:52 move
    refine WL.v (by first | exact r_move (v := .pointer _) rfl | exact r_move rfl) rfl rfl rfl ?_
    -- R6.1 52 := cache.go:52 nilCheck
    refine WL.v (by exact r_nilCheck rfl) rfl rfl rfl ?_
    -- R6.2 53 := cache.go:52 fieldAddr
    refine WL.v (by exact r_field ty_fld132_1 rfl) rfl rfl rfl ?_
    -- R6.3 54 := cache.go:52 move
    refine WL.v (by first | exact r_move (v := .int _ _) rfl | exact r_move rfl) rfl rfl rfl ?_
    -- R6.4 55 := cache.go:52 binOp
    refine WL.v (by exact r_mul (r := ((k * 512 : Nat) : Int)) rfl rfl ((wi64 (by omega) (by omega)).trans (by omega))) rfl rfl rfl ?_
    -- R6.5 56 := cache.go:52 move
    refine WL.v (by first | exact r_move (v := .int _ _) rfl | exact r_move rfl) rfl rfl rfl ?_
    -- R6.6 57 := cache.go:52 binOp
    refine WL.v (by exact r_add (r := ((k + 1 : Nat) : Int)) rfl rfl ((wi64 (by omega) (by omega)).trans (by omega))) rfl rfl rfl ?_
    -- R6.7 58 := cache.go:52 binOp
    refine WL.v (by exact r_mul (r := (((k + 1) * 512 : Nat) : Int)) rfl rfl ((wi64 (by omega) (by omega)).trans (by omega))) rfl rfl rfl ?_
    -- R6.8 59 := cache.go:52 slice
    refine WL.v (by exact r_slAB (l := k * 512) (h := (k + 1) * 512) ty_ar130 rfl rfl rfl (by omega) (by omega) (by omega)) rfl rfl rfl ?_
    -- R6.9 60 := cache.go:52 move
    refine WL.v (by first | exact r_move (v := .slice _ _ _) rfl | exact r_move rfl) rfl rfl rfl ?_
    -- R6.10 61 := cache.go:52 call
    obtain ⟨R2, st, hback2⟩ := front_slab (i := t / 32) (b := b) (by exact hnS) (by exact hb) st
    refine WL.copyM (m := 512) (m1 := 512) (o := 32 + k * 512) (bx := bx) (ox := ox) (news := fun j => .int .u8 (f j)) st ty_sl29 (by show Value.slice (some ⟨b, 0 + 32 + k * 512 * 1, none⟩) ((k + 1) * 512 - k * 512) _ = _; rw [show 0 + 32 + k * 512 * 1 = 32 + k * 512 by omega, show (k + 1) * 512 - k * 512 = 512 by omega]) rfl (Nat.le_refl _) (by omega) (hsrc _ _ st) (fun _ _ => rfl) rfl rfl rfl ?_
    intro w st
    have st := hback2 (fun x => if x = t then (s : Int) else D.ss x) (fun x j => if x = t ∧ j < 512 then f j else D.sd x j) _ w (fun i hi => by
        rw [upds_eq]
        unfold slR
        dsimp only
        by_cases hik : 32 + k * 512 ≤ i ∧ i < 32 + k * 512 + 512
        · rw [if_pos hik, if_neg (by omega), if_pos (by omega), show (i - 32) % 512 = i - (32 + k * 512) by omega]
        · rw [if_neg hik]
          by_cases h32 : i < 32
          · rw [if_pos h32, if_pos h32]
          · rw [if_neg h32, if_neg h32, if_neg (by omega)]) (fun j hj => ⟨rfl, by funext z; rw [if_neg (by intro h; exact hj (by rw [h.1]))]⟩) st
    refine WL.fin hK38 (fun _ _ h => h) ?_
    refine WC.seq fun K39 hK39 => ?_
    -- region 7 (draws)
    refine WC.tailS 9 st ty_mixed (by kernel_rfl) fun w st Kq hKq => ?_
    -- R7.0 62 := cache.go:53 move
    refine SL.v (by first | exact r_move (v := .pointer _) rfl | exact r_move rfl) rfl rfl rfl ?_
    -- R7.1 63 := cache.go:53 nilCheck
    refine SL.v (by exact r_nilCheck rfl) rfl rfl rfl ?_
    -- R7.2 64 := cache.go:53 fieldAddr
    refine SL.v (by exact r_field ty_fld95_4 rfl) rfl rfl rfl ?_
    -- R7.3 65 := cache.go:53 load
    refine SL.v (by exact r_load1 ty_one93 rfl (by first | assumption | exact st.c0 (by first | decide | omega) | exact st.c1 (by first | decide | omega) | exact st.c2 (by first | decide | omega) | exact st.c3 (by first | decide | omega) | exact st.c4 (by first | decide | omega) | exact st.c5 (by first | decide | omega) | exact st.c6 (by first | decide | omega) | exact st.c7 (by first | decide | omega) | exact st.c8 (by first | decide | omega))) rfl rfl rfl ?_
    -- R7.4 66 := cache.go:53 move
    refine SL.v (by first | exact r_move (v := .int _ _) rfl | exact r_move rfl) rfl rfl rfl ?_
    -- R7.5 67 := cache.go:53 move
    refine SL.v (by first | exact r_move (v := .pointer _) rfl | exact r_move rfl) rfl rfl rfl ?_
    -- R7.6 68 := cache.go:53 nilCheck
    refine SL.v (by exact r_nilCheck rfl) rfl rfl rfl ?_
    -- R7.7 69 := cache.go:53 fieldAddr
    refine SL.v (by exact r_field ty_fld95_2 rfl) rfl rfl rfl ?_
    -- R7.8 70 := cache.go:53 load
    refine SL.v (by exact r_load1 ty_one2 rfl (by first | assumption | exact st.c0 (by first | decide | omega) | exact st.c1 (by first | decide | omega) | exact st.c2 (by first | decide | omega) | exact st.c3 (by first | decide | omega) | exact st.c4 (by first | decide | omega) | exact st.c5 (by first | decide | omega) | exact st.c6 (by first | decide | omega) | exact st.c7 (by first | decide | omega) | exact st.c8 (by first | decide | omega))) rfl rfl rfl ?_
    refine SL.fin hKq ?_
    -- R7.9 None := cache.go:53 mapUpdate
    refine WL.mapSetI (s := ((s : Nat) : Int)) (val := .int .i64 (D.tl : Nat)) ty_kb2 st.front3 ty_mp93 rfl rfl rfl (good64 (by omega) (by omega)) rfl rfl ?_
    intro w st
    rw [setN_nV] at st
    have st := st.back3
    refine WL.fin hK39 (fun _ _ h => h) ?_
    -- region 8
    refine WC.region ?_
    -- R8.0 71 := cache.go:54 move
    refine WL.v (by first | exact r_move (v := .pointer _) rfl | exact r_move rfl) rfl rfl rfl ?_
    -- R8.1 72 := cache.go:54 nilCheck
    refine WL.v (by exact r_nilCheck rfl) rfl rfl rfl ?_
    -- R8.2 73 := cache.go:54 fieldAddr
    refine WL.v (by exact r_field ty_fld95_2 rfl) rfl rfl rfl ?_
    -- R8.3 74 := cache.go:54 load
    refine WL.v (by exact r_load1 ty_one2 rfl (by first | assumption | exact st.c0 (by first | decide | omega) | exact st.c1 (by first | decide | omega) | exact st.c2 (by first | decide | omega) | exact st.c3 (by first | decide | omega) | exact st.c4 (by first | decide | omega) | exact st.c5 (by first | decide | omega) | exact st.c6 (by first | decide | omega) | exact st.c7 (by first | decide | omega) | exact st.c8 (by first | decide | omega))) rfl rfl rfl ?_
    -- R8.4 75 := cache.go:54 binOp
    refine WL.v (by exact r_add (a := ((D.tl : Nat) : Int)) (r := ((D.tl + 1 : Nat) : Int)) rfl rfl ((wi64 (by omega) (by omega)).trans (by omega))) rfl rfl rfl ?_
    -- R8.5 76 := cache.go:54 nilCheck
    refine WL.v (by exact r_nilCheck rfl) rfl rfl rfl ?_
    -- R8.6 77 := cache.go:54 fieldAddr
    refine WL.v (by exact r_field ty_fld95_2 rfl) rfl rfl rfl ?_
    -- R8.7 None := cache.go:54 store
    first | refine WL.store (v := .int _ _) st ty_one2 rfl rfl rfl (by first | decide | omega) rfl rfl ?_ | refine WL.store (v := _) st ty_one2 rfl rfl rfl (by first | decide | omega) rfl rfl ?_ | refine WL.store (v := .int _ _) st.front1 ty_one2 rfl rfl rfl (by first | decide | omega) rfl rfl ?_ | refine WL.store (v := _) st.front1 ty_one2 rfl rfl rfl (by first | decide | omega) rfl rfl ?_ | refine WL.store (v := .int _ _) st.front2 ty_one2 rfl rfl rfl (by first | decide | omega) rfl rfl ?_ | refine WL.store (v := _) st.front2 ty_one2 rfl rfl rfl (by first | decide | omega) rfl rfl ?_ | refine WL.store (v := .int _ _) st.front3 ty_one2 rfl rfl rfl (by first | decide | omega) rfl rfl ?_ | refine WL.store (v := _) st.front3 ty_one2 rfl rfl rfl (by first | decide | omega) rfl rfl ?_ | refine WL.store (v := .int _ _) st.front4 ty_one2 rfl rfl rfl (by first | decide | omega) rfl rfl ?_ | refine WL.store (v := _) st.front4 ty_one2 rfl rfl rfl (by first | decide | omega) rfl rfl ?_ | refine WL.store (v := .int _ _) st.front5 ty_one2 rfl rfl rfl (by first | decide | omega) rfl rfl ?_ | refine WL.store (v := _) st.front5 ty_one2 rfl rfl rfl (by first | decide | omega) rfl rfl ?_ | refine WL.store (v := .int _ _) st.front6 ty_one2 rfl rfl rfl (by first | decide | omega) rfl rfl ?_ | refine WL.store (v := _) st.front6 ty_one2 rfl rfl rfl (by first | decide | omega) rfl rfl ?_ | refine WL.store (v := .int _ _) st.front7 ty_one2 rfl rfl rfl (by first | decide | omega) rfl rfl ?_ | refine WL.store (v := _) st.front7 ty_one2 rfl rfl rfl (by first | decide | omega) rfl rfl ?_ | refine WL.store (v := .int _ _) st.front8 ty_one2 rfl rfl rfl (by first | decide | omega) rfl rfl ?_ | refine WL.store (v := _) st.front8 ty_one2 rfl rfl rfl (by first | decide | omega) rfl rfl ?_
    intro w st
    refine WL.end0 Tryd.results58 (fun _ _ h => h) ?_
    have st := st_nrm (L' := dC m (pushD D D.sb s f)) rfl st
    refine ⟨_, rfl, D.sb, fun x hx => ?_, fun i h => h, by rw [← ht, hb]; simp, ?_⟩
    · have hx : D.sb (x / 32) = none := hx
      have hxt : x ≠ t := fun h => by rw [h, hb] at hx; cases hx
      have := hz x hx
      simp only [pushD]
      rw [← ht, if_neg hxt]
      exact ⟨this.1, fun j => by rw [if_neg (by intro h; exact hxt h.1)]; exact this.2 j⟩
    · subst ht; exact st
  | none =>
    refine enter [.pointer (some ⟨D.bD, 4, none⟩), .int .i64 (s : Nat), .slice (some ⟨bx, ox, none⟩) 512 cc] Tryd.func58 rfl Tryd.ntmps58 rfl ?_
    show WC _ _ _ 78 [] [(0, .pointer (some ⟨D.bD, 4, none⟩)), (1, .int .i64 (s : Nat)), (2, .slice (some ⟨bx, ox, none⟩) 512 cc)] _
    refine WC.seq fun K40 hK40 => ?_
    -- region 0 (draws)
    refine WC.quietS st ty_mixed (by kernel_rfl) fun Kq hKq => ?_
    -- R0.0 9 := cache.go:45 move
    refine QL.v (fun w st => by first | exact r_move (v := .pointer _) rfl | exact r_move rfl) rfl rfl rfl ?_
    -- R0.1 10 := cache.go:45 nilCheck
    refine QL.v (fun w st => by exact r_nilCheck rfl) rfl rfl rfl ?_
    -- R0.2 11 := cache.go:45 fieldAddr
    refine QL.v (fun w st => by exact r_field ty_fld95_2 rfl) rfl rfl rfl ?_
    -- R0.3 12 := cache.go:45 load
    refine QL.v (fun w st => by exact r_load1 ty_one2 rfl (by first | assumption | exact st.c0 (by first | decide | omega) | exact st.c1 (by first | decide | omega) | exact st.c2 (by first | decide | omega) | exact st.c3 (by first | decide | omega) | exact st.c4 (by first | decide | omega) | exact st.c5 (by first | decide | omega) | exact st.c6 (by first | decide | omega) | exact st.c7 (by first | decide | omega) | exact st.c8 (by first | decide | omega))) rfl rfl rfl ?_
    -- R0.4 13 := cache.go:45 move
    refine QL.v (fun w st => by first | exact r_move (v := .pointer _) rfl | exact r_move rfl) rfl rfl rfl ?_
    -- R0.5 14 := cache.go:45 nilCheck
    refine QL.v (fun w st => by exact r_nilCheck rfl) rfl rfl rfl ?_
    -- R0.6 15 := cache.go:45 fieldAddr
    refine QL.v (fun w st => by exact r_field ty_fld95_0 rfl) rfl rfl rfl ?_
    -- R0.7 16 := cache.go:45 load
    refine QL.v (fun w st => by exact r_load1 ty_one2 rfl (by first | assumption | exact st.c0 (by first | decide | omega) | exact st.c1 (by first | decide | omega) | exact st.c2 (by first | decide | omega) | exact st.c3 (by first | decide | omega) | exact st.c4 (by first | decide | omega) | exact st.c5 (by first | decide | omega) | exact st.c6 (by first | decide | omega) | exact st.c7 (by first | decide | omega) | exact st.c8 (by first | decide | omega))) rfl rfl rfl ?_
    -- R0.8 17 := cache.go:45 binOp
    refine QL.v (fun w st => by exact r_rem (r := (t : Int)) rfl rfl (by omega) (by rw [ht]; exact rfl)) rfl rfl rfl ?_
    -- R0.9 6 := cache.go:45 assign
    refine QL.v (fun w st => by first | exact r_assign (v := .int _ _) rfl | exact r_assign rfl) rfl rfl rfl ?_
    refine QL.wl hKq fun w st => ?_
    refine WL.fin hK40 (fun _ _ h => h) ?_
    refine WC.seq fun K41 hK41 => ?_
    refine WC.seq fun K42 hK42 => ?_
    -- region 1
    refine WC.region ?_
    -- R1.0 18 := cache.go:46 move
    refine WL.v (by first | exact r_move (v := .pointer _) rfl | exact r_move rfl) rfl rfl rfl ?_
    -- R1.1 19 := cache.go:46 nilCheck
    refine WL.v (by exact r_nilCheck rfl) rfl rfl rfl ?_
    -- R1.2 20 := cache.go:46 fieldAddr
    refine WL.v (by exact r_field ty_fld95_3 rfl) rfl rfl rfl ?_
    -- R1.3 21 := cache.go:46 load
    refine WL.v (by exact r_load1 ty_one92 rfl (by first | assumption | exact st.c0 (by first | decide | omega) | exact st.c1 (by first | decide | omega) | exact st.c2 (by first | decide | omega) | exact st.c3 (by first | decide | omega) | exact st.c4 (by first | decide | omega) | exact st.c5 (by first | decide | omega) | exact st.c6 (by first | decide | omega) | exact st.c7 (by first | decide | omega) | exact st.c8 (by first | decide | omega))) rfl rfl rfl ?_
    -- R1.4 22 := cache.go:46 move
    refine WL.v (by first | exact r_move (v := .int _ _) rfl | exact r_move rfl) rfl rfl rfl ?_
    -- R1.5 23 := cache.go:46 binOp
    refine WL.v (by exact r_quo (r := ((t / 32 : Nat) : Int)) rfl rfl (by omega) (by rw [show ((t : Nat) : Int).tdiv 32 = ((t / 32 : Nat) : Int) from rfl]; exact wi64 (by omega) (by omega))) rfl rfl rfl ?_
    -- R1.6 24 := cache.go:46 indexAddr
    refine WL.v (by exact r_indexS (j := t / 32) ty_sl92 rfl rfl rfl hnS) rfl rfl rfl ?_
    -- R1.7 25 := cache.go:46 load
    refine WL.v (v := .pointer none) (by exact r_load1 ty_one128 rfl (by rw [ld_slab st hnS, slF_none hb])) rfl rfl rfl ?_
    -- R1.8 26 := cache.go:46 binOp
    refine WL.v (by first | exact r_peqT ty_uptr128 rfl rfl | exact r_peqF ty_uptr128 rfl rfl) rfl rfl rfl ?_
    refine WL.fin hK42 (fun _ _ h => h) ?_
    refine WC.condT rfl rfl ?_
    -- region 2
    refine WC.region ?_
    -- R2.0 27 := cache.go:47 move
    refine WL.v (by first | exact r_move (v := .pointer _) rfl | exact r_move rfl) rfl rfl rfl ?_
    -- R2.1 28 := cache.go:47 nilCheck
    refine WL.v (by exact r_nilCheck rfl) rfl rfl rfl ?_
    -- R2.2 29 := cache.go:47 fieldAddr
    refine WL.v (by exact r_field ty_fld95_3 rfl) rfl rfl rfl ?_
    -- R2.3 30 := cache.go:47 load
    refine WL.v (by exact r_load1 ty_one92 rfl (by first | assumption | exact st.c0 (by first | decide | omega) | exact st.c1 (by first | decide | omega) | exact st.c2 (by first | decide | omega) | exact st.c3 (by first | decide | omega) | exact st.c4 (by first | decide | omega) | exact st.c5 (by first | decide | omega) | exact st.c6 (by first | decide | omega) | exact st.c7 (by first | decide | omega) | exact st.c8 (by first | decide | omega))) rfl rfl rfl ?_
    -- R2.4 31 := cache.go:47 move
    refine WL.v (by first | exact r_move (v := .int _ _) rfl | exact r_move rfl) rfl rfl rfl ?_
    -- R2.5 32 := cache.go:47 binOp
    refine WL.v (by exact r_quo (r := ((t / 32 : Nat) : Int)) rfl rfl (by omega) (by rw [show ((t : Nat) : Int).tdiv 32 = ((t / 32 : Nat) : Int) from rfl]; exact wi64 (by omega) (by omega))) rfl rfl rfl ?_
    -- R2.6 33 := cache.go:47 alloc
    refine WL.alloc (m := 16416) st ty_zero132 (by rw [List.length_append, List.length_replicate, List.length_replicate]) rfl rfl ?_
    intro b33 w st
    -- R2.7 34 := cache.go:47 indexAddr
    refine WL.v (by exact r_indexS (j := t / 32) ty_sl92 rfl rfl rfl hnS) rfl rfl rfl ?_
    -- R2.8 None := cache.go:47 store
    refine WL.store (v := .pointer (some ⟨b33, 0, none⟩)) st.front3 ty_one128 rfl rfl rfl (by omega) rfl rfl ?_
    intro w st
    have st := add_slab hnS hb hz st
    have hb1 : (withS D (t / 32) b33).sb (t / 32) = some b33 := by simp [withS]
    refine WL.fin hK41 (fun _ _ h => h) ?_
    refine WC.seq fun K43 hK43 => ?_
    -- region 3
    refine WC.region ?_
    -- R3.0 35 := cache.go:49 move
    refine WL.v (by first | exact r_move (v := .pointer _) rfl | exact r_move rfl) rfl rfl rfl ?_
    -- R3.1 36 := cache.go:49 nilCheck
    refine WL.v (by exact r_nilCheck rfl) rfl rfl rfl ?_
    -- R3.2 37 := cache.go:49 fieldAddr
    refine WL.v (by exact r_field ty_fld95_3 rfl) rfl rfl rfl ?_
    -- R3.3 38 := cache.go:49 load
    refine WL.v (by exact r_load1 ty_one92 rfl (by first | assumption | exact st.c0 (by first | decide | omega) | exact st.c1 (by first | decide | omega) | exact st.c2 (by first | decide | omega) | exact st.c3 (by first | decide | omega) | exact st.c4 (by first | decide | omega) | exact st.c5 (by first | decide | omega) | exact st.c6 (by first | decide | omega) | exact st.c7 (by first | decide | omega) | exact st.c8 (by first | decide | omega))) rfl rfl rfl ?_
    -- R3.4 39 := cache.go:49 move
    refine WL.v (by first | exact r_move (v := .int _ _) rfl | exact r_move rfl) rfl rfl rfl ?_
    -- R3.5 40 := cache.go:49 binOp
    refine WL.v (by exact r_quo (r := ((t / 32 : Nat) : Int)) rfl rfl (by omega) (by rw [show ((t : Nat) : Int).tdiv 32 = ((t / 32 : Nat) : Int) from rfl]; exact wi64 (by omega) (by omega))) rfl rfl rfl ?_
    -- R3.6 41 := cache.go:49 indexAddr
    refine WL.v (by exact r_indexS (j := t / 32) ty_sl92 rfl rfl rfl hnS) rfl rfl rfl ?_
    -- R3.7 42 := cache.go:49 load
    refine WL.v (v := .pointer (some ⟨b33, 0, none⟩)) (by exact r_load1 ty_one128 rfl (by rw [ld_slab st hnS, slF_some hb1])) rfl rfl rfl ?_
    -- R3.8 7 := cache.go:49 assign
    refine WL.v (by first | exact r_assign (v := .pointer _) rfl | exact r_assign rfl) rfl rfl rfl ?_
    refine WL.fin hK43 (fun _ _ h => h) ?_
    refine WC.seq fun K44 hK44 => ?_
    -- region 4
    refine WC.region ?_
    -- R4.0 43 := cache.go:50 move
    refine WL.v (by first | exact r_move (v := .int _ _) rfl | exact r_move rfl) rfl rfl rfl ?_
    -- R4.1 44 := cache.go:50 binOp
    refine WL.v (by exact r_rem (r := (k : Int)) rfl rfl (by omega) (by rw [hk]; exact rfl)) rfl rfl rfl ?_
    -- R4.2 8 := cache.go:50 assign
    refine WL.v (by first | exact r_assign (v := .int _ _) rfl | exact r_assign rfl) rfl rfl rfl ?_
    refine WL.fin hK44 (fun _ _ h => h) ?_
    refine WC.seq fun K45 hK45 => ?_
    -- region 5
    refine WC.region ?_
    -- R5.0 45 := cache.go:51 move
    refine WL.v (by first | exact r_move (v := .pointer _) rfl | exact r_move rfl) rfl rfl rfl ?_
    -- R5.1 46 := cache.go:51 move
    refine WL.v (by first | exact r_move (v := .int _ _) rfl | exact r_move rfl) rfl rfl rfl ?_
    -- R5.2 47 := cache.go:51 move
    refine WL.v (by first | exact r_move (v := .int _ _) rfl | exact r_move rfl) rfl rfl rfl ?_
    -- R5.3 48 := cache.go:51 nilCheck
    refine WL.v (by exact r_nilCheck rfl) rfl rfl rfl ?_
    -- R5.4 49 := cache.go:51 fieldAddr
    refine WL.v (by exact r_field ty_fld132_0 rfl) rfl rfl rfl ?_
    -- R5.5 50 := cache.go:51 indexAddr
    refine WL.v (by exact r_indexA (j := k) ty_ar129 rfl rfl rfl hk2) rfl rfl rfl ?_
    -- R5.6 None := cache.go:51 store
    obtain ⟨R1, st, hback1⟩ := front_slab (i := t / 32) (b := b33) (by exact hnS) (by exact hb1) st
    refine WL.store (v := .int .i64 (s : Nat)) st ty_one2 rfl rfl rfl (by omega) rfl rfl ?_
    intro w st
    have st := hback1 (fun x => if x = t then (s : Int) else (withS D (t / 32) b33).ss x) (withS D (t / 32) b33).sd _ w (fun i hi => by
        rw [upd_eq, show 0 + 0 + k * 1 = k by omega]
        unfold slR
        dsimp only
        by_cases hik : i = k
        · rw [if_pos hik, if_pos (by omega), if_pos (by omega)]
        · rw [if_neg hik]
          split
          · rw [if_neg (by omega)]
          · rfl) (fun j hj => ⟨by rw [if_neg (by intro h; exact hj (by rw [h]))], rfl⟩) st
    refine WL.fin hK45 (fun _ _ h => h) ?_
    refine WC.seq fun K46 hK46 => ?_
    -- region 6
    refine WC.region ?_
    -- R6.0 51 := cache.go:52 move
    refine WL.v (by first | exact r_move (v := .pointer _) rfl | exact r_move rfl) rfl rfl rfl ?_
    -- R6.1 52 := cache.go:52 nilCheck
    refine WL.v (by exact r_nilCheck rfl) rfl rfl rfl ?_
    -- R6.2 53 := cache.go:52 fieldAddr
    refine WL.v (by exact r_field ty_fld132_1 rfl) rfl rfl rfl ?_
    -- R6.3 54 := cache.go:52 move
    refine WL.v (by first | exact r_move (v := .int _ _) rfl | exact r_move rfl) rfl rfl rfl ?_
    -- R6.4 55 := cache.go:52 binOp
    refine WL.v (by exact r_mul (r := ((k * 512 : Nat) : Int)) rfl rfl ((wi64 (by omega) (by omega)).trans (by omega))) rfl rfl rfl ?_
    -- R6.5 56 := cache.go:52 move
    refine WL.v (by first | exact r_move (v := .int _ _) rfl | exact r_move rfl) rfl rfl rfl ?_
    -- R6.6 57 := cache.go:52 binOp
    refine WL.v (by exact r_add (r := ((k + 1 : Nat) : Int)) rfl rfl ((wi64 (by omega) (by omega)).trans (by omega))) rfl rfl rfl ?_
    -- R6.7 58 := cache.go:52 binOp
    refine WL.v (by exact r_mul (r := (((k + 1) * 512 : Nat) : Int)) rfl rfl ((wi64 (by omega) (by omega)).trans (by omega))) rfl rfl rfl ?_
    -- R6.8 59 := cache.go:52 slice
    refine WL.v (by exact r_slAB (l := k * 512) (h := (k + 1) * 512) ty_ar130 rfl rfl rfl (by omega) (by omega) (by omega)) rfl rfl rfl ?_
    -- R6.9 60 := cache.go:52 move
    refine WL.v (by first | exact r_move (v := .slice _ _ _) rfl | exact r_move rfl) rfl rfl rfl ?_
    -- R6.10 61 := cache.go:52 call
    obtain ⟨R2, st, hback2⟩ := front_slab (i := t / 32) (b := b33) (by exact hnS) (by exact hb1) st
    refine WL.copyM (m := 512) (m1 := 512) (o := 32 + k * 512) (bx := bx) (ox := ox) (news := fun j => .int .u8 (f j)) st ty_sl29 (by show Value.slice (some ⟨b33, 0 + 32 + k * 512 * 1, none⟩) ((k + 1) * 512 - k * 512) _ = _; rw [show 0 + 32 + k * 512 * 1 = 32 + k * 512 by omega, show (k + 1) * 512 - k * 512 = 512 by omega]) rfl (Nat.le_refl _) (by omega) (hsrc _ _ st) (fun _ _ => rfl) rfl rfl rfl ?_
    intro w st
    have st := hback2 (fun x => if x = t then (s : Int) else (withS D (t / 32) b33).ss x) (fun x j => if x = t ∧ j < 512 then f j else (withS D (t / 32) b33).sd x j) _ w (fun i hi => by
        rw [upds_eq]
        unfold slR
        dsimp only
        by_cases hik : 32 + k * 512 ≤ i ∧ i < 32 + k * 512 + 512
        · rw [if_pos hik, if_neg (by omega), if_pos (by omega), show (i - 32) % 512 = i - (32 + k * 512) by omega]
        · rw [if_neg hik]
          by_cases h32 : i < 32
          · rw [if_pos h32, if_pos h32]
          · rw [if_neg h32, if_neg h32, if_neg (by omega)]) (fun j hj => ⟨rfl, by funext z; rw [if_neg (by intro h; exact hj (by rw [h.1]))]⟩) st
    refine WL.fin hK46 (fun _ _ h => h) ?_
    refine WC.seq fun K47 hK47 => ?_
    -- region 7 (draws)
    refine WC.tailS 9 st ty_mixed (by kernel_rfl) fun w st Kq hKq => ?_
    -- R7.0 62 := cache.go:53 move
    refine SL.v (by first | exact r_move (v := .pointer _) rfl | exact r_move rfl) rfl rfl rfl ?_
    -- R7.1 63 := cache.go:53 nilCheck
    refine SL.v (by exact r_nilCheck rfl) rfl rfl rfl ?_
    -- R7.2 64 := cache.go:53 fieldAddr
    refine SL.v (by exact r_field ty_fld95_4 rfl) rfl rfl rfl ?_
    -- R7.3 65 := cache.go:53 load
    refine SL.v (by exact r_load1 ty_one93 rfl (by first | assumption | exact st.c0 (by first | decide | omega) | exact st.c1 (by first | decide | omega) | exact st.c2 (by first | decide | omega) | exact st.c3 (by first | decide | omega) | exact st.c4 (by first | decide | omega) | exact st.c5 (by first | decide | omega) | exact st.c6 (by first | decide | omega) | exact st.c7 (by first | decide | omega) | exact st.c8 (by first | decide | omega))) rfl rfl rfl ?_
    -- R7.4 66 := cache.go:53 move
    refine SL.v (by first | exact r_move (v := .int _ _) rfl | exact r_move rfl) rfl rfl rfl ?_
    -- R7.5 67 := cache.go:53 move
    refine SL.v (by first | exact r_move (v := .pointer _) rfl | exact r_move rfl) rfl rfl rfl ?_
    -- R7.6 68 := cache.go:53 nilCheck
    refine SL.v (by exact r_nilCheck rfl) rfl rfl rfl ?_
    -- R7.7 69 := cache.go:53 fieldAddr
    refine SL.v (by exact r_field ty_fld95_2 rfl) rfl rfl rfl ?_
    -- R7.8 70 := cache.go:53 load
    refine SL.v (by exact r_load1 ty_one2 rfl (by first | assumption | exact st.c0 (by first | decide | omega) | exact st.c1 (by first | decide | omega) | exact st.c2 (by first | decide | omega) | exact st.c3 (by first | decide | omega) | exact st.c4 (by first | decide | omega) | exact st.c5 (by first | decide | omega) | exact st.c6 (by first | decide | omega) | exact st.c7 (by first | decide | omega) | exact st.c8 (by first | decide | omega))) rfl rfl rfl ?_
    refine SL.fin hKq ?_
    -- R7.9 None := cache.go:53 mapUpdate
    refine WL.mapSetI (s := ((s : Nat) : Int)) (val := .int .i64 (D.tl : Nat)) ty_kb2 st.front3 ty_mp93 rfl rfl rfl (good64 (by omega) (by omega)) rfl rfl ?_
    intro w st
    rw [setN_nV] at st
    have st := st.back3
    refine WL.fin hK47 (fun _ _ h => h) ?_
    -- region 8
    refine WC.region ?_
    -- R8.0 71 := cache.go:54 move
    refine WL.v (by first | exact r_move (v := .pointer _) rfl | exact r_move rfl) rfl rfl rfl ?_
    -- R8.1 72 := cache.go:54 nilCheck
    refine WL.v (by exact r_nilCheck rfl) rfl rfl rfl ?_
    -- R8.2 73 := cache.go:54 fieldAddr
    refine WL.v (by exact r_field ty_fld95_2 rfl) rfl rfl rfl ?_
    -- R8.3 74 := cache.go:54 load
    refine WL.v (by exact r_load1 ty_one2 rfl (by first | assumption | exact st.c0 (by first | decide | omega) | exact st.c1 (by first | decide | omega) | exact st.c2 (by first | decide | omega) | exact st.c3 (by first | decide | omega) | exact st.c4 (by first | decide | omega) | exact st.c5 (by first | decide | omega) | exact st.c6 (by first | decide | omega) | exact st.c7 (by first | decide | omega) | exact st.c8 (by first | decide | omega))) rfl rfl rfl ?_
    -- R8.4 75 := cache.go:54 binOp
    refine WL.v (by exact r_add (a := ((D.tl : Nat) : Int)) (r := ((D.tl + 1 : Nat) : Int)) rfl rfl ((wi64 (by omega) (by omega)).trans (by omega))) rfl rfl rfl ?_
    -- R8.5 76 := cache.go:54 nilCheck
    refine WL.v (by exact r_nilCheck rfl) rfl rfl rfl ?_
    -- R8.6 77 := cache.go:54 fieldAddr
    refine WL.v (by exact r_field ty_fld95_2 rfl) rfl rfl rfl ?_
    -- R8.7 None := cache.go:54 store
    first | refine WL.store (v := .int _ _) st ty_one2 rfl rfl rfl (by first | decide | omega) rfl rfl ?_ | refine WL.store (v := _) st ty_one2 rfl rfl rfl (by first | decide | omega) rfl rfl ?_ | refine WL.store (v := .int _ _) st.front1 ty_one2 rfl rfl rfl (by first | decide | omega) rfl rfl ?_ | refine WL.store (v := _) st.front1 ty_one2 rfl rfl rfl (by first | decide | omega) rfl rfl ?_ | refine WL.store (v := .int _ _) st.front2 ty_one2 rfl rfl rfl (by first | decide | omega) rfl rfl ?_ | refine WL.store (v := _) st.front2 ty_one2 rfl rfl rfl (by first | decide | omega) rfl rfl ?_ | refine WL.store (v := .int _ _) st.front3 ty_one2 rfl rfl rfl (by first | decide | omega) rfl rfl ?_ | refine WL.store (v := _) st.front3 ty_one2 rfl rfl rfl (by first | decide | omega) rfl rfl ?_ | refine WL.store (v := .int _ _) st.front4 ty_one2 rfl rfl rfl (by first | decide | omega) rfl rfl ?_ | refine WL.store (v := _) st.front4 ty_one2 rfl rfl rfl (by first | decide | omega) rfl rfl ?_ | refine WL.store (v := .int _ _) st.front5 ty_one2 rfl rfl rfl (by first | decide | omega) rfl rfl ?_ | refine WL.store (v := _) st.front5 ty_one2 rfl rfl rfl (by first | decide | omega) rfl rfl ?_ | refine WL.store (v := .int _ _) st.front6 ty_one2 rfl rfl rfl (by first | decide | omega) rfl rfl ?_ | refine WL.store (v := _) st.front6 ty_one2 rfl rfl rfl (by first | decide | omega) rfl rfl ?_ | refine WL.store (v := .int _ _) st.front7 ty_one2 rfl rfl rfl (by first | decide | omega) rfl rfl ?_ | refine WL.store (v := _) st.front7 ty_one2 rfl rfl rfl (by first | decide | omega) rfl rfl ?_ | refine WL.store (v := .int _ _) st.front8 ty_one2 rfl rfl rfl (by first | decide | omega) rfl rfl ?_ | refine WL.store (v := _) st.front8 ty_one2 rfl rfl rfl (by first | decide | omega) rfl rfl ?_
    intro w st
    refine WL.end0 Tryd.results58 (fun _ _ h => h) ?_
    have st := st_nrm (L' := dC m (pushD D (withS D (t / 32) b33).sb s f)) rfl st
    refine ⟨_, rfl, (withS D (t / 32) b33).sb, fun x hx => ?_, fun i h => ?_, by rw [← ht, hb1]; simp, ?_⟩
    · have hx : (if x / 32 = t / 32 then some b33 else D.sb (x / 32)) = none := hx
      by_cases hxq : x / 32 = t / 32
      · rw [if_pos hxq] at hx; cases hx
      rw [if_neg hxq] at hx
      have hxt : x ≠ t := fun h => hxq (by rw [h])
      have := hz x hx
      simp only [pushD]
      rw [← ht, if_neg hxt]
      exact ⟨this.1, fun j => by rw [if_neg (by intro h; exact hxt h.1)]; exact this.2 j⟩
    · simp only [withS]
      split
      · simp
      · exact h
    · subst ht; exact st
end Go.Proofs.Qxb6500837aDoor

