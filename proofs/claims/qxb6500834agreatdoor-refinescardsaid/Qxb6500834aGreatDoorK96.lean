import Derived.Test.Qxb6500834aGreatDoorK95
import Derived.Test.Qxb6500834aGreatDoorK42
set_option linter.unusedVariables false
set_option linter.unusedSimpArgs false
set_option maxRecDepth 20000
namespace Go.Proofs.Qxb6500834aGreatDoor
open Go.RowKit Go.E1 Go.Kern
theorem ty_fld42_4 : fldOff Tryz.prog 42 4 = some 4 := by kernel_rfl
variable {w0 : World} {l X : List HI} {w : World} {s s' s0 : KS} {t r N n : Nat} {qv qv' : Nat → Value}
variable {P : List PQ} {m : MR} {pv tv v : Value} {mb : Nat → Nat} {bm : Nat} {T : List (Nat × Nat × Nat)} {O : Nat → Nat → Option Nat} {held claim : Nat → Nat → Nat}

/-! The model's visible state. -/
def baT (T : TK) : TK := { tk0 with live := T.live, birth := T.birth, epoch := T.epoch, n := T.n }
def shT (s : KS) (L : List PQ) (t : Nat) : TK := if L.any (fun p => p.t == t) then { baT (s.tk t) with waiting := true, deadline := (s.tk t).deadline } else baT (s.tk t)
theorem sF_setC {tk : Nat → TK} {T : TK} {i j : Nat} {v : Value} (hi : i < 16) (hj : j < 6) (hv : tsF T j = v) (ho : ∀ a, a < 6 → a ≠ j → tsF T a = tsF (tk i) a) : ∀ k, k < 771 → upd (sF (bareS s tk) qv) (0 + 3 + i * 6 + j) v k = sF (bareS s (updN tk i T)) qv k := fun k hk => by
  rw [upd_eq]
  unfold sF bareS updN
  by_cases h1 : k < 3
  · rw [if_neg (by omega), if_pos h1, if_pos h1]
  by_cases h2 : k < 99
  · by_cases e : k = 0 + 3 + i * 6 + j
    · rw [if_pos e, if_neg h1, if_pos h2]
      dsimp only
      rw [if_pos (by omega), show (k - 3) % 6 = j by omega, hv]
    · rw [if_neg e, if_neg h1, if_pos h2, if_neg h1, if_pos h2]
      dsimp only
      by_cases d : (k - 3) / 6 = i
      · rw [if_pos d, d]
        exact (ho _ (Nat.mod_lt _ (by decide)) (by omega)).symm
      · rw [if_neg d]
  · rw [if_neg (by omega), if_neg h1, if_neg h2, if_neg h1, if_neg h2]
theorem sF_congrT {s1 s2 : KS} (h : ∀ t, t < 16 → ∀ j, tsF (s1.tk t) j = tsF (s2.tk t) j) (h1 : s1.mode = s2.mode) (h2 : s1.now = s2.now) (h3 : s1.births = s2.births) (h4 : s1.held = s2.held) (h5 : s1.claim = s2.claim) (h6 : s1.cells = s2.cells) : ∀ k, k < 771 → sF s1 qv k = sF s2 qv k := fun k hk => by
  unfold sF
  rw [h1, h2, h3, h4, h5, h6]
  by_cases a1 : k < 3
  · rw [if_pos a1, if_pos a1]
  · rw [if_neg a1, if_neg a1]
    by_cases a2 : k < 99
    · rw [if_pos a2, if_pos a2, h _ (by omega)]
    · rw [if_neg a2, if_neg a2]
theorem ts_w {T : TK} {x : Bool} : ∀ a, a < 6 → a ≠ 3 → tsF { T with waiting := x } a = tsF T a
  | 0, _, _ => rfl
  | 1, _, _ => rfl
  | 2, _, _ => rfl
  | 3, _, h => absurd rfl h
  | 4, _, _ => rfl
  | 5, _, _ => rfl
  | k + 6, h, _ => by omega
theorem ts_d {T : TK} {x : Nat} : ∀ a, a < 6 → a ≠ 4 → tsF { T with deadline := x } a = tsF T a
  | 0, _, _ => rfl
  | 1, _, _ => rfl
  | 2, _, _ => rfl
  | 3, _, _ => rfl
  | 4, _, h => absurd rfl h
  | 5, _, _ => rfl
  | k + 6, h, _ => by omega
theorem quP_snoc {L : List PQ} {p : PQ} : quP (L ++ [p]) r = if p.r = r then quP L r ++ [(p.t, p.u)] else quP L r := by
  unfold quP
  rw [List.filter_append]
  by_cases e : p.r = r
  · rw [if_pos e, List.filter_cons, if_pos (by simpa using e), List.map_append]; rfl
  · rw [if_neg e, List.filter_cons, if_neg (by simpa using e), List.filter_nil, List.append_nil]
theorem any_t {L : List PQ} : (L.any fun p => p.t == t) = true ↔ ∃ p, p ∈ L ∧ p.t = t := by
  rw [List.any_eq_true]
  exact ⟨fun ⟨p, h1, h2⟩ => ⟨p, h1, by simpa using h2⟩, fun ⟨p, h1, h2⟩ => ⟨p, h1, by simpa using h2⟩⟩
theorem shT_snoc {L : List PQ} {p : PQ} {T : TK} (hd : p.d = (s.tk p.t).deadline) (hT : T = { { shT s L p.t with waiting := true } with deadline := p.d }) : updN (shT s L) p.t T = shT s (L ++ [p]) := by
  funext a
  unfold updN
  by_cases e : a = p.t
  · subst e
    rw [if_pos rfl, hT, hd]
    have h1 : ((L ++ [p]).any fun q => q.t == p.t) = true := any_t.2 ⟨p, by simp, rfl⟩
    unfold shT
    rw [if_pos h1]
    split <;> rfl
  · rw [if_neg e]
    unfold shT
    rw [List.any_append]
    have : ([p].any fun q => q.t == a) = false := by simpa using fun k => e k.symm
    rw [this, Bool.or_false]
theorem shT_end (hI : INV s) (hrel : RelP s P) (hz : ∀ t, (s.tk t).waiting = false → (s.tk t).deadline = 0) : ∀ t, t < 16 → ∀ j, tsF (shT s P t) j = tsF (s.tk t) j := fun t ht j => by
  unfold shT
  cases hw : (s.tk t).waiting with
  | true =>
    obtain ⟨i, p, hip, hpt⟩ := hrel.busy hI ht hw
    rw [if_pos (any_t.2 ⟨p, List.mem_of_getElem? hip, hpt⟩)]
    unfold tsF
    rw [hw]; rfl
  | false =>
    have hf := hrel.free hI hw
    rw [if_neg (fun k => by obtain ⟨p, h1, h2⟩ := any_t.1 k; exact hf p h1 h2)]
    unfold tsF
    rw [hw, hz t hw]; rfl
set_option maxHeartbeats 8000000 in
theorem mState_ok {Y XP : List HI} (hlen : P.length ≤ 1000000) (hI : INV s) (hz : ∀ t, (s.tk t).waiting = false → (s.tk t).deadline = 0) (hrel : RelP s P) (hm : moI bm (mrOf s) pv tv mb ∈ Y) (hp : PL0 pv P XP) (hX : XP ⊆ Y) (st : S0 w0 Y w) :
    Calls Tryz.prog 43 #[.pointer (some ⟨bm, 0, none⟩)] w (Ret fun v w' => ∃ qv XS, (∀ r, r < 20 → QL0 (qv r) (s.queue r) (XS r)) ∧ v = .agg (mkA 771 (sF s qv)) ∧ S0 w0 (gather 20 XS ++ Y) w') := by
  obtain ⟨a, c, b, hpv, hc1, hc2, ha, hcell⟩ := hp.form
  refine enter [.pointer (some ⟨bm, 0, none⟩)] Tryz.func43 rfl Tryz.ntmps43 rfl ?_
  show WC _ _ _ 103 [] [(0, .pointer (some ⟨bm, 0, none⟩))] _
  refine WC.seq fun K3968 hK3968 => ?_
  -- region 0
  refine WC.region ?_
  -- R0.0 2 := model.go:415 alloc
  refine WL.allocN (m := 771) st zero50 rfl rfl ?_
  intro b2 w st
  refine WL.fin hK3968 (fun _ _ h => h) ?_
  refine WC.seq fun K3969 hK3969 => ?_
  -- region 1 (draws)
  refine WC.heldS [26] [0, 1, 2, 3, 4, 5, 6, 7, 8, 9, 10, 11, 12, 13, 14, 15, 16, 17, 18, 19, 20, 21, 22, 23, 24] [25, 26] st (st) ty_mixed (by kernel_rfl) fun w st Kq hKq => ?_
  -- R1.0 7 := model.go:416 move
  refine HL.v (fun w st => by first | exact r_move (v := .pointer _) rfl | exact r_move rfl) rfl rfl rfl ?_
  -- R1.1 8 := model.go:416 nilCheck
  refine HL.v (fun w st => by exact r_nilCheck rfl) rfl rfl rfl ?_
  -- R1.2 9 := model.go:416 fieldAddr
  refine HL.v (fun w st => by exact r_field ty_fld98_0 rfl) rfl rfl rfl ?_
  -- R1.3 10 := model.go:416 load
  refine HL.v (fun w st => by exact r_load1 (v := .int .i64 (s.mode : Nat)) ty_one40 rfl (c_m (m := mrOf s) (List.mem_cons_of_mem _ hm) (by decide) rfl st)) rfl rfl rfl ?_
  -- R1.4 11 := model.go:416 move
  refine HL.v (fun w st => by first | exact r_move (v := .pointer _) rfl | exact r_move rfl) rfl rfl rfl ?_
  -- R1.5 12 := model.go:416 nilCheck
  refine HL.v (fun w st => by exact r_nilCheck rfl) rfl rfl rfl ?_
  -- R1.6 13 := model.go:416 fieldAddr
  refine HL.v (fun w st => by exact r_field ty_fld98_1 rfl) rfl rfl rfl ?_
  -- R1.7 14 := model.go:416 load
  refine HL.v (fun w st => by exact r_load1 (v := .int .u64 (s.now : Nat)) ty_one26 rfl (c_m (m := mrOf s) (List.mem_cons_of_mem _ hm) (by decide) rfl st)) rfl rfl rfl ?_
  -- R1.8 15 := model.go:416 move
  refine HL.v (fun w st => by first | exact r_move (v := .pointer _) rfl | exact r_move rfl) rfl rfl rfl ?_
  -- R1.9 16 := model.go:416 nilCheck
  refine HL.v (fun w st => by exact r_nilCheck rfl) rfl rfl rfl ?_
  -- R1.10 17 := model.go:416 fieldAddr
  refine HL.v (fun w st => by exact r_field ty_fld98_2 rfl) rfl rfl rfl ?_
  -- R1.11 18 := model.go:416 load
  refine HL.v (fun w st => by exact r_load1 (v := .int .u64 (s.births : Nat)) ty_one26 rfl (c_m (m := mrOf s) (List.mem_cons_of_mem _ hm) (by decide) rfl st)) rfl rfl rfl ?_
  -- R1.12 19 := model.go:416 move
  refine HL.v (fun w st => by first | exact r_move (v := .pointer _) rfl | exact r_move rfl) rfl rfl rfl ?_
  -- R1.13 20 := model.go:416 nilCheck
  refine HL.v (fun w st => by exact r_nilCheck rfl) rfl rfl rfl ?_
  -- R1.14 21 := model.go:416 fieldAddr
  refine HL.v (fun w st => by exact r_field ty_fld98_7 rfl) rfl rfl rfl ?_
  -- R1.15 22 := model.go:416 load
  refine HL.v (fun w st => by exact r_loadN (f := hM s.held) ty_agg45 rfl (fun k hk => c_m (m := mrOf s) (List.mem_cons_of_mem _ hm) (by omega) (by rw [show 0 + 52 + k = 52 + k by omega]; exact mo_held hk) st)) rfl rfl rfl ?_
  -- R1.16 23 := model.go:416 move
  refine HL.v (fun w st => by first | exact r_move (v := .pointer _) rfl | exact r_move rfl) rfl rfl rfl ?_
  -- R1.17 24 := model.go:416 nilCheck
  refine HL.v (fun w st => by exact r_nilCheck rfl) rfl rfl rfl ?_
  -- R1.18 25 := model.go:416 fieldAddr
  refine HL.v (fun w st => by exact r_field ty_fld98_8 rfl) rfl rfl rfl ?_
  -- R1.19 26 := model.go:416 load
  refine HL.v (fun w st => by exact r_loadN (f := hM s.claim) ty_agg45 rfl (fun k hk => c_m (m := mrOf s) (List.mem_cons_of_mem _ hm) (by omega) (by rw [show 0 + 372 + k = 372 + k by omega]; exact mo_claim hk) st)) rfl rfl rfl ?_
  -- R1.20 27 := model.go:416 move
  refine HL.v (fun w st => by first | exact r_move (v := .pointer _) rfl | exact r_move rfl) rfl rfl rfl ?_
  -- R1.21 28 := model.go:416 nilCheck
  refine HL.v (fun w st => by exact r_nilCheck rfl) rfl rfl rfl ?_
  -- R1.22 29 := model.go:416 fieldAddr
  refine HL.v (fun w st => by exact r_field ty_fld98_10 rfl) rfl rfl rfl ?_
  -- R1.23 30 := model.go:416 load
  refine HL.v (fun w st => by exact r_loadN (f := uF s.cells) ty_agg48 rfl (fun k hk => c_m (m := mrOf s) (List.mem_cons_of_mem _ hm) (by omega) (by rw [show 0 + 693 + k = 693 + k by omega]; exact mo_cells hk) st)) rfl rfl rfl ?_
  -- R1.24 31 := model.go:416 build
  refine HL.v (fun w st => by exact r_buildN (n := 771) (z := sF ks0 nilQ) (v := upds (upds (upds (upds (upds (upds (sF ks0 nilQ) 0 1 fun _ => .int .i64 (s.mode : Nat)) 1 1 fun _ => .int .u64 (s.now : Nat)) 2 1 fun _ => .int .u64 (s.births : Nat)) 99 320 (hM s.held)) 419 320 (hM s.claim)) 759 12 (uF s.cells)) (ps := [(0, .int .i64 (s.mode : Nat)), (1, .int .u64 (s.now : Nat)), (2, .int .u64 (s.births : Nat)), (4, .agg (mkA 320 (hM s.held))), (5, .agg (mkA 320 (hM s.claim))), (7, .agg (mkA 12 (uF s.cells)))]) ty_pl50 zero50 rfl (fill_stepN (p := fun _ => .int .i64 (s.mode : Nat)) rfl rfl (by decide) (fill_stepN (p := fun _ => .int .u64 (s.now : Nat)) rfl rfl (by decide) (fill_stepN (p := fun _ => .int .u64 (s.births : Nat)) rfl rfl (by decide) (fill_stepN (p := hM s.held) rfl (by simp [Value.cells, mkA]) (by decide) (fill_stepN (p := hM s.claim) rfl (by simp [Value.cells, mkA]) (by decide) (fill_stepN (p := uF s.cells) rfl (by simp [Value.cells, mkA]) (by decide) fill_nil))))))) rfl rfl rfl ?_
  refine HL.fin hKq ?_
  refine TL.at ?_
  -- R1.25 3 := model.go:416 alloc
  refine WL.allocN (m := 771) st zero50 rfl rfl ?_
  intro b3 w st
  refine TL.nxt (by first | exact st | exact st.drop | exact st.drop1 | exact st.drop2 | exact st.drop3 | exact st.drop4 | exact st.drop.drop | exact st.drop.drop1 | exact st.drop.drop2 | exact st.drop.drop3 | exact st.drop.drop4 | exact st.drop.drop.drop | exact st.drop.drop.drop.drop | exact st_dropL st | exact st_dropL st.drop | exact st_none st) ?_
  refine TL.at ?_
  -- R1.26 None := model.go:416 store
  refine WL.storeN st ty_agg50 rfl rfl (fun k hk => by rw [sF_base (s := s) hk]; exact sF_one (fun _ _ => rfl) k hk) (by decide) rfl rfl ?_
  intro w st
  have st : S0 w0 (sI b3 (bareS s fun _ => tk0) nilQ :: sI b2 ks0 nilQ :: Y) w := stE (fun k hk => by rw [upds_eq, if_pos (by omega), Nat.sub_zero]; exact sF_base hk) st
  refine TL.nxt' rfl ?_
  refine TL.wl ?_
  refine WL.fin hK3969 (fun _ _ h => h) ?_
  refine WC.seq fun K3970 hK3970 => ?_
  refine WC.seq fun K3971 hK3971 => ?_
  -- region 2
  refine WC.region ?_
  -- R2.0 32 := model.go:417 move
  refine WL.v (by first | exact r_move (v := .int _ _) rfl | exact r_move rfl) rfl rfl rfl ?_
  refine WL.fin hK3971 (fun _ _ h => h) ?_
  refine WC.block ?_
  refine WC.loop (ι := Nat × (Nat → TK)) (fun y => [(0, .pointer (some ⟨bm, 0, none⟩)), (2, .pointer (some ⟨b2, 0, none⟩)), (3, .pointer (some ⟨b3, 0, none⟩)), (32, .int .i64 (y.1 : Nat))])
    (fun y w' => y.1 ≤ 16 ∧ (∀ i, i < y.1 → y.2 i = baT (s.tk i)) ∧ S0 w0 (sI b3 (bareS s y.2) nilQ :: sI b2 ks0 nilQ :: Y) w') (fun y => 16 - y.1) (0, fun _ => tk0) ⟨Nat.zero_le _, fun i hi => absurd hi (Nat.not_lt_zero _), st⟩ ?_ ?_
  · skip
    repeat (first | exact sub_nil _ | refine sub_cons rfl rfl ?_)
  clear st
  rintro ⟨i, F⟩ w ⟨hi, hF, st⟩ K1 hK1
  dsimp only at hi hF st ⊢
  by_cases h16 : i = 16
  rotate_left
  · have hi' : i < 16 := by omega
    have hmk := List.mem_cons_of_mem (sI b3 (bareS s F) nilQ) (List.mem_cons_of_mem (sI b2 ks0 nilQ) hm)
    refine WC.seq fun K3972 hK3972 => ?_
    -- region 3
    refine WC.region ?_
    -- R3.0 33 := model.go:417 binOp
    refine WL.v (by first | exact r_lss rfl rfl (decide_eq_true (by omega)) | exact r_lss rfl rfl (decide_eq_false (by omega)) | exact r_lss rfl rfl rfl) rfl rfl rfl ?_
    refine WL.fin hK3972 (fun _ _ h => h) ?_
    refine WC.seq fun K3973 hK3973 => ?_
    refine WC.condT rfl rfl ?_
    refine WC.skipF hK3973 (fun _ _ h => h) ?_
    refine WC.seq fun K3974 hK3974 => ?_
    refine WC.block ?_
    refine WC.seq fun K3975 hK3975 => ?_
    -- region 4
    refine WC.region ?_
    -- R4.0 34 := model.go:417 move
    refine WL.v (by first | exact r_move (v := .int _ _) rfl | exact r_move rfl) rfl rfl rfl ?_
    -- R4.1 4 := model.go:417 assign
    refine WL.v (by first | exact r_assign (v := .int _ _) rfl | exact r_assign rfl) rfl rfl rfl ?_
    refine WL.fin hK3975 (fun _ _ h => h) ?_
    -- region 5 (draws)
    refine WC.tailS 28 st ty_mixed (by kernel_rfl) fun w st Kq hKq => ?_
    -- R5.0 35 := model.go:418 move
    refine SL.v (by first | exact r_move (v := .int _ _) rfl | exact r_move rfl) rfl rfl rfl ?_
    -- R5.1 36 := model.go:418 move
    refine SL.v (by first | exact r_move (v := .pointer _) rfl | exact r_move rfl) rfl rfl rfl ?_
    -- R5.2 37 := model.go:418 move
    refine SL.v (by first | exact r_move (v := .int _ _) rfl | exact r_move rfl) rfl rfl rfl ?_
    -- R5.3 38 := model.go:418 nilCheck
    refine SL.v (by exact r_nilCheck rfl) rfl rfl rfl ?_
    -- R5.4 39 := model.go:418 fieldAddr
    refine SL.v (by exact r_field ty_fld98_4 rfl) rfl rfl rfl ?_
    -- R5.5 40 := model.go:418 indexAddr
    refine SL.v (by exact r_indexA (j := i) ty_ar86 rfl rfl rfl hi') rfl rfl rfl ?_
    -- R5.6 41 := model.go:418 load
    refine SL.v (by exact r_load1 (v := .bool (s.tk i).live) ty_one4 rfl (c_mlive (m := mrOf s) hmk hi' (by omega) st)) rfl rfl rfl ?_
    -- R5.7 42 := model.go:418 move
    refine SL.v (by first | exact r_move (v := .pointer _) rfl | exact r_move rfl) rfl rfl rfl ?_
    -- R5.8 43 := model.go:418 move
    refine SL.v (by first | exact r_move (v := .int _ _) rfl | exact r_move rfl) rfl rfl rfl ?_
    -- R5.9 44 := model.go:418 nilCheck
    refine SL.v (by exact r_nilCheck rfl) rfl rfl rfl ?_
    -- R5.10 45 := model.go:418 fieldAddr
    refine SL.v (by exact r_field ty_fld98_5 rfl) rfl rfl rfl ?_
    -- R5.11 46 := model.go:418 indexAddr
    refine SL.v (by exact r_indexA (j := i) ty_ar81 rfl rfl rfl hi') rfl rfl rfl ?_
    -- R5.12 47 := model.go:418 load
    refine SL.v (by exact r_load1 (v := .int .u64 ((s.tk i).birth : Nat)) ty_one26 rfl (c_mbirth (m := mrOf s) hmk hi' (by omega) st)) rfl rfl rfl ?_
    -- R5.13 48 := model.go:418 move
    refine SL.v (by first | exact r_move (v := .pointer _) rfl | exact r_move rfl) rfl rfl rfl ?_
    -- R5.14 49 := model.go:418 move
    refine SL.v (by first | exact r_move (v := .int _ _) rfl | exact r_move rfl) rfl rfl rfl ?_
    -- R5.15 50 := model.go:418 nilCheck
    refine SL.v (by exact r_nilCheck rfl) rfl rfl rfl ?_
    -- R5.16 51 := model.go:418 fieldAddr
    refine SL.v (by exact r_field ty_fld98_6 rfl) rfl rfl rfl ?_
    -- R5.17 52 := model.go:418 indexAddr
    refine SL.v (by exact r_indexA (j := i) ty_ar81 rfl rfl rfl hi') rfl rfl rfl ?_
    -- R5.18 53 := model.go:418 load
    refine SL.v (by exact r_load1 (v := .int .u64 ((s.tk i).epoch : Nat)) ty_one26 rfl (c_mepoch (m := mrOf s) hmk hi' (by omega) st)) rfl rfl rfl ?_
    -- R5.19 54 := model.go:418 move
    refine SL.v (by first | exact r_move (v := .pointer _) rfl | exact r_move rfl) rfl rfl rfl ?_
    -- R5.20 55 := model.go:418 move
    refine SL.v (by first | exact r_move (v := .int _ _) rfl | exact r_move rfl) rfl rfl rfl ?_
    -- R5.21 56 := model.go:418 nilCheck
    refine SL.v (by exact r_nilCheck rfl) rfl rfl rfl ?_
    -- R5.22 57 := model.go:418 fieldAddr
    refine SL.v (by exact r_field ty_fld98_12 rfl) rfl rfl rfl ?_
    -- R5.23 58 := model.go:418 indexAddr
    refine SL.v (by exact r_indexA (j := i) ty_ar76 rfl rfl rfl hi') rfl rfl rfl ?_
    -- R5.24 59 := model.go:418 load
    refine SL.v (by exact r_load1 (v := .int .i64 ((s.tk i).n : Nat)) ty_one3 rfl (c_mwr (m := mrOf s) hmk hi' (by omega) st)) rfl rfl rfl ?_
    -- R5.25 60 := model.go:418 build
    refine SL.v (by exact r_build (ps := [(0, .bool (s.tk i).live), (1, .int .u64 ((s.tk i).birth : Nat)), (2, .int .u64 ((s.tk i).epoch : Nat)), (5, .int .i64 ((s.tk i).n : Nat))]) (vs := [.bool (s.tk i).live, .int .u64 ((s.tk i).birth : Nat), .int .u64 ((s.tk i).epoch : Nat), .bool false, .int .u64 0, .int .i64 ((s.tk i).n : Nat)]) ty_pl42 ty_zero42 rfl rfl) rfl rfl rfl ?_
    -- R5.26 61 := model.go:418 fieldAddr
    refine SL.v (by exact r_field ty_fld50_3 rfl) rfl rfl rfl ?_
    -- R5.27 62 := model.go:418 indexAddr
    refine SL.v (by exact r_indexA (j := i) ty_ar43 rfl rfl rfl hi') rfl rfl rfl ?_
    refine SL.fin hKq ?_
    -- R5.28 None := model.go:418 store
    first | refine WL.storeW (vs := [_, _, _, _, _, _]) st ty_agg42 rfl rfl rfl rfl rfl rfl ?_ | refine WL.storeL (vs := [_, _, _, _, _, _]) st ty_agg42 rfl rfl rfl rfl (by first | decide | omega) rfl rfl ?_ | refine WL.storeW (vs := [_, _, _, _, _, _]) st.front1 ty_agg42 rfl rfl rfl rfl rfl rfl ?_ | refine WL.storeL (vs := [_, _, _, _, _, _]) st.front1 ty_agg42 rfl rfl rfl rfl (by first | decide | omega) rfl rfl ?_ | refine WL.storeW (vs := [_, _, _, _, _, _]) st.front2 ty_agg42 rfl rfl rfl rfl rfl rfl ?_ | refine WL.storeL (vs := [_, _, _, _, _, _]) st.front2 ty_agg42 rfl rfl rfl rfl (by first | decide | omega) rfl rfl ?_ | refine WL.storeW (vs := [_, _, _, _, _, _]) st.front3 ty_agg42 rfl rfl rfl rfl rfl rfl ?_ | refine WL.storeL (vs := [_, _, _, _, _, _]) st.front3 ty_agg42 rfl rfl rfl rfl (by first | decide | omega) rfl rfl ?_ | refine WL.storeW (vs := [_, _, _, _, _, _]) st.front4 ty_agg42 rfl rfl rfl rfl rfl rfl ?_ | refine WL.storeL (vs := [_, _, _, _, _, _]) st.front4 ty_agg42 rfl rfl rfl rfl (by first | decide | omega) rfl rfl ?_ | refine WL.storeW (vs := [_, _, _, _, _, _]) st.front5 ty_agg42 rfl rfl rfl rfl rfl rfl ?_ | refine WL.storeL (vs := [_, _, _, _, _, _]) st.front5 ty_agg42 rfl rfl rfl rfl (by first | decide | omega) rfl rfl ?_ | refine WL.storeW (vs := [_, _, _, _, _, _]) st.front6 ty_agg42 rfl rfl rfl rfl rfl rfl ?_ | refine WL.storeL (vs := [_, _, _, _, _, _]) st.front6 ty_agg42 rfl rfl rfl rfl (by first | decide | omega) rfl rfl ?_ | refine WL.storeW (vs := [_, _, _, _, _, _]) st.front7 ty_agg42 rfl rfl rfl rfl rfl rfl ?_ | refine WL.storeL (vs := [_, _, _, _, _, _]) st.front7 ty_agg42 rfl rfl rfl rfl (by first | decide | omega) rfl rfl ?_ | refine WL.storeW (vs := [_, _, _, _, _, _]) st.front8 ty_agg42 rfl rfl rfl rfl rfl rfl ?_ | refine WL.storeL (vs := [_, _, _, _, _, _]) st.front8 ty_agg42 rfl rfl rfl rfl (by first | decide | omega) rfl rfl ?_
    intro w st
    refine WL.fin hK3974 (fun _ _ h => h) ?_
    -- region 6
    refine WC.region ?_
    -- R6.0 63 := model.go:417 binOp
    refine WL.v (by first | exact r_add rfl rfl (wi64 (by omega) (by omega)) | exact r_add rfl rfl rfl) rfl rfl rfl ?_
    -- R6.1 32 := model.go:417 move
    refine WL.v (by first | exact r_move (v := .int _ _) rfl | exact r_move rfl) rfl rfl rfl ?_
    refine WL.next hK1 (fun _ _ h => h) (i + 1, updN F i (baT (s.tk i))) ⟨hi', (fun j hj => by { have hj : j < i + 1 := hj; by_cases hji : j = i; · { subst hji; exact updN_same }; · { show updN F i _ j = _; rw [updN_ne hji]; exact hF j (by omega) } }), stE (sF_setT hi' (fun j hj => rfl)) st⟩ (by show 16 - (i + 1) < 16 - i; omega) (by repeat (first | exact sub_nil _ | refine sub_cons rfl rfl ?_))
  subst h16
  have st : S0 w0 (sI b3 (bareS s (shT s (P.take 0))) nilQ :: sI b2 ks0 nilQ :: (gather 20 (fun _ => []) ++ Y)) w := by
    rw [gather_nil]
    exact stE (f := sF (bareS s F) nilQ) (sF_congr (s1 := bareS s F) (s2 := bareS s (shT s (P.take 0))) (fun t ht => (hF t ht).trans rfl) rfl rfl rfl rfl rfl rfl) st
  clear hF
  refine WC.seq fun K3976 hK3976 => ?_
  -- region 3
  refine WC.region ?_
  -- R3.0 33 := model.go:417 binOp
  refine WL.v (by first | exact r_lss rfl rfl (decide_eq_true (by omega)) | exact r_lss rfl rfl (decide_eq_false (by omega)) | exact r_lss rfl rfl rfl) rfl rfl rfl ?_
  refine WL.fin hK3976 (fun _ _ h => h) ?_
  refine WC.seq fun K3977 hK3977 => ?_
  refine WC.condF rfl rfl ?_
  refine WC.exitF hK3970 (fun _ _ h => h) ?_
  refine WC.seq fun K3978 hK3978 => ?_
  refine WC.seq fun K3979 hK3979 => ?_
  -- region 7
  refine WC.region ?_
  -- R7.0 64 := model.go:420 move
  refine WL.v (by first | exact r_move (v := .pointer _) rfl | exact r_move rfl) rfl rfl rfl ?_
  -- R7.1 65 := model.go:420 nilCheck
  refine WL.v (by exact r_nilCheck rfl) rfl rfl rfl ?_
  -- R7.2 66 := model.go:420 fieldAddr
  refine WL.v (by exact r_field ty_fld98_9 rfl) rfl rfl rfl ?_
  -- R7.3 67 := model.go:420 load
  refine WL.v (by exact r_load1 (v := .slice a P.length c) ty_one96 rfl (by rw [← hpv]; exact c_m (m := mrOf s) (List.mem_cons_of_mem _ (List.mem_cons_of_mem _ (List.mem_append_right _ hm))) (by decide) rfl st)) rfl rfl rfl ?_
  -- R7.4 68 := model.go:420 call
  refine WL.v (by exact r_len ty_usl96 rfl) rfl rfl rfl ?_
  -- R7.5 69 := model.go:420 move
  refine WL.v (by first | exact r_move (v := .int _ _) rfl | exact r_move rfl) rfl rfl rfl ?_
  refine WL.fin hK3979 (fun _ _ h => h) ?_
  refine WC.block ?_
  refine WC.loop (ι := Nat × (Nat → Value) × (Nat → List HI)) (fun y => [(0, .pointer (some ⟨bm, 0, none⟩)), (2, .pointer (some ⟨b2, 0, none⟩)), (3, .pointer (some ⟨b3, 0, none⟩)), (67, .slice a P.length c), (68, .int .i64 (P.length : Nat)), (69, .int .i64 (y.1 : Nat))])
    (fun y w' => y.1 ≤ P.length ∧ (∀ r, r < 20 → QL0 (y.2.1 r) (quP (P.take y.1) r) (y.2.2 r)) ∧ S0 w0 (sI b3 (bareS s (shT s (P.take y.1))) y.2.1 :: sI b2 ks0 nilQ :: (gather 20 y.2.2 ++ Y)) w') (fun y => P.length - y.1) (0, nilQ, fun _ => []) ⟨Nat.zero_le _, fun r hr => LO.nil, st⟩ ?_ ?_
  · skip
    repeat (first | exact sub_nil _ | refine sub_cons rfl rfl ?_)
  clear st
  rintro ⟨k, qv, XS⟩ w ⟨hk, hq, st⟩ K2 hK2
  dsimp only at hk hq st ⊢
  by_cases hkl : k = P.length
  · subst hkl
    rw [List.take_length] at hq st
    have hq' : ∀ r, r < 20 → QL0 (qv r) (s.queue r) (XS r) := fun r hr => by rw [hrel.q r hr]; exact hq r hr
    have st : S0 w0 (sI b3 (s) qv :: sI b2 ks0 nilQ :: (gather 20 XS ++ Y)) w := stE (f := sF (bareS s (shT s P)) qv) (sF_congrT (s1 := bareS s (shT s P)) (s2 := s) (shT_end hI hrel hz) rfl rfl rfl rfl rfl rfl) st
    refine WC.seq fun K3980 hK3980 => ?_
    -- region 8
    refine WC.region ?_
    -- R8.0 70 := model.go:420 binOp
    refine WL.v (by first | exact r_lss rfl rfl (decide_eq_true (by omega)) | exact r_lss rfl rfl (decide_eq_false (by omega)) | exact r_lss rfl rfl rfl) rfl rfl rfl ?_
    refine WL.fin hK3980 (fun _ _ h => h) ?_
    refine WC.seq fun K3981 hK3981 => ?_
    refine WC.condF rfl rfl ?_
    refine WC.exitF hK3978 (fun _ _ h => h) ?_
    refine WC.seq fun K3982 hK3982 => ?_
    -- region 14
    refine WC.region ?_
    -- R14.0 102 := model.go:425 load
    refine WL.v (by exact r_loadN (f := sF s qv) ty_agg50 rfl (fun k hk => by rw [Nat.zero_add]; exact st.c0 hk)) rfl rfl rfl ?_
    -- R14.1 None := model.go:425 store
    refine WL.storeN (st.front1) ty_agg50 rfl rfl (sF_one (fun r hr => ql_one (hq' r hr))) (by omega) rfl rfl ?_
    intro w st
    refine WL.fin hK3982 (fun _ _ h => h) ?_
    refine WC.retCN (f := sF s qv) Tryz.results43 (fun _ _ h => h) rfl ty_agg50 rfl (fun k hk => by rw [st.c0 (by omega), upds_eq, if_pos (by omega), show 0 + k - 0 = k by omega]) ?_
    exact ⟨_, rfl, qv, XS, hq', rfl, st.drop.drop⟩
  have hkl' : k < P.length := by omega
  obtain ⟨p, hip⟩ : ∃ p, P[k]? = some p := ⟨P[k], List.getElem?_eq_getElem hkl'⟩
  have hpm := List.mem_of_getElem? hip
  obtain ⟨ht, hr⟩ := hrel.l p hpm
  have htk : P.take (k + 1) = P.take k ++ [p] := by rw [List.take_add_one, hip]; rfl
  have hql : (quP (P.take k) p.r).length ≤ 1000000 := by
    unfold quP
    rw [List.length_map]
    have h1 := List.length_filter_le (fun q : PQ => q.r == p.r) (P.take k)
    have h2 : (P.take k).length ≤ P.length := by rw [List.length_take]; omega
    omega
  obtain rfl := ha (by omega)
  have hXs : XP ⊆ (sI b3 (bareS s (shT s (P.take k))) qv :: sI b2 ks0 nilQ :: (gather 20 XS ++ Y)) := fun x hx => List.mem_cons_of_mem _ (List.mem_cons_of_mem _ (List.mem_append_right _ (hX hx)))
  obtain ⟨R, h1, h2⟩ := q_split hr XS
  refine WC.seq fun K3983 hK3983 => ?_
  -- region 8
  refine WC.region ?_
  -- R8.0 70 := model.go:420 binOp
  refine WL.v (by first | exact r_lss rfl rfl (decide_eq_true (by omega)) | exact r_lss rfl rfl (decide_eq_false (by omega)) | exact r_lss rfl rfl rfl) rfl rfl rfl ?_
  refine WL.fin hK3983 (fun _ _ h => h) ?_
  refine WC.seq fun K3984 hK3984 => ?_
  refine WC.condT rfl rfl ?_
  refine WC.skipF hK3984 (fun _ _ h => h) ?_
  refine WC.seq fun K3985 hK3985 => ?_
  refine WC.block ?_
  refine WC.seq fun K3986 hK3986 => ?_
  -- region 9
  refine WC.region ?_
  -- R9.0 71 := model.go:420 indexAddr
  refine WL.v (by exact r_indexS (j := k) ty_sl96 rfl rfl rfl (by omega)) rfl rfl rfl ?_
  -- R9.1 72 := model.go:420 load
  refine WL.v (by exact r_loadL (vs := [.int .i64 (p.t : Nat), .int .i64 (p.r : Nat), .int .i64 (p.u : Nat), .int .u64 (p.d : Nat), .int .u64 (p.n : Nat)]) ty_agg102 rfl ⟨c_pq (j := 0) (a := none) hcell hXs hip (by decide) st, c_pq (j := 1) (a := none) hcell hXs hip (by decide) st, c_pq (j := 2) (a := none) hcell hXs hip (by decide) st, c_pq (j := 3) (a := none) hcell hXs hip (by decide) st, c_pq (j := 4) (a := none) hcell hXs hip (by decide) st, trivial⟩) rfl rfl rfl ?_
  -- R9.2 6 := model.go:420 alloc
  refine WL.alloc (m := 5) st ty_zero102 rfl rfl rfl ?_
  intro b6 w st
  -- R9.3 None := model.go:420 store
  first | refine WL.storeW (vs := [_, _, _, _, _]) st ty_agg102 rfl rfl rfl rfl rfl rfl ?_ | refine WL.storeL (vs := [_, _, _, _, _]) st ty_agg102 rfl rfl rfl rfl (by first | decide | omega) rfl rfl ?_ | refine WL.storeW (vs := [_, _, _, _, _]) st.front1 ty_agg102 rfl rfl rfl rfl rfl rfl ?_ | refine WL.storeL (vs := [_, _, _, _, _]) st.front1 ty_agg102 rfl rfl rfl rfl (by first | decide | omega) rfl rfl ?_ | refine WL.storeW (vs := [_, _, _, _, _]) st.front2 ty_agg102 rfl rfl rfl rfl rfl rfl ?_ | refine WL.storeL (vs := [_, _, _, _, _]) st.front2 ty_agg102 rfl rfl rfl rfl (by first | decide | omega) rfl rfl ?_ | refine WL.storeW (vs := [_, _, _, _, _]) st.front3 ty_agg102 rfl rfl rfl rfl rfl rfl ?_ | refine WL.storeL (vs := [_, _, _, _, _]) st.front3 ty_agg102 rfl rfl rfl rfl (by first | decide | omega) rfl rfl ?_ | refine WL.storeW (vs := [_, _, _, _, _]) st.front4 ty_agg102 rfl rfl rfl rfl rfl rfl ?_ | refine WL.storeL (vs := [_, _, _, _, _]) st.front4 ty_agg102 rfl rfl rfl rfl (by first | decide | omega) rfl rfl ?_ | refine WL.storeW (vs := [_, _, _, _, _]) st.front5 ty_agg102 rfl rfl rfl rfl rfl rfl ?_ | refine WL.storeL (vs := [_, _, _, _, _]) st.front5 ty_agg102 rfl rfl rfl rfl (by first | decide | omega) rfl rfl ?_ | refine WL.storeW (vs := [_, _, _, _, _]) st.front6 ty_agg102 rfl rfl rfl rfl rfl rfl ?_ | refine WL.storeL (vs := [_, _, _, _, _]) st.front6 ty_agg102 rfl rfl rfl rfl (by first | decide | omega) rfl rfl ?_ | refine WL.storeW (vs := [_, _, _, _, _]) st.front7 ty_agg102 rfl rfl rfl rfl rfl rfl ?_ | refine WL.storeL (vs := [_, _, _, _, _]) st.front7 ty_agg102 rfl rfl rfl rfl (by first | decide | omega) rfl rfl ?_ | refine WL.storeW (vs := [_, _, _, _, _]) st.front8 ty_agg102 rfl rfl rfl rfl rfl rfl ?_ | refine WL.storeL (vs := [_, _, _, _, _]) st.front8 ty_agg102 rfl rfl rfl rfl (by first | decide | omega) rfl rfl ?_
  intro w st
  refine WL.fin hK3986 (fun _ _ h => h) ?_
  refine WC.seq fun K3987 hK3987 => ?_
  -- region 10
  refine WC.region ?_
  -- R10.0 73 := model.go:421 fieldAddr
  refine WL.v (by exact r_field ty_fld102_0 rfl) rfl rfl rfl ?_
  -- R10.1 74 := model.go:421 load
  refine WL.v (by exact r_load1 (v := .int .i64 (p.t : Nat)) ty_one31 rfl (st.c0 (by decide))) rfl rfl rfl ?_
  -- R10.2 75 := model.go:421 fieldAddr
  refine WL.v (by exact r_field ty_fld50_3 rfl) rfl rfl rfl ?_
  -- R10.3 76 := model.go:421 indexAddr
  refine WL.v (by exact r_indexA (j := p.t) ty_ar43 rfl rfl rfl ht) rfl rfl rfl ?_
  -- R10.4 77 := model.go:421 fieldAddr
  refine WL.v (by exact r_field ty_fld42_3 rfl) rfl rfl rfl ?_
  -- R10.5 None := model.go:421 store
  refine WL.store (v := .bool true) st.front1 ty_one4 rfl rfl rfl (by omega) rfl rfl ?_
  intro w st
  have st : S0 w0 (sI b3 (bareS s (updN (shT s (P.take k)) p.t { shT s (P.take k) p.t with waiting := true })) qv :: (b6, Row 102 5 (nth [.int .i64 (p.t : Nat), .int .i64 (p.r : Nat), .int .i64 (p.u : Nat), .int .u64 (p.d : Nat), .int .u64 (p.n : Nat)])) :: sI b2 ks0 nilQ :: (gather 20 XS ++ Y)) w := stE (sF_setC (j := 3) ht (by decide) rfl ts_w) st
  refine WL.fin hK3987 (fun _ _ h => h) ?_
  refine WC.seq fun K3988 hK3988 => ?_
  -- region 11
  refine WC.region ?_
  -- R11.0 78 := model.go:422 fieldAddr
  refine WL.v (by exact r_field ty_fld102_0 rfl) rfl rfl rfl ?_
  -- R11.1 79 := model.go:422 load
  refine WL.v (by exact r_load1 (v := .int .i64 (p.t : Nat)) ty_one31 rfl (st.c1 (by decide))) rfl rfl rfl ?_
  -- R11.2 80 := model.go:422 fieldAddr
  refine WL.v (by exact r_field ty_fld102_3 rfl) rfl rfl rfl ?_
  -- R11.3 81 := model.go:422 load
  refine WL.v (by exact r_load1 (v := .int .u64 (p.d : Nat)) ty_one26 rfl (st.c1 (by decide))) rfl rfl rfl ?_
  -- R11.4 82 := model.go:422 fieldAddr
  refine WL.v (by exact r_field ty_fld50_3 rfl) rfl rfl rfl ?_
  -- R11.5 83 := model.go:422 indexAddr
  refine WL.v (by exact r_indexA (j := p.t) ty_ar43 rfl rfl rfl ht) rfl rfl rfl ?_
  -- R11.6 84 := model.go:422 fieldAddr
  refine WL.v (by exact r_field ty_fld42_4 rfl) rfl rfl rfl ?_
  -- R11.7 None := model.go:422 store
  refine WL.store (v := .int .u64 (p.d : Nat)) st ty_one26 rfl rfl rfl (by omega) rfl rfl ?_
  intro w st
  have st : S0 w0 (sI b3 (bareS s (updN (updN (shT s (P.take k)) p.t { shT s (P.take k) p.t with waiting := true }) p.t { { shT s (P.take k) p.t with waiting := true } with deadline := p.d })) qv :: (b6, Row 102 5 (nth [.int .i64 (p.t : Nat), .int .i64 (p.r : Nat), .int .i64 (p.u : Nat), .int .u64 (p.d : Nat), .int .u64 (p.n : Nat)])) :: sI b2 ks0 nilQ :: (gather 20 XS ++ Y)) w := stE (sF_setC (j := 4) ht (by decide) rfl (fun a h6 h4 => (ts_d a h6 h4).trans (by rw [updN_same]))) st
  have hst : updN (updN (shT s (P.take k)) p.t { shT s (P.take k) p.t with waiting := true }) p.t { { shT s (P.take k) p.t with waiting := true } with deadline := p.d } = shT s (P.take (k + 1)) := by rw [updN_updN, htk]; exact shT_snoc (hrel.d p hpm).1 rfl
  rw [hst] at st
  refine WL.fin hK3988 (fun _ _ h => h) ?_
  -- region 12 (draws)
  refine WC.heldS2 [15, 16] [0, 1, 2, 3, 4, 5, 6, 7, 8, 9, 10] [11, 14] [12, 13, 15, 16] st ((st.sublist (List.sublist_append_left [_, _] _) : S0 w0 [sI b3 (bareS s (shT s (P.take (k + 1)))) qv, (b6, Row 102 5 (nth [.int .i64 (p.t : Nat), .int .i64 (p.r : Nat), .int .i64 (p.u : Nat), .int .u64 (p.d : Nat), .int .u64 (p.n : Nat)]))] w)) ty_mixed (by kernel_rfl) fun w st Kq Kq2 hKq hKq2 => ?_
  -- R12.0 85 := model.go:423 fieldAddr
  refine HL.v (fun w st => by exact r_field ty_fld102_1 rfl) rfl rfl rfl ?_
  -- R12.1 86 := model.go:423 load
  refine HL.v (fun w st => by exact r_load1 (v := .int .i64 (p.r : Nat)) ty_one77 rfl (st.c1 (by decide))) rfl rfl rfl ?_
  -- R12.2 87 := model.go:423 fieldAddr
  refine HL.v (fun w st => by exact r_field ty_fld102_1 rfl) rfl rfl rfl ?_
  -- R12.3 88 := model.go:423 load
  refine HL.v (fun w st => by exact r_load1 (v := .int .i64 (p.r : Nat)) ty_one77 rfl (st.c1 (by decide))) rfl rfl rfl ?_
  -- R12.4 89 := model.go:423 fieldAddr
  refine HL.v (fun w st => by exact r_field ty_fld50_6 rfl) rfl rfl rfl ?_
  -- R12.5 90 := model.go:423 indexAddr
  refine HL.v (fun w st => by exact r_indexA (j := p.r) ty_ar47 rfl rfl rfl hr) rfl rfl rfl ?_
  -- R12.6 91 := model.go:423 load
  refine HL.v (fun w st => by exact r_load1 (v := qv p.r) ty_one46 rfl (c_sQ List.mem_cons_self hr (by omega) st)) rfl rfl rfl ?_
  -- R12.7 92 := model.go:423 fieldAddr
  refine HL.v (fun w st => by exact r_field ty_fld102_0 rfl) rfl rfl rfl ?_
  -- R12.8 93 := model.go:423 load
  refine HL.v (fun w st => by exact r_load1 (v := .int .i64 (p.t : Nat)) ty_one31 rfl (st.c1 (by decide))) rfl rfl rfl ?_
  -- R12.9 94 := model.go:423 fieldAddr
  refine HL.v (fun w st => by exact r_field ty_fld102_2 rfl) rfl rfl rfl ?_
  -- R12.10 95 := model.go:423 load
  refine HL.v (fun w st => by exact r_load1 (v := .int .i64 (p.u : Nat)) ty_one3 rfl (st.c1 (by decide))) rfl rfl rfl ?_
  refine HL.pure hKq ?_
  -- R12.11 96 := model.go:423 build
  refine HL.v (fun w _ => by exact r_build (ps := [(0, .int _ _), (1, .int _ _)]) (vs := [_, _]) ty_pl61 ty_zero61 rfl (fill_step (pv := [_]) (cs' := [_, _]) rfl rfl rfl rfl (fill_step (pv := [_]) (cs' := [_, _]) rfl rfl rfl rfl (fill_nil)))) rfl rfl rfl ?_
  -- R12.14 99 := model.go:423 fieldAddr
  refine HL.v (fun w _ => by exact r_field ty_fld50_6 rfl) rfl rfl rfl ?_
  refine HL.fin hKq2 ?_
  refine TL.at ?_
  -- R12.12 97 := model.go:423 buildSlice
  first | refine WL.mkslice (m := 2) (vs := [.int _ _, .int _ _]) st ty_sl46 ty_zero61 rfl rfl rfl rfl rfl rfl ?_ | refine WL.mkslice (m := 2) (vs := [_, _]) st ty_sl46 ty_zero61 rfl rfl rfl rfl rfl rfl ?_ | refine WL.mkslice st ty_sl46 ty_zero61 rfl rfl rfl rfl rfl rfl ?_
  intro b97 w st
  refine TL.nxt (by first | exact st.sublist (List.sublist_append_left [_, _] _) | exact st.drop.sublist (List.sublist_append_left [_, _] _)) ?_
  refine TL.at ?_
  -- R12.13 98 := model.go:423 call
  have c0 : ∀ j, j < 2 → w.cell? ⟨b97, 0 + j, none⟩ = some (qE (p.t, p.u) j) := fun j hj => by rw [st.c0 (by omega), Nat.zero_add]; rfl
  have st : S0 w0 ((b97, Row 61 2 (nth [.int .i64 (p.t : Nat), .int .i64 (p.u : Nat)])) :: sI b3 (bareS s (shT s (P.take (k + 1)))) qv :: (b6, Row 102 5 (nth [.int .i64 (p.t : Nat), .int .i64 (p.r : Nat), .int .i64 (p.u : Nat), .int .u64 (p.d : Nat), .int .u64 (p.n : Nat)])) :: sI b2 ks0 nilQ :: (gather 20 XS ++ Y)) w := st
  have st : S0 w0 (XS p.r ++ ((b97, Row 61 2 (nth [.int .i64 (p.t : Nat), .int .i64 (p.u : Nat)])) :: sI b3 (bareS s (shT s (P.take (k + 1)))) qv :: (b6, Row 102 5 (nth [.int .i64 (p.t : Nat), .int .i64 (p.r : Nat), .int .i64 (p.u : Nat), .int .u64 (p.d : Nat), .int .u64 (p.n : Nat)])) :: sI b2 ks0 nilQ :: (R ++ Y))) w := (st.perm (((((h1.append_right Y).cons _).cons _).cons _).cons _)).perm (by classical exact List.perm_iff_count.2 fun x => by simp only [List.count_append, List.count_cons, List.count_nil, List.append_eq, List.cons_append, List.nil_append, List.append_assoc, Nat.add_zero, Nat.zero_add] <;> ac_rfl)
  refine WL.appL (bx := b97) (ox := 0) (a := (p.t, p.u)) (hq p.r hr) st ty_mk46 ty_zero61 rfl (by decide) rfl rfl c0 (fun k hk => by match k with | 0 => rfl | 1 => rfl | k + 2 => omega) (by omega) (by omega) rfl rfl rfl ?_
  intro v' X' w ho' st
  have ho := ho'
  obtain ⟨a', c', b', rfl, -, -, -, -⟩ := ho'.form
  have st : S0 w0 ((b97, Row 61 2 (nth [.int .i64 (p.t : Nat), .int .i64 (p.u : Nat)])) :: sI b3 (bareS s (shT s (P.take (k + 1)))) qv :: (b6, Row 102 5 (nth [.int .i64 (p.t : Nat), .int .i64 (p.r : Nat), .int .i64 (p.u : Nat), .int .u64 (p.d : Nat), .int .u64 (p.n : Nat)])) :: sI b2 ks0 nilQ :: ((X' ++ R) ++ Y)) w := st.perm (by classical exact List.perm_iff_count.2 fun x => by simp only [List.count_append, List.count_cons, List.count_nil, List.append_eq, List.cons_append, List.nil_append, List.append_assoc, Nat.add_zero, Nat.zero_add] <;> ac_rfl)
  have st : S0 w0 (sI b3 (bareS s (shT s (P.take (k + 1)))) qv :: (b6, Row 102 5 (nth [.int .i64 (p.t : Nat), .int .i64 (p.r : Nat), .int .i64 (p.u : Nat), .int .u64 (p.d : Nat), .int .u64 (p.n : Nat)])) :: sI b2 ks0 nilQ :: (gather 20 (updN XS p.r X') ++ Y)) w := st.drop.perm (((((h2 X').symm.append_right Y).cons _).cons _).cons _)
  refine TL.nxt (by first | exact st.sublist (List.sublist_append_left [_, _] _) | exact st.drop.sublist (List.sublist_append_left [_, _] _)) ?_
  refine TL.at ?_
  -- R12.15 100 := model.go:423 indexAddr
  refine WL.v (by exact r_indexA (j := p.r) ty_ar47 rfl rfl rfl hr) rfl rfl rfl ?_
  refine TL.nxt' rfl ?_
  refine TL.at ?_
  -- R12.16 None := model.go:423 store
  refine WL.store (v := .slice a' _ c') st ty_one46 rfl rfl rfl (by omega) rfl rfl ?_
  intro w st
  have st := (stE (sF_setQ hr) st).drop1
  refine TL.nxt' rfl ?_
  refine TL.wl ?_
  refine WL.fin hK3985 (fun _ _ h => h) ?_
  -- region 13
  refine WC.region ?_
  -- R13.0 101 := model.go:420 binOp
  refine WL.v (by first | exact r_add rfl rfl (wi64 (by omega) (by omega)) | exact r_add rfl rfl rfl) rfl rfl rfl ?_
  -- R13.1 69 := model.go:420 move
  refine WL.v (by first | exact r_move (v := .int _ _) rfl | exact r_move rfl) rfl rfl rfl ?_
  refine WL.next hK2 (fun _ _ h => h) (k + 1, updN qv p.r (.slice a' _ c'), updN XS p.r X') ⟨hkl', fun r' hr' => ?_, st⟩ (by show P.length - (k + 1) < P.length - k; omega) (by repeat (first | exact sub_nil _ | refine sub_cons rfl rfl ?_))
  show QL0 (updN qv p.r _ r') (quP (P.take (k + 1)) r') (updN XS p.r X' r')
  rw [htk, quP_snoc]
  by_cases e : r' = p.r
  · subst e; rw [updN_same, updN_same, if_pos rfl]; exact ho
  · rw [updN_ne e, updN_ne e, if_neg (fun k => e k.symm)]; exact hq r' hr'
end Go.Proofs.Qxb6500834aGreatDoor

