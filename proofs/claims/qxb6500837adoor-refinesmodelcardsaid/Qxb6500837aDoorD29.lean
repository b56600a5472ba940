import Derived.Test.Qxb6500837aDoorD28
set_option linter.unusedVariables false
set_option linter.unusedSimpArgs false
set_option maxRecDepth 20000
namespace Go.Proofs.Qxb6500837aDoor
open Go.RowKit Go.E1 Go.Disk
variable {w0 : World} {L L' l I J K K' : List HI} {w : World} {D : DK} {m : Int} {P : PD} {q : Obj → Prop}
variable {R : PD} {NS : Int → Option Value} {f : Nat → Value}

theorem before_ok {bw bm s sec : Nat} {wv kv av : Value} {t tb sc : Int} {pc : Nat → Nat → Int} {pend : List (Nat × (Nat → Int))} (hbk : Bk w0 K sec pc pend NS f) (hs : s < sec) (hsec : sec ≤ 65536) (st : S0 w0 (bkI bw bm wv kv t tb av sc :: mpI bm NS :: L) w) :
    Calls Tryd.prog 30 #[.pointer (some ⟨bw, 0, none⟩), .int .i64 (s : Nat)] w (Ret fun v w' => ∃ X, Sees w0 (X ++ K) v (bytesOf 512 (pc s)) ∧ S0 w0 (X ++ (bkI bw bm wv kv t tb av sc :: mpI bm NS :: L)) w') := by
  rcases hN : NS (s : Int) with _ | v
  · skip
    refine enter [.pointer (some ⟨bw, 0, none⟩), .int .i64 (s : Nat)] Tryd.func30 rfl Tryd.ntmps30 rfl ?_
    show WC _ _ _ 19 [] [(0, .pointer (some ⟨bw, 0, none⟩)), (1, .int .i64 (s : Nat))] _
    refine WC.seq fun K961 hK961 => ?_
    -- region 0
    refine WC.region ?_
    -- R0.0 4 := laws.go:95 assign
    refine WL.v (by first | exact r_assign (v := .slice _ _ _) rfl | exact r_assign rfl) rfl rfl rfl ?_
    refine WL.fin hK961 (fun _ _ h => h) ?_
    refine WC.seq fun K962 hK962 => ?_
    refine WC.seq fun K963 hK963 => ?_
    -- region 1
    refine WC.region ?_
    -- R1.0 8 := laws.go:96 move
    refine WL.v (by first | exact r_move (v := .pointer _) rfl | exact r_move rfl) rfl rfl rfl ?_
    -- R1.1 9 := laws.go:96 nilCheck
    refine WL.v (by exact r_nilCheck rfl) rfl rfl rfl ?_
    -- R1.2 10 := laws.go:96 fieldAddr
    refine WL.v (by exact r_field ty_fld60_0 rfl) rfl rfl rfl ?_
    -- R1.3 11 := laws.go:96 load
    refine WL.v (by exact r_load1 ty_one45 rfl (by first | assumption | exact st.c0 (by first | decide | omega) | exact st.c1 (by first | decide | omega) | exact st.c2 (by first | decide | omega) | exact st.c3 (by first | decide | omega) | exact st.c4 (by first | decide | omega) | exact st.c5 (by first | decide | omega) | exact st.c6 (by first | decide | omega) | exact st.c7 (by first | decide | omega) | exact st.c8 (by first | decide | omega))) rfl rfl rfl ?_
    -- R1.4 12 := laws.go:96 move
    refine WL.v (by first | exact r_move (v := .int _ _) rfl | exact r_move rfl) rfl rfl rfl ?_
    -- R1.5 13 := laws.go:96 lookup
    refine WL.v (by exact r_lookok (G := gOf NS) (v := .slice none 0 0) (t := false) ty_kb2 ty_mp45 ty_z129 rfl rfl st (by simp) (good64 (by omega) (by omega)) (by show (NS ((s : Nat) : Int)).getD _ = _; rw [hN]; rfl) (by show (NS ((s : Nat) : Int)).isSome = _; rw [hN]; rfl)) rfl rfl rfl ?_
    -- R1.6 7 := laws.go:96 move
    refine WL.v (by first | exact r_move (v := .tuple _) rfl | exact r_move rfl) rfl rfl rfl ?_
    -- R1.7 14 := laws.go:96 extract
    refine WL.v (by first | exact r_extract (v := .slice _ _ _) rfl rfl | exact r_extract rfl rfl) rfl rfl rfl ?_
    -- R1.8 15 := laws.go:96 extract
    refine WL.v (by first | exact r_extract (v := .bool _) rfl rfl | exact r_extract rfl rfl) rfl rfl rfl ?_
    -- R1.9 5 := laws.go:96 assign
    refine WL.v (by first | exact r_assign (v := .slice _ _ _) rfl | exact r_assign rfl) rfl rfl rfl ?_
    -- R1.10 6 := laws.go:96 assign
    refine WL.v (by first | exact r_assign (v := .bool _) rfl | exact r_assign rfl) rfl rfl rfl ?_
    refine WL.fin hK963 (fun _ _ h => h) ?_
    refine WC.seq fun K964 hK964 => ?_
    -- region 2
    refine WC.region ?_
    -- R2.0 16 := laws.go:96 move
    refine WL.v (by first | exact r_move (v := .bool _) rfl | exact r_move rfl) rfl rfl rfl ?_
    refine WL.fin hK964 (fun _ _ h => h) ?_
    refine WC.condF rfl rfl ?_
    refine WC.skipF hK962 (fun _ _ h => h) ?_
    refine WC.seq fun K965 hK965 => ?_
    -- region 4
    refine WC.region ?_
    -- R4.0 18 := laws.go:99 makeSlice
    refine WL.make (len := 512) (cap := 512) st ty_mk29 ty_zero5 rfl rfl (by first | rfl | omega) (by first | rfl | omega) (by omega) (by omega) (by omega) rfl rfl rfl rfl ?_
    intro b18 w st
    -- R4.1 4 := laws.go:99 assign
    refine WL.v (by first | exact r_assign (v := .slice _ _ _) rfl | exact r_assign rfl) rfl rfl rfl ?_
    refine WL.fin hK965 (fun _ _ h => h) ?_
    refine WC.ret1 Tryd.results30 (fun _ _ h => h) rfl ?_
    have st := row1 (g := fun _ => .int .u8 0) st fun k => by simp [zrow, nth, Nat.mod_one]
    refine ⟨_, rfl, [iI b18 512 fun _ => 0], ?_, st⟩
    rw [bytesOf_congr (g := fun _ => 0) (hbk.syz s hs hN)]
    exact (Sees.img (fun _ => by decide) (by decide)).mono (List.subset_append_left _ _)
  · have hv := hbk.syn s hs v hN
    obtain ⟨va, vc, rfl⟩ := hv.sl
    refine enter [.pointer (some ⟨bw, 0, none⟩), .int .i64 (s : Nat)] Tryd.func30 rfl Tryd.ntmps30 rfl ?_
    show WC _ _ _ 19 [] [(0, .pointer (some ⟨bw, 0, none⟩)), (1, .int .i64 (s : Nat))] _
    refine WC.seq fun K966 hK966 => ?_
    -- region 0
    refine WC.region ?_
    -- R0.0 4 := laws.go:95 assign
    refine WL.v (by first | exact r_assign (v := .slice _ _ _) rfl | exact r_assign rfl) rfl rfl rfl ?_
    refine WL.fin hK966 (fun _ _ h => h) ?_
    refine WC.seq fun K967 hK967 => ?_
    refine WC.seq fun K968 hK968 => ?_
    -- region 1
    refine WC.region ?_
    -- R1.0 8 := laws.go:96 move
    refine WL.v (by first | exact r_move (v := .pointer _) rfl | exact r_move rfl) rfl rfl rfl ?_
    -- R1.1 9 := laws.go:96 nilCheck
    refine WL.v (by exact r_nilCheck rfl) rfl rfl rfl ?_
    -- R1.2 10 := laws.go:96 fieldAddr
    refine WL.v (by exact r_field ty_fld60_0 rfl) rfl rfl rfl ?_
    -- R1.3 11 := laws.go:96 load
    refine WL.v (by exact r_load1 ty_one45 rfl (by first | assumption | exact st.c0 (by first | decide | omega) | exact st.c1 (by first | decide | omega) | exact st.c2 (by first | decide | omega) | exact st.c3 (by first | decide | omega) | exact st.c4 (by first | decide | omega) | exact st.c5 (by first | decide | omega) | exact st.c6 (by first | decide | omega) | exact st.c7 (by first | decide | omega) | exact st.c8 (by first | decide | omega))) rfl rfl rfl ?_
    -- R1.4 12 := laws.go:96 move
    refine WL.v (by first | exact r_move (v := .int _ _) rfl | exact r_move rfl) rfl rfl rfl ?_
    -- R1.5 13 := laws.go:96 lookup
    refine WL.v (by exact r_lookok (G := gOf NS) (v := .slice va (bytesOf 512 (pc s)).length vc) (t := true) ty_kb2 ty_mp45 ty_z129 rfl rfl st (by simp) (good64 (by omega) (by omega)) (by show (NS ((s : Nat) : Int)).getD _ = _; rw [hN]; rfl) (by show (NS ((s : Nat) : Int)).isSome = _; rw [hN]; rfl)) rfl rfl rfl ?_
    -- R1.6 7 := laws.go:96 move
    refine WL.v (by first | exact r_move (v := .tuple _) rfl | exact r_move rfl) rfl rfl rfl ?_
    -- R1.7 14 := laws.go:96 extract
    refine WL.v (by first | exact r_extract (v := .slice _ _ _) rfl rfl | exact r_extract rfl rfl) rfl rfl rfl ?_
    -- R1.8 15 := laws.go:96 extract
    refine WL.v (by first | exact r_extract (v := .bool _) rfl rfl | exact r_extract rfl rfl) rfl rfl rfl ?_
    -- R1.9 5 := laws.go:96 assign
    refine WL.v (by first | exact r_assign (v := .slice _ _ _) rfl | exact r_assign rfl) rfl rfl rfl ?_
    -- R1.10 6 := laws.go:96 assign
    refine WL.v (by first | exact r_assign (v := .bool _) rfl | exact r_assign rfl) rfl rfl rfl ?_
    refine WL.fin hK968 (fun _ _ h => h) ?_
    refine WC.seq fun K969 hK969 => ?_
    -- region 2
    refine WC.region ?_
    -- R2.0 16 := laws.go:96 move
    refine WL.v (by first | exact r_move (v := .bool _) rfl | exact r_move rfl) rfl rfl rfl ?_
    refine WL.fin hK969 (fun _ _ h => h) ?_
    refine WC.condT rfl rfl ?_
    refine WC.seq fun K970 hK970 => ?_
    -- region 3
    refine WC.region ?_
    -- R3.0 17 := laws.go:97 move
    refine WL.v (by first | exact r_move (v := .slice _ _ _) rfl | exact r_move rfl) rfl rfl rfl ?_
    -- R3.1 4 := laws.go:97 assign
    refine WL.v (by first | exact r_assign (v := .slice _ _ _) rfl | exact r_assign rfl) rfl rfl rfl ?_
    refine WL.fin hK970 (fun _ _ h => h) ?_
    refine WC.ret1 Tryd.results30 (fun _ _ h => h) rfl ?_
    exact ⟨_, rfl, [], hv, st⟩

/-! Law 9, plainly. -/
def Torn (tear : Int) (i : Nat) (l : List (Nat × (Nat → Int))) (s : Nat) : Prop := ∃ (j : Nat) (p : Nat × (Nat → Int)), l[j]? = some p ∧ ((i + j : Nat) : Int) = tear ∧ p.1 = s
theorem Torn.uniq {tear : Int} {i s t : Nat} {l : List (Nat × (Nat → Int))} (h1 : Torn tear i l s) (h2 : Torn tear i l t) : s = t := by
  obtain ⟨j, p, a, b, rfl⟩ := h1
  obtain ⟨k, q, c, d, rfl⟩ := h2
  obtain rfl : j = k := by omega
  rw [a] at c; cases c; rfl
theorem crash_whole {keep : List Int} {tear : Int} {k s : Nat} : ∀ {l : List (Nat × (Nat → Int))} {i : Nat} {pc : Nat → Nat → Int}, ¬ Torn tear i l s →
    (bytesOf 512 (crashPc keep tear k i pc l s) = bytesOf 512 (pc s)) ∨ ∃ (j : Nat) (p : Nat × (Nat → Int)), l[j]? = some p ∧ p.1 = s ∧ bytesOf 512 (crashPc keep tear k i pc l s) = bytesOf 512 p.2
  | [], i, pc, _ => .inl rfl
  | p :: l, i, pc, hn => by
    rw [crashPc_congr]
    have hn' : ¬ Torn tear (i + 1) l s := fun ⟨j, q, a, b, c⟩ => hn ⟨j + 1, q, a, by omega, c⟩
    have go : ∀ pc' : Nat → Nat → Int, (bytesOf 512 (pc' s) = bytesOf 512 (pc s) ∨ (p.1 = s ∧ bytesOf 512 (pc' s) = bytesOf 512 p.2)) →
        (bytesOf 512 (crashPc keep tear k (i + 1) pc' l s) = bytesOf 512 (pc s)) ∨ ∃ (j : Nat) (q : Nat × (Nat → Int)), (p :: l)[j]? = some q ∧ q.1 = s ∧ bytesOf 512 (crashPc keep tear k (i + 1) pc' l s) = bytesOf 512 q.2 := fun pc' h => by
      rcases crash_whole (keep := keep) (k := k) (pc := pc') hn' with a | ⟨j, q, a, b, c⟩
      · rcases h with h | ⟨h1, h2⟩
        · exact .inl (a.trans h)
        · exact .inr ⟨0, p, rfl, h1, a.trans h2⟩
      · exact .inr ⟨j + 1, q, a, b, c⟩
    split
    · rename_i ht
      have hps : p.1 ≠ s := fun h => hn ⟨0, p, rfl, by omega, h⟩
      exact go _ (.inl (bytesOf_congr fun j _ => by unfold stP; rw [if_neg (fun h => hps h.1.symm)]))
    · split
      · by_cases hps : p.1 = s
        · exact go _ (.inr ⟨hps, bytesOf_congr fun j hj => by unfold stP; rw [if_pos ⟨hps.symm, hj⟩]⟩)
        · exact go _ (.inl (bytesOf_congr fun j _ => by unfold stP; rw [if_neg (fun h => hps h.1.symm)]))
      · exact go _ (.inl rfl)
theorem crashPc_range {keep : List Int} {tear : Int} {k : Nat} : ∀ {l : List (Nat × (Nat → Int))} {i : Nat} {pc : Nat → Nat → Int}, (∀ s j, 0 ≤ pc s j ∧ pc s j < 256) → (∀ p, p ∈ l → ∀ j, 0 ≤ p.2 j ∧ p.2 j < 256) → ∀ s j, 0 ≤ crashPc keep tear k i pc l s j ∧ crashPc keep tear k i pc l s j < 256
  | [], i, pc, h, _ => h
  | p :: l, i, pc, h, h2 => by
    rw [crashPc_congr]
    refine crashPc_range ?_ fun q hq => h2 q (List.mem_cons_of_mem _ hq)
    have hp := h2 p List.mem_cons_self
    split
    · exact stP_range h hp
    · split
      · exact stP_range h hp
      · exact h

set_option maxHeartbeats 64000000 in
theorem lookT_ok : JOK w0 31 := by
  intro R kp tear tb bw bm bb NS wv XW f K L w hwf hkpo hkpl hkpr hbk hown hXW hKL hbb st
  have hs1 := hwf.s1; have hs2 := hwf.s2
  have hpl : R.pend.length ≤ 65536 := by have := hwf.ple; have := hwf.l2; omega
  obtain ⟨A, hA⟩ : ∃ A, A = crashPc kp.bs tear (kOf tb) 0 R.pc R.pend := ⟨_, rfl⟩
  have hAr : ∀ s j, 0 ≤ A s j ∧ A s j < 256 := by rw [hA]; exact crashPc_range hwf.pcr fun p hp => (hwf.psec p hp).2
  rw [← hA] at hbb
  obtain ⟨wa, wc, wb, wo, rfl, hwc, hwa, hwrd⟩ := hown.form
  refine enter [.pointer (some ⟨bw, 0, none⟩)] Tryd.func31 rfl Tryd.ntmps31 rfl ?_
  show WC _ _ _ 84 [] [(0, .pointer (some ⟨bw, 0, none⟩))] _
  refine WC.seq fun K971 hK971 => ?_
  -- region 0
  refine WC.region ?_
  -- R0.0 2 := laws.go:219 assign
  refine WL.v (by first | exact r_assign (v := .bool _) rfl | exact r_assign rfl) rfl rfl rfl ?_
  refine WL.fin hK971 (fun _ _ h => h) ?_
  refine WC.seq fun K972 hK972 => ?_
  -- region 1
  refine WC.region ?_
  -- R1.0 3 := laws.go:220 assign
  refine WL.v (by first | exact r_assign (v := .int _ _) rfl | exact r_assign rfl) rfl rfl rfl ?_
  refine WL.fin hK972 (fun _ _ h => h) ?_
  refine WC.seq fun K973 hK973 => ?_
  refine WC.seq fun K974 hK974 => ?_
  -- region 2
  refine WC.region ?_
  -- R2.0 4 := laws.go:221 assign
  refine WL.v (by first | exact r_assign (v := .int _ _) rfl | exact r_assign rfl) rfl rfl rfl ?_
  refine WL.fin hK974 (fun _ _ h => h) ?_
  refine WC.block ?_
  refine WC.loop (ι := Nat × Nat) (fun z => [(0, .pointer (some ⟨bw, 0, none⟩)), (3, .int .i64 (z.2 : Nat)), (4, .int .i64 (z.1 : Nat))])
    (fun z w' => z.1 ≤ R.sec ∧ (z.2 = 0 ∨ (z.2 = 1 ∧ ∃ s, s < z.1 ∧ Torn tear 0 R.pend s)) ∧ S0 w0 (bkI bw bm (.slice wa R.pend.length wc) (.slice kp.a kp.bs.length kp.c) tear tb (.slice (some ⟨bb, 0, none⟩) (R.sec * 512) (R.sec * 512)) (R.sec : Nat) :: mpI bm NS :: L) w') (fun z => R.sec - z.1) (0, 0) ⟨Nat.zero_le _, .inl rfl, st⟩ ?_ ?_
  · skip
    repeat (first | exact sub_nil _ | refine sub_cons rfl rfl ?_)
  rintro ⟨s, o⟩ w ⟨hs, ho, st⟩ K1 hK1
  dsimp only at hs ho st ⊢
  by_cases hsl : ¬ s < R.sec
  · skip
    rcases ho with rfl | ⟨rfl, s', _, j, p, hj, htj, _⟩
    · skip
      by_cases ht0 : 0 ≤ tear
      · skip
        by_cases ht1 : tear < (R.pend.length : Nat)
        · skip
          refine WC.seq fun K975 hK975 => ?_
          refine WC.seq fun K976 hK976 => ?_
          -- region 3
          refine WC.region ?_
          -- R3.0 10 := laws.go:221 move
          refine WL.v (by first | exact r_move (v := .int _ _) rfl | exact r_move rfl) rfl rfl rfl ?_
          -- R3.1 11 := laws.go:221 move
          refine WL.v (by first | exact r_move (v := .pointer _) rfl | exact r_move rfl) rfl rfl rfl ?_
          -- R3.2 12 := laws.go:221 nilCheck
          refine WL.v (by exact r_nilCheck rfl) rfl rfl rfl ?_
          -- R3.3 13 := laws.go:221 fieldAddr
          refine WL.v (by exact r_field ty_fld60_4 rfl) rfl rfl rfl ?_
          -- R3.4 14 := laws.go:221 load
          refine WL.v (by exact r_load1 ty_one2 rfl (by first | assumption | exact st.c0 (by first | decide | omega) | exact st.c1 (by first | decide | omega) | exact st.c2 (by first | decide | omega) | exact st.c3 (by first | decide | omega) | exact st.c4 (by first | decide | omega) | exact st.c5 (by first | decide | omega) | exact st.c6 (by first | decide | omega) | exact st.c7 (by first | decide | omega) | exact st.c8 (by first | decide | omega))) rfl rfl rfl ?_
          -- R3.5 15 := laws.go:221 binOp
          refine WL.v (by first | exact r_lss rfl rfl (decide_eq_true (by omega)) | exact r_lss rfl rfl (decide_eq_false (by omega)) | exact r_lss rfl rfl rfl) rfl rfl rfl ?_
          refine WL.fin hK976 (fun _ _ h => h) ?_
          refine WC.condF rfl rfl ?_
          refine WC.exitF hK973 (fun _ _ h => h) ?_
          refine WC.seq fun K977 hK977 => ?_
          -- region 14 (draws)
          refine WC.quietS st ty_mixed (by kernel_rfl) fun Kq hKq => ?_
          -- R14.0 56 := laws.go:231 move
          refine QL.v (fun w st => by first | exact r_move (v := .pointer _) rfl | exact r_move rfl) rfl rfl rfl ?_
          -- R14.1 57 := laws.go:231 nilCheck
          refine QL.v (fun w st => by exact r_nilCheck rfl) rfl rfl rfl ?_
          -- R14.2 58 := laws.go:231 fieldAddr
          refine QL.v (fun w st => by exact r_field ty_fld60_2 rfl) rfl rfl rfl ?_
          -- R14.3 59 := laws.go:231 fieldAddr
          refine QL.v (fun w st => by exact r_field ty_fld31_1 rfl) rfl rfl rfl ?_
          -- R14.4 60 := laws.go:231 load
          refine QL.v (fun w st => by exact r_load1 ty_one2 rfl (by first | assumption | exact st.c0 (by first | decide | omega) | exact st.c1 (by first | decide | omega) | exact st.c2 (by first | decide | omega) | exact st.c3 (by first | decide | omega) | exact st.c4 (by first | decide | omega) | exact st.c5 (by first | decide | omega) | exact st.c6 (by first | decide | omega) | exact st.c7 (by first | decide | omega) | exact st.c8 (by first | decide | omega))) rfl rfl rfl ?_
          -- R14.5 61 := laws.go:231 binOp
          refine QL.v (fun w st => by first | exact r_geq rfl rfl (decide_eq_true (by omega)) | exact r_geq rfl rfl (decide_eq_false (by omega)) | exact r_geq rfl rfl rfl) rfl rfl rfl ?_
          -- R14.6 62 := laws.go:231 move
          refine QL.v (fun w st => by first | exact r_move (v := .bool _) rfl | exact r_move rfl) rfl rfl rfl ?_
          -- R14.7 63 := laws.go:231 move
          refine QL.v (fun w st => by first | exact r_move (v := .pointer _) rfl | exact r_move rfl) rfl rfl rfl ?_
          -- R14.8 64 := laws.go:231 nilCheck
          refine QL.v (fun w st => by exact r_nilCheck rfl) rfl rfl rfl ?_
          -- R14.9 65 := laws.go:231 fieldAddr
          refine QL.v (fun w st => by exact r_field ty_fld60_2 rfl) rfl rfl rfl ?_
          -- R14.10 66 := laws.go:231 fieldAddr
          refine QL.v (fun w st => by exact r_field ty_fld31_1 rfl) rfl rfl rfl ?_
          -- R14.11 67 := laws.go:231 load
          refine QL.v (fun w st => by exact r_load1 ty_one2 rfl (by first | assumption | exact st.c0 (by first | decide | omega) | exact st.c1 (by first | decide | omega) | exact st.c2 (by first | decide | omega) | exact st.c3 (by first | decide | omega) | exact st.c4 (by first | decide | omega) | exact st.c5 (by first | decide | omega) | exact st.c6 (by first | decide | omega) | exact st.c7 (by first | decide | omega) | exact st.c8 (by first | decide | omega))) rfl rfl rfl ?_
          -- R14.12 68 := laws.go:231 move
          refine QL.v (fun w st => by first | exact r_move (v := .pointer _) rfl | exact r_move rfl) rfl rfl rfl ?_
          -- R14.13 69 := laws.go:231 nilCheck
          refine QL.v (fun w st => by exact r_nilCheck rfl) rfl rfl rfl ?_
          -- R14.14 70 := laws.go:231 fieldAddr
          refine QL.v (fun w st => by exact r_field ty_fld60_1 rfl) rfl rfl rfl ?_
          -- R14.15 71 := laws.go:231 load
          refine QL.v (fun w st => by exact r_load1 ty_one46 rfl (by first | assumption | exact st.c0 (by first | decide | omega) | exact st.c1 (by first | decide | omega) | exact st.c2 (by first | decide | omega) | exact st.c3 (by first | decide | omega) | exact st.c4 (by first | decide | omega) | exact st.c5 (by first | decide | omega) | exact st.c6 (by first | decide | omega) | exact st.c7 (by first | decide | omega) | exact st.c8 (by first | decide | omega))) rfl rfl rfl ?_
          -- R14.16 72 := laws.go:231 call
          refine QL.v (fun w st => by exact r_len ty_usl46 rfl) rfl rfl rfl ?_
          -- R14.17 73 := laws.go:231 binOp
          refine QL.v (fun w st => by exact r_lss rfl rfl (decide_eq_true (by omega))) rfl rfl rfl ?_
          -- R14.18 74 := laws.go:231 pick
          refine QL.v (fun w st => by first | exact r_pickT (v := .bool _) rfl rfl | exact r_pickF (v := .bool _) rfl rfl) rfl rfl rfl ?_
          -- R14.19 9 := laws.go:231 assign
          refine QL.v (fun w st => by first | exact r_assign (v := .bool _) rfl | exact r_assign rfl) rfl rfl rfl ?_
          refine QL.wl hKq fun w st => ?_
          refine WL.fin hK977 (fun _ _ h => h) ?_
          refine WC.seq fun K978 hK978 => ?_
          -- region 15
          refine WC.region ?_
          -- R15.0 75 := laws.go:232 move
          refine WL.v (by first | exact r_move (v := .int _ _) rfl | exact r_move rfl) rfl rfl rfl ?_
          -- R15.1 76 := laws.go:232 binOp
          refine WL.v (by first | exact r_eql rfl rfl (decide_eq_true (by omega)) | exact r_eql rfl rfl (decide_eq_false (by omega)) | exact r_eql rfl rfl rfl) rfl rfl rfl ?_
          -- R15.2 77 := laws.go:232 move
          refine WL.v (by first | exact r_move (v := .bool _) rfl | exact r_move rfl) rfl rfl rfl ?_
          -- R15.3 78 := laws.go:232 move
          refine WL.no rfl rfl ?_
          -- R15.4 79 := laws.go:232 binOp
          refine WL.no rfl rfl ?_
          -- R15.5 80 := laws.go:232 move
          refine WL.no rfl rfl ?_
          -- R15.6 81 := laws.go:232 move
          refine WL.no rfl rfl ?_
          -- R15.7 82 := laws.go:232 pick
          refine WL.no rfl rfl ?_
          -- R15.8 83 := laws.go:232 pick
          refine WL.v (by first | exact r_pickT (v := .bool _) rfl rfl | exact r_pickF (v := .bool _) rfl rfl) rfl rfl rfl ?_
          -- R15.9 2 := laws.go:232 assign
          refine WL.v (by first | exact r_assign (v := .bool _) rfl | exact r_assign rfl) rfl rfl rfl ?_
          refine WL.fin hK978 (fun _ _ h => h) ?_
          refine WC.ret1 Tryd.results31 (fun _ _ h => h) rfl ?_
          exact ⟨_, rfl, rfl, st⟩
        · skip
          refine WC.seq fun K979 hK979 => ?_
          refine WC.seq fun K980 hK980 => ?_
          -- region 3
          refine WC.region ?_
          -- R3.0 10 := laws.go:221 move
          refine WL.v (by first | exact r_move (v := .int _ _) rfl | exact r_move rfl) rfl rfl rfl ?_
          -- R3.1 11 := laws.go:221 move
          refine WL.v (by first | exact r_move (v := .pointer _) rfl | exact r_move rfl) rfl rfl rfl ?_
          -- R3.2 12 := laws.go:221 nilCheck
          refine WL.v (by exact r_nilCheck rfl) rfl rfl rfl ?_
          -- R3.3 13 := laws.go:221 fieldAddr
          refine WL.v (by exact r_field ty_fld60_4 rfl) rfl rfl rfl ?_
          -- R3.4 14 := laws.go:221 load
          refine WL.v (by exact r_load1 ty_one2 rfl (by first | assumption | exact st.c0 (by first | decide | omega) | exact st.c1 (by first | decide | omega) | exact st.c2 (by first | decide | omega) | exact st.c3 (by first | decide | omega) | exact st.c4 (by first | decide | omega) | exact st.c5 (by first | decide | omega) | exact st.c6 (by first | decide | omega) | exact st.c7 (by first | decide | omega) | exact st.c8 (by first | decide | omega))) rfl rfl rfl ?_
          -- R3.5 15 := laws.go:221 binOp
          refine WL.v (by first | exact r_lss rfl rfl (decide_eq_true (by omega)) | exact r_lss rfl rfl (decide_eq_false (by omega)) | exact r_lss rfl rfl rfl) rfl rfl rfl ?_
          refine WL.fin hK980 (fun _ _ h => h) ?_
          refine WC.condF rfl rfl ?_
          refine WC.exitF hK973 (fun _ _ h => h) ?_
          refine WC.seq fun K981 hK981 => ?_
          -- region 14 (draws)
          refine WC.quietS st ty_mixed (by kernel_rfl) fun Kq hKq => ?_
          -- R14.0 56 := laws.go:231 move
          refine QL.v (fun w st => by first | exact r_move (v := .pointer _) rfl | exact r_move rfl) rfl rfl rfl ?_
          -- R14.1 57 := laws.go:231 nilCheck
          refine QL.v (fun w st => by exact r_nilCheck rfl) rfl rfl rfl ?_
          -- R14.2 58 := laws.go:231 fieldAddr
          refine QL.v (fun w st => by exact r_field ty_fld60_2 rfl) rfl rfl rfl ?_
          -- R14.3 59 := laws.go:231 fieldAddr
          refine QL.v (fun w st => by exact r_field ty_fld31_1 rfl) rfl rfl rfl ?_
          -- R14.4 60 := laws.go:231 load
          refine QL.v (fun w st => by exact r_load1 ty_one2 rfl (by first | assumption | exact st.c0 (by first | decide | omega) | exact st.c1 (by first | decide | omega) | exact st.c2 (by first | decide | omega) | exact st.c3 (by first | decide | omega) | exact st.c4 (by first | decide | omega) | exact st.c5 (by first | decide | omega) | exact st.c6 (by first | decide | omega) | exact st.c7 (by first | decide | omega) | exact st.c8 (by first | decide | omega))) rfl rfl rfl ?_
          -- R14.5 61 := laws.go:231 binOp
          refine QL.v (fun w st => by first | exact r_geq rfl rfl (decide_eq_true (by omega)) | exact r_geq rfl rfl (decide_eq_false (by omega)) | exact r_geq rfl rfl rfl) rfl rfl rfl ?_
          -- R14.6 62 := laws.go:231 move
          refine QL.v (fun w st => by first | exact r_move (v := .bool _) rfl | exact r_move rfl) rfl rfl rfl ?_
          -- R14.7 63 := laws.go:231 move
          refine QL.v (fun w st => by first | exact r_move (v := .pointer _) rfl | exact r_move rfl) rfl rfl rfl ?_
          -- R14.8 64 := laws.go:231 nilCheck
          refine QL.v (fun w st => by exact r_nilCheck rfl) rfl rfl rfl ?_
          -- R14.9 65 := laws.go:231 fieldAddr
          refine QL.v (fun w st => by exact r_field ty_fld60_2 rfl) rfl rfl rfl ?_
          -- R14.10 66 := laws.go:231 fieldAddr
          refine QL.v (fun w st => by exact r_field ty_fld31_1 rfl) rfl rfl rfl ?_
          -- R14.11 67 := laws.go:231 load
          refine QL.v (fun w st => by exact r_load1 ty_one2 rfl (by first | assumption | exact st.c0 (by first | decide | omega) | exact st.c1 (by first | decide | omega) | exact st.c2 (by first | decide | omega) | exact st.c3 (by first | decide | omega) | exact st.c4 (by first | decide | omega) | exact st.c5 (by first | decide | omega) | exact st.c6 (by first | decide | omega) | exact st.c7 (by first | decide | omega) | exact st.c8 (by first | decide | omega))) rfl rfl rfl ?_
          -- R14.12 68 := laws.go:231 move
          refine QL.v (fun w st => by first | exact r_move (v := .pointer _) rfl | exact r_move rfl) rfl rfl rfl ?_
          -- R14.13 69 := laws.go:231 nilCheck
          refine QL.v (fun w st => by exact r_nilCheck rfl) rfl rfl rfl ?_
          -- R14.14 70 := laws.go:231 fieldAddr
          refine QL.v (fun w st => by exact r_field ty_fld60_1 rfl) rfl rfl rfl ?_
          -- R14.15 71 := laws.go:231 load
          refine QL.v (fun w st => by exact r_load1 ty_one46 rfl (by first | assumption | exact st.c0 (by first | decide | omega) | exact st.c1 (by first | decide | omega) | exact st.c2 (by first | decide | omega) | exact st.c3 (by first | decide | omega) | exact st.c4 (by first | decide | omega) | exact st.c5 (by first | decide | omega) | exact st.c6 (by first | decide | omega) | exact st.c7 (by first | decide | omega) | exact st.c8 (by first | decide | omega))) rfl rfl rfl ?_
          -- R14.16 72 := laws.go:231 call
          refine QL.v (fun w st => by exact r_len ty_usl46 rfl) rfl rfl rfl ?_
          -- R14.17 73 := laws.go:231 binOp
          refine QL.v (fun w st => by exact r_lss rfl rfl (decide_eq_false (by omega))) rfl rfl rfl ?_
          -- R14.18 74 := laws.go:231 pick
          refine QL.v (fun w st => by first | exact r_pickT (v := .bool _) rfl rfl | exact r_pickF (v := .bool _) rfl rfl) rfl rfl rfl ?_
          -- R14.19 9 := laws.go:231 assign
          refine QL.v (fun w st => by first | exact r_assign (v := .bool _) rfl | exact r_assign rfl) rfl rfl rfl ?_
          refine QL.wl hKq fun w st => ?_
          refine WL.fin hK981 (fun _ _ h => h) ?_
          refine WC.seq fun K982 hK982 => ?_
          -- region 15
          refine WC.region ?_
          -- R15.0 75 := laws.go:232 move
          refine WL.v (by first | exact r_move (v := .int _ _) rfl | exact r_move rfl) rfl rfl rfl ?_
          -- R15.1 76 := laws.go:232 binOp
          refine WL.v (by first | exact r_eql rfl rfl (decide_eq_true (by omega)) | exact r_eql rfl rfl (decide_eq_false (by omega)) | exact r_eql rfl rfl rfl) rfl rfl rfl ?_
          -- R15.2 77 := laws.go:232 move
          refine WL.v (by first | exact r_move (v := .bool _) rfl | exact r_move rfl) rfl rfl rfl ?_
          -- R15.3 78 := laws.go:232 move
          refine WL.no rfl rfl ?_
          -- R15.4 79 := laws.go:232 binOp
          refine WL.no rfl rfl ?_
          -- R15.5 80 := laws.go:232 move
          refine WL.no rfl rfl ?_
          -- R15.6 81 := laws.go:232 move
          refine WL.no rfl rfl ?_
          -- R15.7 82 := laws.go:232 pick
          refine WL.no rfl rfl ?_
          -- R15.8 83 := laws.go:232 pick
          refine WL.v (by first | exact r_pickT (v := .bool _) rfl rfl | exact r_pickF (v := .bool _) rfl rfl) rfl rfl rfl ?_
          -- R15.9 2 := laws.go:232 assign
          refine WL.v (by first | exact r_assign (v := .bool _) rfl | exact r_assign rfl) rfl rfl rfl ?_
          refine WL.fin hK982 (fun _ _ h => h) ?_
          refine WC.ret1 Tryd.results31 (fun _ _ h => h) rfl ?_
          exact ⟨_, rfl, rfl, st⟩
      · skip
        refine WC.seq fun K983 hK983 => ?_
        refine WC.seq fun K984 hK984 => ?_
        -- region 3
        refine WC.region ?_
        -- R3.0 10 := laws.go:221 move
        refine WL.v (by first | exact r_move (v := .int _ _) rfl | exact r_move rfl) rfl rfl rfl ?_
        -- R3.1 11 := laws.go:221 move
        refine WL.v (by first | exact r_move (v := .pointer _) rfl | exact r_move rfl) rfl rfl rfl ?_
        -- R3.2 12 := laws.go:221 nilCheck
        refine WL.v (by exact r_nilCheck rfl) rfl rfl rfl ?_
        -- R3.3 13 := laws.go:221 fieldAddr
        refine WL.v (by exact r_field ty_fld60_4 rfl) rfl rfl rfl ?_
        -- R3.4 14 := laws.go:221 load
        refine WL.v (by exact r_load1 ty_one2 rfl (by first | assumption | exact st.c0 (by first | decide | omega) | exact st.c1 (by first | decide | omega) | exact st.c2 (by first | decide | omega) | exact st.c3 (by first | decide | omega) | exact st.c4 (by first | decide | omega) | exact st.c5 (by first | decide | omega) | exact st.c6 (by first | decide | omega) | exact st.c7 (by first | decide | omega) | exact st.c8 (by first | decide | omega))) rfl rfl rfl ?_
        -- R3.5 15 := laws.go:221 binOp
        refine WL.v (by first | exact r_lss rfl rfl (decide_eq_true (by omega)) | exact r_lss rfl rfl (decide_eq_false (by omega)) | exact r_lss rfl rfl rfl) rfl rfl rfl ?_
        refine WL.fin hK984 (fun _ _ h => h) ?_
        refine WC.condF rfl rfl ?_
        refine WC.exitF hK973 (fun _ _ h => h) ?_
        refine WC.seq fun K985 hK985 => ?_
        -- region 14 (draws)
        refine WC.quietS st ty_mixed (by kernel_rfl) fun Kq hKq => ?_
        -- R14.0 56 := laws.go:231 move
        refine QL.v (fun w st => by first | exact r_move (v := .pointer _) rfl | exact r_move rfl) rfl rfl rfl ?_
        -- R14.1 57 := laws.go:231 nilCheck
        refine QL.v (fun w st => by exact r_nilCheck rfl) rfl rfl rfl ?_
        -- R14.2 58 := laws.go:231 fieldAddr
        refine QL.v (fun w st => by exact r_field ty_fld60_2 rfl) rfl rfl rfl ?_
        -- R14.3 59 := laws.go:231 fieldAddr
        refine QL.v (fun w st => by exact r_field ty_fld31_1 rfl) rfl rfl rfl ?_
        -- R14.4 60 := laws.go:231 load
        refine QL.v (fun w st => by exact r_load1 ty_one2 rfl (by first | assumption | exact st.c0 (by first | decide | omega) | exact st.c1 (by first | decide | omega) | exact st.c2 (by first | decide | omega) | exact st.c3 (by first | decide | omega) | exact st.c4 (by first | decide | omega) | exact st.c5 (by first | decide | omega) | exact st.c6 (by first | decide | omega) | exact st.c7 (by first | decide | omega) | exact st.c8 (by first | decide | omega))) rfl rfl rfl ?_
        -- R14.5 61 := laws.go:231 binOp
        refine QL.v (fun w st => by first | exact r_geq rfl rfl (decide_eq_true (by omega)) | exact r_geq rfl rfl (decide_eq_false (by omega)) | exact r_geq rfl rfl rfl) rfl rfl rfl ?_
        -- R14.6 62 := laws.go:231 move
        refine QL.v (fun w st => by first | exact r_move (v := .bool _) rfl | exact r_move rfl) rfl rfl rfl ?_
        -- R14.7 63 := laws.go:231 move
        refine QL.no rfl rfl ?_
        -- R14.8 64 := laws.go:231 nilCheck
        refine QL.no rfl rfl ?_
        -- R14.9 65 := laws.go:231 fieldAddr
        refine QL.no rfl rfl ?_
        -- R14.10 66 := laws.go:231 fieldAddr
        refine QL.no rfl rfl ?_
        -- R14.11 67 := laws.go:231 load
        refine QL.no rfl rfl ?_
        -- R14.12 68 := laws.go:231 move
        refine QL.no rfl rfl ?_
        -- R14.13 69 := laws.go:231 nilCheck
        refine QL.no rfl rfl ?_
        -- R14.14 70 := laws.go:231 fieldAddr
        refine QL.no rfl rfl ?_
        -- R14.15 71 := laws.go:231 load
        refine QL.no rfl rfl ?_
        -- R14.16 72 := laws.go:231 call
        refine QL.no rfl rfl ?_
        -- R14.17 73 := laws.go:231 binOp
        refine QL.no rfl rfl ?_
        -- R14.18 74 := laws.go:231 pick
        refine QL.v (fun w st => by first | exact r_pickT (v := .bool _) rfl rfl | exact r_pickF (v := .bool _) rfl rfl) rfl rfl rfl ?_
        -- R14.19 9 := laws.go:231 assign
        refine QL.v (fun w st => by first | exact r_assign (v := .bool _) rfl | exact r_assign rfl) rfl rfl rfl ?_
        refine QL.wl hKq fun w st => ?_
        refine WL.fin hK985 (fun _ _ h => h) ?_
        refine WC.seq fun K986 hK986 => ?_
        -- region 15
        refine WC.region ?_
        -- R15.0 75 := laws.go:232 move
        refine WL.v (by first | exact r_move (v := .int _ _) rfl | exact r_move rfl) rfl rfl rfl ?_
        -- R15.1 76 := laws.go:232 binOp
        refine WL.v (by first | exact r_eql rfl rfl (decide_eq_true (by omega)) | exact r_eql rfl rfl (decide_eq_false (by omega)) | exact r_eql rfl rfl rfl) rfl rfl rfl ?_
        -- R15.2 77 := laws.go:232 move
        refine WL.v (by first | exact r_move (v := .bool _) rfl | exact r_move rfl) rfl rfl rfl ?_
        -- R15.3 78 := laws.go:232 move
        refine WL.no rfl rfl ?_
        -- R15.4 79 := laws.go:232 binOp
        refine WL.no rfl rfl ?_
        -- R15.5 80 := laws.go:232 move
        refine WL.no rfl rfl ?_
        -- R15.6 81 := laws.go:232 move
        refine WL.no rfl rfl ?_
        -- R15.7 82 := laws.go:232 pick
        refine WL.no rfl rfl ?_
        -- R15.8 83 := laws.go:232 pick
        refine WL.v (by first | exact r_pickT (v := .bool _) rfl rfl | exact r_pickF (v := .bool _) rfl rfl) rfl rfl rfl ?_
        -- R15.9 2 := laws.go:232 assign
        refine WL.v (by first | exact r_assign (v := .bool _) rfl | exact r_assign rfl) rfl rfl rfl ?_
        refine WL.fin hK986 (fun _ _ h => h) ?_
        refine WC.ret1 Tryd.results31 (fun _ _ h => h) rfl ?_
        exact ⟨_, rfl, rfl, st⟩
    · have hjl : j < R.pend.length := (List.getElem?_eq_some_iff.1 hj).1
      refine WC.seq fun K987 hK987 => ?_
      refine WC.seq fun K988 hK988 => ?_
      -- region 3
      refine WC.region ?_
      -- R3.0 10 := laws.go:221 move
      refine WL.v (by first | exact r_move (v := .int _ _) rfl | exact r_move rfl) rfl rfl rfl ?_
      -- R3.1 11 := laws.go:221 move
      refine WL.v (by first | exact r_move (v := .pointer _) rfl | exact r_move rfl) rfl rfl rfl ?_
      -- R3.2 12 := laws.go:221 nilCheck
      refine WL.v (by exact r_nilCheck rfl) rfl rfl rfl ?_
      -- R3.3 13 := laws.go:221 fieldAddr
      refine WL.v (by exact r_field ty_fld60_4 rfl) rfl rfl rfl ?_
      -- R3.4 14 := laws.go:221 load
      refine WL.v (by exact r_load1 ty_one2 rfl (by first | assumption | exact st.c0 (by first | decide | omega) | exact st.c1 (by first | decide | omega) | exact st.c2 (by first | decide | omega) | exact st.c3 (by first | decide | omega) | exact st.c4 (by first | decide | omega) | exact st.c5 (by first | decide | omega) | exact st.c6 (by first | decide | omega) | exact st.c7 (by first | decide | omega) | exact st.c8 (by first | decide | omega))) rfl rfl rfl ?_
      -- R3.5 15 := laws.go:221 binOp
      refine WL.v (by first | exact r_lss rfl rfl (decide_eq_true (by omega)) | exact r_lss rfl rfl (decide_eq_false (by omega)) | exact r_lss rfl rfl rfl) rfl rfl rfl ?_
      refine WL.fin hK988 (fun _ _ h => h) ?_
      refine WC.condF rfl rfl ?_
      refine WC.exitF hK973 (fun _ _ h => h) ?_
      refine WC.seq fun K989 hK989 => ?_
      -- region 14 (draws)
      refine WC.quietS st ty_mixed (by kernel_rfl) fun Kq hKq => ?_
      -- R14.0 56 := laws.go:231 move
      refine QL.v (fun w st => by first | exact r_move (v := .pointer _) rfl | exact r_move rfl) rfl rfl rfl ?_
      -- R14.1 57 := laws.go:231 nilCheck
      refine QL.v (fun w st => by exact r_nilCheck rfl) rfl rfl rfl ?_
      -- R14.2 58 := laws.go:231 fieldAddr
      refine QL.v (fun w st => by exact r_field ty_fld60_2 rfl) rfl rfl rfl ?_
      -- R14.3 59 := laws.go:231 fieldAddr
      refine QL.v (fun w st => by exact r_field ty_fld31_1 rfl) rfl rfl rfl ?_
      -- R14.4 60 := laws.go:231 load
      refine QL.v (fun w st => by exact r_load1 ty_one2 rfl (by first | assumption | exact st.c0 (by first | decide | omega) | exact st.c1 (by first | decide | omega) | exact st.c2 (by first | decide | omega) | exact st.c3 (by first | decide | omega) | exact st.c4 (by first | decide | omega) | exact st.c5 (by first | decide | omega) | exact st.c6 (by first | decide | omega) | exact st.c7 (by first | decide | omega) | exact st.c8 (by first | decide | omega))) rfl rfl rfl ?_
      -- R14.5 61 := laws.go:231 binOp
      refine QL.v (fun w st => by first | exact r_geq rfl rfl (decide_eq_true (by omega)) | exact r_geq rfl rfl (decide_eq_false (by omega)) | exact r_geq rfl rfl rfl) rfl rfl rfl ?_
      -- R14.6 62 := laws.go:231 move
      refine QL.v (fun w st => by first | exact r_move (v := .bool _) rfl | exact r_move rfl) rfl rfl rfl ?_
      -- R14.7 63 := laws.go:231 move
      refine QL.v (fun w st => by first | exact r_move (v := .pointer _) rfl | exact r_move rfl) rfl rfl rfl ?_
      -- R14.8 64 := laws.go:231 nilCheck
      refine QL.v (fun w st => by exact r_nilCheck rfl) rfl rfl rfl ?_
      -- R14.9 65 := laws.go:231 fieldAddr
      refine QL.v (fun w st => by exact r_field ty_fld60_2 rfl) rfl rfl rfl ?_
      -- R14.10 66 := laws.go:231 fieldAddr
      refine QL.v (fun w st => by exact r_field ty_fld31_1 rfl) rfl rfl rfl ?_
      -- R14.11 67 := laws.go:231 load
      refine QL.v (fun w st => by exact r_load1 ty_one2 rfl (by first | assumption | exact st.c0 (by first | decide | omega) | exact st.c1 (by first | decide | omega) | exact st.c2 (by first | decide | omega) | exact st.c3 (by first | decide | omega) | exact st.c4 (by first | decide | omega) | exact st.c5 (by first | decide | omega) | exact st.c6 (by first | decide | omega) | exact st.c7 (by first | decide | omega) | exact st.c8 (by first | decide | omega))) rfl rfl rfl ?_
      -- R14.12 68 := laws.go:231 move
      refine QL.v (fun w st => by first | exact r_move (v := .pointer _) rfl | exact r_move rfl) rfl rfl rfl ?_
      -- R14.13 69 := laws.go:231 nilCheck
      refine QL.v (fun w st => by exact r_nilCheck rfl) rfl rfl rfl ?_
      -- R14.14 70 := laws.go:231 fieldAddr
      refine QL.v (fun w st => by exact r_field ty_fld60_1 rfl) rfl rfl rfl ?_
      -- R14.15 71 := laws.go:231 load
      refine QL.v (fun w st => by exact r_load1 ty_one46 rfl (by first | assumption | exact st.c0 (by first | decide | omega) | exact st.c1 (by first | decide | omega) | exact st.c2 (by first | decide | omega) | exact st.c3 (by first | decide | omega) | exact st.c4 (by first | decide | omega) | exact st.c5 (by first | decide | omega) | exact st.c6 (by first | decide | omega) | exact st.c7 (by first | decide | omega) | exact st.c8 (by first | decide | omega))) rfl rfl rfl ?_
      -- R14.16 72 := laws.go:231 call
      refine QL.v (fun w st => by exact r_len ty_usl46 rfl) rfl rfl rfl ?_
      -- R14.17 73 := laws.go:231 binOp
      refine QL.v (fun w st => by exact r_lss rfl rfl (decide_eq_true (by omega))) rfl rfl rfl ?_
      -- R14.18 74 := laws.go:231 pick
      refine QL.v (fun w st => by first | exact r_pickT (v := .bool _) rfl rfl | exact r_pickF (v := .bool _) rfl rfl) rfl rfl rfl ?_
      -- R14.19 9 := laws.go:231 assign
      refine QL.v (fun w st => by first | exact r_assign (v := .bool _) rfl | exact r_assign rfl) rfl rfl rfl ?_
      refine QL.wl hKq fun w st => ?_
      refine WL.fin hK989 (fun _ _ h => h) ?_
      refine WC.seq fun K990 hK990 => ?_
      -- region 15
      refine WC.region ?_
      -- R15.0 75 := laws.go:232 move
      refine WL.v (by first | exact r_move (v := .int _ _) rfl | exact r_move rfl) rfl rfl rfl ?_
      -- R15.1 76 := laws.go:232 binOp
      refine WL.v (by first | exact r_eql rfl rfl (decide_eq_true (by omega)) | exact r_eql rfl rfl (decide_eq_false (by omega)) | exact r_eql rfl rfl rfl) rfl rfl rfl ?_
      -- R15.2 77 := laws.go:232 move
      refine WL.v (by first | exact r_move (v := .bool _) rfl | exact r_move rfl) rfl rfl rfl ?_
      -- R15.3 78 := laws.go:232 move
      refine WL.v (by first | exact r_move (v := .int _ _) rfl | exact r_move rfl) rfl rfl rfl ?_
      -- R15.4 79 := laws.go:232 binOp
      refine WL.v (by first | exact r_eql rfl rfl (decide_eq_true (by omega)) | exact r_eql rfl rfl (decide_eq_false (by omega)) | exact r_eql rfl rfl rfl) rfl rfl rfl ?_
      -- R15.5 80 := laws.go:232 move
      refine WL.v (by first | exact r_move (v := .bool _) rfl | exact r_move rfl) rfl rfl rfl ?_
      -- R15.6 81 := laws.go:232 move
      refine WL.v (by first | exact r_move (v := .bool _) rfl | exact r_move rfl) rfl rfl rfl ?_
      -- R15.7 82 := laws.go:232 pick
      refine WL.v (by first | exact r_pickT (v := .bool _) rfl rfl | exact r_pickF (v := .bool _) rfl rfl) rfl rfl rfl ?_
      -- R15.8 83 := laws.go:232 pick
      refine WL.v (by first | exact r_pickT (v := .bool _) rfl rfl | exact r_pickF (v := .bool _) rfl rfl) rfl rfl rfl ?_
      -- R15.9 2 := laws.go:232 assign
      refine WL.v (by first | exact r_assign (v := .bool _) rfl | exact r_assign rfl) rfl rfl rfl ?_
      refine WL.fin hK990 (fun _ _ h => h) ?_
      refine WC.ret1 Tryd.results31 (fun _ _ h => h) rfl ?_
      exact ⟨_, rfl, rfl, st⟩
  have hsl : s < R.sec := by omega
  have hgot : Sees w0 [iI bb (R.sec * 512) (img A)] (.slice (some ⟨bb, s * 512, none⟩) 512 (R.sec * 512 - s * 512)) (bytesOf 512 (A s)) := by
    have e : bytesOf 512 (A s) = bytesOf 512 (fun k => img A (s * 512 + k)) := bytesOf_congr fun k hk => by
      show _ = A ((s * 512 + k) / 512) ((s * 512 + k) % 512)
      rw [show (s * 512 + k) / 512 = s by omega, show (s * 512 + k) % 512 = k by omega]
    rw [e]
    exact Sees.part (img_range hAr) (by omega) (by omega)
  refine WC.seq fun K991 hK991 => ?_
  refine WC.seq fun K992 hK992 => ?_
  -- region 3
  refine WC.region ?_
  -- R3.0 10 := laws.go:221 move
  refine WL.v (by first | exact r_move (v := .int _ _) rfl | exact r_move rfl) rfl rfl rfl ?_
  -- R3.1 11 := laws.go:221 move
  refine WL.v (by first | exact r_move (v := .pointer _) rfl | exact r_move rfl) rfl rfl rfl ?_
  -- R3.2 12 := laws.go:221 nilCheck
  refine WL.v (by exact r_nilCheck rfl) rfl rfl rfl ?_
  -- R3.3 13 := laws.go:221 fieldAddr
  refine WL.v (by exact r_field ty_fld60_4 rfl) rfl rfl rfl ?_
  -- R3.4 14 := laws.go:221 load
  refine WL.v (by exact r_load1 ty_one2 rfl (by first | assumption | exact st.c0 (by first | decide | omega) | exact st.c1 (by first | decide | omega) | exact st.c2 (by first | decide | omega) | exact st.c3 (by first | decide | omega) | exact st.c4 (by first | decide | omega) | exact st.c5 (by first | decide | omega) | exact st.c6 (by first | decide | omega) | exact st.c7 (by first | decide | omega) | exact st.c8 (by first | decide | omega))) rfl rfl rfl ?_
  -- R3.5 15 := laws.go:221 binOp
  refine WL.v (by first | exact r_lss rfl rfl (decide_eq_true (by omega)) | exact r_lss rfl rfl (decide_eq_false (by omega)) | exact r_lss rfl rfl rfl) rfl rfl rfl ?_
  refine WL.fin hK992 (fun _ _ h => h) ?_
  refine WC.condT rfl rfl ?_
  refine WC.skipF hK991 (fun _ _ h => h) ?_
  refine WC.seq fun K993 hK993 => ?_
  refine WC.block ?_
  refine WC.seq fun K994 hK994 => ?_
  -- region 5
  refine WC.region ?_
  -- R5.0 18 := laws.go:222 move
  refine WL.v (by first | exact r_move (v := .pointer _) rfl | exact r_move rfl) rfl rfl rfl ?_
  -- R5.1 19 := laws.go:222 nilCheck
  refine WL.v (by exact r_nilCheck rfl) rfl rfl rfl ?_
  -- R5.2 20 := laws.go:222 fieldAddr
  refine WL.v (by exact r_field ty_fld60_3 rfl) rfl rfl rfl ?_
  -- R5.3 21 := laws.go:222 load
  refine WL.v (by exact r_load1 ty_one29 rfl (by first | assumption | exact st.c0 (by first | decide | omega) | exact st.c1 (by first | decide | omega) | exact st.c2 (by first | decide | omega) | exact st.c3 (by first | decide | omega) | exact st.c4 (by first | decide | omega) | exact st.c5 (by first | decide | omega) | exact st.c6 (by first | decide | omega) | exact st.c7 (by first | decide | omega) | exact st.c8 (by first | decide | omega))) rfl rfl rfl ?_
  -- R5.4 22 := laws.go:222 move
  refine WL.v (by first | exact r_move (v := .int _ _) rfl | exact r_move rfl) rfl rfl rfl ?_
  -- R5.5 23 := laws.go:222 call
  refine WL.call (r_call ty_call23 rfl) rfl rfl rfl (cut_ok (s := s) (by omega) (Nat.le_refl _) (by omega) st) ?_
  rintro _ w ⟨rfl, st⟩
  rw [Nat.zero_add]
  -- R5.6 5 := laws.go:222 assign
  refine WL.v (by first | exact r_assign (v := .slice _ _ _) rfl | exact r_assign rfl) rfl rfl rfl ?_
  refine WL.fin hK994 (fun _ _ h => h) ?_
  refine WC.seq fun K995 hK995 => ?_
  -- region 6
  refine WC.region ?_
  -- R6.0 24 := laws.go:223 move
  refine WL.v (by first | exact r_move (v := .slice _ _ _) rfl | exact r_move rfl) rfl rfl rfl ?_
  -- R6.1 25 := laws.go:223 move
  refine WL.v (by first | exact r_move (v := .pointer _) rfl | exact r_move rfl) rfl rfl rfl ?_
  -- R6.2 26 := laws.go:223 move
  refine WL.v (by first | exact r_move (v := .int _ _) rfl | exact r_move rfl) rfl rfl rfl ?_
  -- R6.3 27 := laws.go:223 call
  refine WL.call (r_call ty_call30 rfl) rfl rfl rfl (before_ok hbk hsl hs2 st) ?_
  rintro v27 w ⟨X, hsv, st⟩
  obtain ⟨va, vc, rfl⟩ := hsv.sl
  -- R6.4 28 := laws.go:223 call
  refine WL.call (r_call ty_call22 rfl) rfl rfl rfl (equal_ok hgot hsv (by intro x hx; simp only [List.mem_singleton] at hx; subst hx; exact List.mem_append_right _ (List.mem_cons_of_mem _ (List.mem_cons_of_mem _ hbb))) (by intro x hx; rcases List.mem_append.1 hx with hx | hx; exact List.mem_append_left _ hx; exact List.mem_append_right _ (List.mem_cons_of_mem _ (List.mem_cons_of_mem _ (hKL hx)))) st) ?_
  rintro _ w ⟨r, rfl, hr, st⟩
  have st : S0 w0 (bkI bw bm (.slice wa R.pend.length wc) (.slice kp.a kp.bs.length kp.c) tear tb (.slice (some ⟨bb, 0, none⟩) (R.sec * 512) (R.sec * 512)) (R.sec : Nat) :: mpI bm NS :: L) w := st_dropL st
  -- R6.5 6 := laws.go:223 assign
  refine WL.v (by first | exact r_assign (v := .bool _) rfl | exact r_assign rfl) rfl rfl rfl ?_
  refine WL.fin hK995 (fun _ _ h => h) ?_
  refine WC.seq fun K996 hK996 => ?_
  refine WC.seq fun K997 hK997 => ?_
  -- region 7
  refine WC.region ?_
  -- R7.0 29 := laws.go:224 move
  refine WL.v (by first | exact r_move (v := .pointer _) rfl | exact r_move rfl) rfl rfl rfl ?_
  -- R7.1 30 := laws.go:224 nilCheck
  refine WL.v (by exact r_nilCheck rfl) rfl rfl rfl ?_
  -- R7.2 31 := laws.go:224 fieldAddr
  refine WL.v (by exact r_field ty_fld60_1 rfl) rfl rfl rfl ?_
  -- R7.3 32 := laws.go:224 load
  refine WL.v (by exact r_load1 ty_one46 rfl (by first | assumption | exact st.c0 (by first | decide | omega) | exact st.c1 (by first | decide | omega) | exact st.c2 (by first | decide | omega) | exact st.c3 (by first | decide | omega) | exact st.c4 (by first | decide | omega) | exact st.c5 (by first | decide | omega) | exact st.c6 (by first | decide | omega) | exact st.c7 (by first | decide | omega) | exact st.c8 (by first | decide | omega))) rfl rfl rfl ?_
  -- R7.4 33 := laws.go:224 call
  refine WL.v (by exact r_len ty_usl46 rfl) rfl rfl rfl ?_
  -- R7.5 34 := laws.go:224 move
  refine WL.v (by first | exact r_move (v := .int _ _) rfl | exact r_move rfl) rfl rfl rfl ?_
  refine WL.fin hK997 (fun _ _ h => h) ?_
  refine WC.block ?_
  refine WC.loop (ι := Nat × Bool) (fun z => [(0, .pointer (some ⟨bw, 0, none⟩)), (3, .int .i64 (o : Nat)), (4, .int .i64 (s : Nat)), (5, .slice (some ⟨bb, s * 512, none⟩) 512 (R.sec * 512 - s * 512)), (6, .bool z.2), (32, .slice wa R.pend.length wc), (33, .int .i64 (R.pend.length : Nat)), (34, .int .i64 (z.1 : Nat))])
    (fun z w' => z.1 ≤ R.pend.length ∧ (bytesOf 512 (A s) = bytesOf 512 (R.pc s) → z.2 = true) ∧ (∀ j p, j < z.1 → R.pend[j]? = some p → p.1 = s → bytesOf 512 (A s) = bytesOf 512 p.2 → z.2 = true) ∧ S0 w0 (bkI bw bm (.slice wa R.pend.length wc) (.slice kp.a kp.bs.length kp.c) tear tb (.slice (some ⟨bb, 0, none⟩) (R.sec * 512) (R.sec * 512)) (R.sec : Nat) :: mpI bm NS :: L) w') (fun z => R.pend.length - z.1) (0, r) ⟨Nat.zero_le _, hr, fun j p hj => absurd hj (Nat.not_lt_zero _), st⟩ ?_ ?_
  · skip
    repeat (first | exact sub_nil _ | refine sub_cons rfl rfl ?_)
  rintro ⟨j, wh⟩ w ⟨hj, hw1, hw2, st⟩ K2 hK2
  dsimp only at hj hw1 hw2 st ⊢
  by_cases hjl : ¬ j < R.pend.length
  · rcases wh with _ | _
    · have htn : Torn tear 0 R.pend s := Classical.byContradiction fun hn => by
        have hc := crash_whole (keep := kp.bs) (k := kOf tb) (pc := R.pc) hn
        rw [← hA] at hc
        rcases hc with a | ⟨j', p, a, b, c⟩
        · cases hw1 a
        · cases hw2 j' p (by have := (List.getElem?_eq_some_iff.1 a).1; omega) a b c
      have ho0 : o = 0 := by
        rcases ho with h | ⟨_, s', hs', ht'⟩
        · exact h
        · have := htn.uniq ht'; omega
      subst ho0
      refine WC.seq fun K998 hK998 => ?_
      -- region 8
      refine WC.region ?_
      -- R8.0 35 := laws.go:224 binOp
      refine WL.v (by first | exact r_lss rfl rfl (decide_eq_true (by omega)) | exact r_lss rfl rfl (decide_eq_false (by omega)) | exact r_lss rfl rfl rfl) rfl rfl rfl ?_
      refine WL.fin hK998 (fun _ _ h => h) ?_
      refine WC.seq fun K999 hK999 => ?_
      refine WC.condF rfl rfl ?_
      refine WC.exitF hK996 (fun _ _ h => h) ?_
      refine WC.seq fun K1000 hK1000 => ?_
      -- region 12
      refine WC.region ?_
      -- R12.0 52 := laws.go:227 move
      refine WL.v (by first | exact r_move (v := .bool _) rfl | exact r_move rfl) rfl rfl rfl ?_
      -- R12.1 53 := laws.go:227 unOp
      refine WL.v (by first | exact r_notT rfl | exact r_notF rfl | exact r_not rfl) rfl rfl rfl ?_
      refine WL.fin hK1000 (fun _ _ h => h) ?_
      refine WC.condT rfl rfl ?_
      -- region 13
      refine WC.region ?_
      -- R13.0 54 := laws.go:228 move
      refine WL.v (by first | exact r_move (v := .int _ _) rfl | exact r_move rfl) rfl rfl rfl ?_
      -- R13.1 55 := laws.go:228 binOp
      refine WL.v (by first | exact r_add rfl rfl (wi64 (by omega) (by omega)) | exact r_add rfl rfl rfl) rfl rfl rfl ?_
      -- R13.2 3 := laws.go:228 assign
      refine WL.v (by first | exact r_assign (v := .int _ _) rfl | exact r_assign rfl) rfl rfl rfl ?_
      refine WL.fin hK993 (fun _ _ h => h) ?_
      -- region 4
      refine WC.region ?_
      -- R4.0 16 := laws.go:221 move
      refine WL.v (by first | exact r_move (v := .int _ _) rfl | exact r_move rfl) rfl rfl rfl ?_
      -- R4.1 17 := laws.go:221 binOp
      refine WL.v (by exact r_add (r := ((s + 1 : Nat) : Int)) rfl rfl ((wi64 (by omega) (by omega)).trans (by omega))) rfl rfl rfl ?_
      -- R4.2 4 := laws.go:221 assign
      refine WL.v (by first | exact r_assign (v := .int _ _) rfl | exact r_assign rfl) rfl rfl rfl ?_
      refine WL.next hK1 (fun _ _ h => h) (s + 1, 1) ⟨by show s + 1 ≤ R.sec; omega, .inr ⟨rfl, s, Nat.lt_succ_self _, htn⟩, st⟩ (by show _ - (s + 1) < _ - s; omega) (by repeat (first | exact sub_nil _ | refine sub_cons rfl rfl ?_))
    · skip
      refine WC.seq fun K1001 hK1001 => ?_
      -- region 8
      refine WC.region ?_
      -- R8.0 35 := laws.go:224 binOp
      refine WL.v (by first | exact r_lss rfl rfl (decide_eq_true (by omega)) | exact r_lss rfl rfl (decide_eq_false (by omega)) | exact r_lss rfl rfl rfl) rfl rfl rfl ?_
      refine WL.fin hK1001 (fun _ _ h => h) ?_
      refine WC.seq fun K1002 hK1002 => ?_
      refine WC.condF rfl rfl ?_
      refine WC.exitF hK996 (fun _ _ h => h) ?_
      refine WC.seq fun K1003 hK1003 => ?_
      -- region 12
      refine WC.region ?_
      -- R12.0 52 := laws.go:227 move
      refine WL.v (by first | exact r_move (v := .bool _) rfl | exact r_move rfl) rfl rfl rfl ?_
      -- R12.1 53 := laws.go:227 unOp
      refine WL.v (by first | exact r_notT rfl | exact r_notF rfl | exact r_not rfl) rfl rfl rfl ?_
      refine WL.fin hK1003 (fun _ _ h => h) ?_
      refine WC.condF rfl rfl ?_
      refine WC.skipF hK993 (fun _ _ h => h) ?_
      -- region 4
      refine WC.region ?_
      -- R4.0 16 := laws.go:221 move
      refine WL.v (by first | exact r_move (v := .int _ _) rfl | exact r_move rfl) rfl rfl rfl ?_
      -- R4.1 17 := laws.go:221 binOp
      refine WL.v (by exact r_add (r := ((s + 1 : Nat) : Int)) rfl rfl ((wi64 (by omega) (by omega)).trans (by omega))) rfl rfl rfl ?_
      -- R4.2 4 := laws.go:221 assign
      refine WL.v (by first | exact r_assign (v := .int _ _) rfl | exact r_assign rfl) rfl rfl rfl ?_
      refine WL.next hK1 (fun _ _ h => h) (s + 1, o) ⟨by show s + 1 ≤ R.sec; omega, by rcases ho with h | ⟨h, s', hs', ht'⟩; exact .inl h; exact .inr ⟨h, s', Nat.lt_succ_of_lt hs', ht'⟩, st⟩ (by show _ - (s + 1) < _ - s; omega) (by repeat (first | exact sub_nil _ | refine sub_cons rfl rfl ?_))
  have hjl : j < R.pend.length := by omega
  obtain rfl := hwa (by omega)
  obtain ⟨p, hp⟩ : ∃ p, R.pend[j]? = some p := ⟨_, List.getElem?_eq_getElem hjl⟩
  obtain ⟨hp0, hp1⟩ := hbk.wt j p hp
  have hps := (hwf.psec p (List.mem_of_getElem? hp)).1
  obtain ⟨ga, gc, hgv⟩ := hp1.sl
  have g0 := hwrd st (fun x hx => List.mem_cons_of_mem _ (List.mem_cons_of_mem _ (hXW hx))) (j * 2) (by omega)
  have g1 := hwrd st (fun x hx => List.mem_cons_of_mem _ (List.mem_cons_of_mem _ (hXW hx))) (j * 2 + 1) (by omega)
  rw [hp0] at g0
  rw [hgv] at g1 hp1
  rcases wh with _ | _
  rotate_left
  · skip
    refine WC.seq fun K1004 hK1004 => ?_
    -- region 8
    refine WC.region ?_
    -- R8.0 35 := laws.go:224 binOp
    refine WL.v (by first | exact r_lss rfl rfl (decide_eq_true (by omega)) | exact r_lss rfl rfl (decide_eq_false (by omega)) | exact r_lss rfl rfl rfl) rfl rfl rfl ?_
    refine WL.fin hK1004 (fun _ _ h => h) ?_
    refine WC.seq fun K1005 hK1005 => ?_
    refine WC.condT rfl rfl ?_
    refine WC.skipF hK1005 (fun _ _ h => h) ?_
    refine WC.seq fun K1006 hK1006 => ?_
    refine WC.block ?_
    refine WC.seq fun K1007 hK1007 => ?_
    -- region 9
    refine WC.region ?_
    -- R9.0 36 := laws.go:224 indexAddr
    refine WL.v (by exact r_indexS (j := j) ty_sl46 rfl rfl rfl hjl) rfl rfl rfl ?_
    -- R9.1 37 := laws.go:224 load
    refine WL.v (v := .agg #[.int .i64 (p.1 : Nat), .slice ga (bytesOf 512 p.2).length gc]) (by exact r_loadL (vs := [_, _]) ty_agg63 rfl ⟨g0, g1, trivial⟩) rfl rfl rfl ?_
    -- R9.2 8 := laws.go:224 alloc
    refine WL.alloc (m := 2) st ty_zero63 rfl rfl rfl ?_
    intro b8 w st
    -- R9.3 None := laws.go:224 store
    first | refine WL.storeW (vs := [_, _]) st ty_agg63 rfl rfl rfl rfl rfl rfl ?_ | refine WL.storeL (vs := [_, _]) st ty_agg63 rfl rfl rfl rfl (by first | decide | omega) rfl rfl ?_ | refine WL.storeW (vs := [_, _]) st.front1 ty_agg63 rfl rfl rfl rfl rfl rfl ?_ | refine WL.storeL (vs := [_, _]) st.front1 ty_agg63 rfl rfl rfl rfl (by first | decide | omega) rfl rfl ?_ | refine WL.storeW (vs := [_, _]) st.front2 ty_agg63 rfl rfl rfl rfl rfl rfl ?_ | refine WL.storeL (vs := [_, _]) st.front2 ty_agg63 rfl rfl rfl rfl (by first | decide | omega) rfl rfl ?_ | refine WL.storeW (vs := [_, _]) st.front3 ty_agg63 rfl rfl rfl rfl rfl rfl ?_ | refine WL.storeL (vs := [_, _]) st.front3 ty_agg63 rfl rfl rfl rfl (by first | decide | omega) rfl rfl ?_ | refine WL.storeW (vs := [_, _]) st.front4 ty_agg63 rfl rfl rfl rfl rfl rfl ?_ | refine WL.storeL (vs := [_, _]) st.front4 ty_agg63 rfl rfl rfl rfl (by first | decide | omega) rfl rfl ?_ | refine WL.storeW (vs := [_, _]) st.front5 ty_agg63 rfl rfl rfl rfl rfl rfl ?_ | refine WL.storeL (vs := [_, _]) st.front5 ty_agg63 rfl rfl rfl rfl (by first | decide | omega) rfl rfl ?_ | refine WL.storeW (vs := [_, _]) st.front6 ty_agg63 rfl rfl rfl rfl rfl rfl ?_ | refine WL.storeL (vs := [_, _]) st.front6 ty_agg63 rfl rfl rfl rfl (by first | decide | omega) rfl rfl ?_ | refine WL.storeW (vs := [_, _]) st.front7 ty_agg63 rfl rfl rfl rfl rfl rfl ?_ | refine WL.storeL (vs := [_, _]) st.front7 ty_agg63 rfl rfl rfl rfl (by first | decide | omega) rfl rfl ?_ | refine WL.storeW (vs := [_, _]) st.front8 ty_agg63 rfl rfl rfl rfl rfl rfl ?_ | refine WL.storeL (vs := [_, _]) st.front8 ty_agg63 rfl rfl rfl rfl (by first | decide | omega) rfl rfl ?_
    intro w st
    refine WL.fin hK1007 (fun _ _ h => h) ?_
    -- region 10
    refine WC.region ?_
    -- R10.0 38 := laws.go:225 move
    refine WL.v (by first | exact r_move (v := .bool _) rfl | exact r_move rfl) rfl rfl rfl ?_
    -- R10.1 39 := laws.go:225 move
    refine WL.v (by first | exact r_move (v := .bool _) rfl | exact r_move rfl) rfl rfl rfl ?_
    -- R10.2 40 := laws.go:225 fieldAddr
    refine WL.no rfl rfl ?_
    -- R10.3 41 := laws.go:225 load
    refine WL.no rfl rfl ?_
    -- R10.4 42 := laws.go:225 move
    refine WL.no rfl rfl ?_
    -- R10.5 43 := laws.go:225 binOp
    refine WL.no rfl rfl ?_
    -- R10.6 44 := laws.go:225 move
    refine WL.no rfl rfl ?_
    -- R10.7 45 := laws.go:225 move
    refine WL.no rfl rfl ?_
    -- R10.8 46 := laws.go:225 fieldAddr
    refine WL.no rfl rfl ?_
    -- R10.9 47 := laws.go:225 load
    refine WL.no rfl rfl ?_
    -- R10.10 48 := laws.go:225 call
    refine WL.no rfl rfl ?_
    -- R10.11 49 := laws.go:225 pick
    refine WL.no rfl rfl ?_
    -- R10.12 50 := laws.go:225 pick
    refine WL.v (by first | exact r_pickT (v := .bool _) rfl rfl | exact r_pickF (v := .bool _) rfl rfl) rfl rfl rfl ?_
    -- R10.13 6 := laws.go:225 assign
    refine WL.v (by first | exact r_assign (v := .bool _) rfl | exact r_assign rfl) rfl rfl rfl ?_
    refine WL.fin hK1006 (fun _ _ h => h) ?_
    -- region 11
    refine WC.region ?_
    -- R11.0 51 := laws.go:224 binOp
    refine WL.v (by exact r_add (r := ((j + 1 : Nat) : Int)) rfl rfl ((wi64 (by omega) (by omega)).trans (by omega))) rfl rfl rfl ?_
    -- R11.1 34 := laws.go:224 move
    refine WL.v (by first | exact r_move (v := .int _ _) rfl | exact r_move rfl) rfl rfl rfl ?_
    refine WL.next hK2 (fun _ _ h => h) (j + 1, true) ⟨by show j + 1 ≤ _; omega, fun _ => rfl, fun _ _ _ _ _ _ => rfl, st.drop⟩ (by show _ - (j + 1) < _ - j; omega) (by repeat (first | exact sub_nil _ | refine sub_cons rfl rfl ?_))
  by_cases hpe : p.1 = s
  · skip
    refine WC.seq fun K1008 hK1008 => ?_
    -- region 8
    refine WC.region ?_
    -- R8.0 35 := laws.go:224 binOp
    refine WL.v (by first | exact r_lss rfl rfl (decide_eq_true (by omega)) | exact r_lss rfl rfl (decide_eq_false (by omega)) | exact r_lss rfl rfl rfl) rfl rfl rfl ?_
    refine WL.fin hK1008 (fun _ _ h => h) ?_
    refine WC.seq fun K1009 hK1009 => ?_
    refine WC.condT rfl rfl ?_
    refine WC.skipF hK1009 (fun _ _ h => h) ?_
    refine WC.seq fun K1010 hK1010 => ?_
    refine WC.block ?_
    refine WC.seq fun K1011 hK1011 => ?_
    -- region 9
    refine WC.region ?_
    -- R9.0 36 := laws.go:224 indexAddr
    refine WL.v (by exact r_indexS (j := j) ty_sl46 rfl rfl rfl hjl) rfl rfl rfl ?_
    -- R9.1 37 := laws.go:224 load
    refine WL.v (v := .agg #[.int .i64 (p.1 : Nat), .slice ga (bytesOf 512 p.2).length gc]) (by exact r_loadL (vs := [_, _]) ty_agg63 rfl ⟨g0, g1, trivial⟩) rfl rfl rfl ?_
    -- R9.2 8 := laws.go:224 alloc
    refine WL.alloc (m := 2) st ty_zero63 rfl rfl rfl ?_
    intro b8 w st
    -- R9.3 None := laws.go:224 store
    first | refine WL.storeW (vs := [_, _]) st ty_agg63 rfl rfl rfl rfl rfl rfl ?_ | refine WL.storeL (vs := [_, _]) st ty_agg63 rfl rfl rfl rfl (by first | decide | omega) rfl rfl ?_ | refine WL.storeW (vs := [_, _]) st.front1 ty_agg63 rfl rfl rfl rfl rfl rfl ?_ | refine WL.storeL (vs := [_, _]) st.front1 ty_agg63 rfl rfl rfl rfl (by first | decide | omega) rfl rfl ?_ | refine WL.storeW (vs := [_, _]) st.front2 ty_agg63 rfl rfl rfl rfl rfl rfl ?_ | refine WL.storeL (vs := [_, _]) st.front2 ty_agg63 rfl rfl rfl rfl (by first | decide | omega) rfl rfl ?_ | refine WL.storeW (vs := [_, _]) st.front3 ty_agg63 rfl rfl rfl rfl rfl rfl ?_ | refine WL.storeL (vs := [_, _]) st.front3 ty_agg63 rfl rfl rfl rfl (by first | decide | omega) rfl rfl ?_ | refine WL.storeW (vs := [_, _]) st.front4 ty_agg63 rfl rfl rfl rfl rfl rfl ?_ | refine WL.storeL (vs := [_, _]) st.front4 ty_agg63 rfl rfl rfl rfl (by first | decide | omega) rfl rfl ?_ | refine WL.storeW (vs := [_, _]) st.front5 ty_agg63 rfl rfl rfl rfl rfl rfl ?_ | refine WL.storeL (vs := [_, _]) st.front5 ty_agg63 rfl rfl rfl rfl (by first | decide | omega) rfl rfl ?_ | refine WL.storeW (vs := [_, _]) st.front6 ty_agg63 rfl rfl rfl rfl rfl rfl ?_ | refine WL.storeL (vs := [_, _]) st.front6 ty_agg63 rfl rfl rfl rfl (by first | decide | omega) rfl rfl ?_ | refine WL.storeW (vs := [_, _]) st.front7 ty_agg63 rfl rfl rfl rfl rfl rfl ?_ | refine WL.storeL (vs := [_, _]) st.front7 ty_agg63 rfl rfl rfl rfl (by first | decide | omega) rfl rfl ?_ | refine WL.storeW (vs := [_, _]) st.front8 ty_agg63 rfl rfl rfl rfl rfl rfl ?_ | refine WL.storeL (vs := [_, _]) st.front8 ty_agg63 rfl rfl rfl rfl (by first | decide | omega) rfl rfl ?_
    intro w st
    refine WL.fin hK1011 (fun _ _ h => h) ?_
    -- region 10
    refine WC.region ?_
    -- R10.0 38 := laws.go:225 move
    refine WL.v (by first | exact r_move (v := .bool _) rfl | exact r_move rfl) rfl rfl rfl ?_
    -- R10.1 39 := laws.go:225 move
    refine WL.v (by first | exact r_move (v := .bool _) rfl | exact r_move rfl) rfl rfl rfl ?_
    -- R10.2 40 := laws.go:225 fieldAddr
    refine WL.v (by exact r_field ty_fld63_0 rfl) rfl rfl rfl ?_
    -- R10.3 41 := laws.go:225 load
    refine WL.v (by exact r_load1 ty_one2 rfl (by first | assumption | exact st.c0 (by first | decide | omega) | exact st.c1 (by first | decide | omega) | exact st.c2 (by first | decide | omega) | exact st.c3 (by first | decide | omega) | exact st.c4 (by first | decide | omega) | exact st.c5 (by first | decide | omega) | exact st.c6 (by first | decide | omega) | exact st.c7 (by first | decide | omega) | exact st.c8 (by first | decide | omega))) rfl rfl rfl ?_
    -- R10.4 42 := laws.go:225 move
    refine WL.v (by first | exact r_move (v := .int _ _) rfl | exact r_move rfl) rfl rfl rfl ?_
    -- R10.5 43 := laws.go:225 binOp
    refine WL.v (by first | exact r_eql rfl rfl (decide_eq_true (by omega)) | exact r_eql rfl rfl (decide_eq_false (by omega)) | exact r_eql rfl rfl rfl) rfl rfl rfl ?_
    -- R10.6 44 := laws.go:225 move
    refine WL.v (by first | exact r_move (v := .bool _) rfl | exact r_move rfl) rfl rfl rfl ?_
    -- R10.7 45 := laws.go:225 move
    refine WL.v (by first | exact r_move (v := .slice _ _ _) rfl | exact r_move rfl) rfl rfl rfl ?_
    -- R10.8 46 := laws.go:225 fieldAddr
    refine WL.v (by exact r_field ty_fld63_1 rfl) rfl rfl rfl ?_
    -- R10.9 47 := laws.go:225 load
    refine WL.v (by exact r_load1 ty_one29 rfl (by first | assumption | exact st.c0 (by first | decide | omega) | exact st.c1 (by first | decide | omega) | exact st.c2 (by first | decide | omega) | exact st.c3 (by first | decide | omega) | exact st.c4 (by first | decide | omega) | exact st.c5 (by first | decide | omega) | exact st.c6 (by first | decide | omega) | exact st.c7 (by first | decide | omega) | exact st.c8 (by first | decide | omega))) rfl rfl rfl ?_
    -- R10.10 48 := laws.go:225 call
    refine WL.call (r_call ty_call22 rfl) rfl rfl rfl (equal_ok hgot hp1 (by intro x hx; simp only [List.mem_singleton] at hx; subst hx; exact List.mem_cons_of_mem _ (List.mem_cons_of_mem _ (List.mem_cons_of_mem _ hbb))) (fun x hx => List.mem_cons_of_mem _ (List.mem_cons_of_mem _ (List.mem_cons_of_mem _ (hKL hx)))) st) ?_
    rintro _ w ⟨r, rfl, hr, st⟩
    -- R10.11 49 := laws.go:225 pick
    refine WL.v (by first | exact r_pickT (v := .bool _) rfl rfl | exact r_pickF (v := .bool _) rfl rfl) rfl rfl rfl ?_
    -- R10.12 50 := laws.go:225 pick
    refine WL.v (by first | exact r_pickT (v := .bool _) rfl rfl | exact r_pickF (v := .bool _) rfl rfl) rfl rfl rfl ?_
    -- R10.13 6 := laws.go:225 assign
    refine WL.v (by first | exact r_assign (v := .bool _) rfl | exact r_assign rfl) rfl rfl rfl ?_
    refine WL.fin hK1010 (fun _ _ h => h) ?_
    -- region 11
    refine WC.region ?_
    -- R11.0 51 := laws.go:224 binOp
    refine WL.v (by exact r_add (r := ((j + 1 : Nat) : Int)) rfl rfl ((wi64 (by omega) (by omega)).trans (by omega))) rfl rfl rfl ?_
    -- R11.1 34 := laws.go:224 move
    refine WL.v (by first | exact r_move (v := .int _ _) rfl | exact r_move rfl) rfl rfl rfl ?_
    refine WL.next hK2 (fun _ _ h => h) (j + 1, r) ⟨by show j + 1 ≤ _; omega, (fun h => by cases hw1 h), fun j' p' hj' hp' h1 h2 => ?_, st.drop⟩ (by show _ - (j + 1) < _ - j; omega) (by repeat (first | exact sub_nil _ | refine sub_cons rfl rfl ?_))
    have hj' : j' < j + 1 := hj'
    by_cases hjj : j' = j
    · subst hjj; rw [hp] at hp'; cases hp'; exact hr h2
    · cases hw2 j' p' (by omega) hp' h1 h2
  · skip
    refine WC.seq fun K1012 hK1012 => ?_
    -- region 8
    refine WC.region ?_
    -- R8.0 35 := laws.go:224 binOp
    refine WL.v (by first | exact r_lss rfl rfl (decide_eq_true (by omega)) | exact r_lss rfl rfl (decide_eq_false (by omega)) | exact r_lss rfl rfl rfl) rfl rfl rfl ?_
    refine WL.fin hK1012 (fun _ _ h => h) ?_
    refine WC.seq fun K1013 hK1013 => ?_
    refine WC.condT rfl rfl ?_
    refine WC.skipF hK1013 (fun _ _ h => h) ?_
    refine WC.seq fun K1014 hK1014 => ?_
    refine WC.block ?_
    refine WC.seq fun K1015 hK1015 => ?_
    -- region 9
    refine WC.region ?_
    -- R9.0 36 := laws.go:224 indexAddr
    refine WL.v (by exact r_indexS (j := j) ty_sl46 rfl rfl rfl hjl) rfl rfl rfl ?_
    -- R9.1 37 := laws.go:224 load
    refine WL.v (v := .agg #[.int .i64 (p.1 : Nat), .slice ga (bytesOf 512 p.2).length gc]) (by exact r_loadL (vs := [_, _]) ty_agg63 rfl ⟨g0, g1, trivial⟩) rfl rfl rfl ?_
    -- R9.2 8 := laws.go:224 alloc
    refine WL.alloc (m := 2) st ty_zero63 rfl rfl rfl ?_
    intro b8 w st
    -- R9.3 None := laws.go:224 store
    first | refine WL.storeW (vs := [_, _]) st ty_agg63 rfl rfl rfl rfl rfl rfl ?_ | refine WL.storeL (vs := [_, _]) st ty_agg63 rfl rfl rfl rfl (by first | decide | omega) rfl rfl ?_ | refine WL.storeW (vs := [_, _]) st.front1 ty_agg63 rfl rfl rfl rfl rfl rfl ?_ | refine WL.storeL (vs := [_, _]) st.front1 ty_agg63 rfl rfl rfl rfl (by first | decide | omega) rfl rfl ?_ | refine WL.storeW (vs := [_, _]) st.front2 ty_agg63 rfl rfl rfl rfl rfl rfl ?_ | refine WL.storeL (vs := [_, _]) st.front2 ty_agg63 rfl rfl rfl rfl (by first | decide | omega) rfl rfl ?_ | refine WL.storeW (vs := [_, _]) st.front3 ty_agg63 rfl rfl rfl rfl rfl rfl ?_ | refine WL.storeL (vs := [_, _]) st.front3 ty_agg63 rfl rfl rfl rfl (by first | decide | omega) rfl rfl ?_ | refine WL.storeW (vs := [_, _]) st.front4 ty_agg63 rfl rfl rfl rfl rfl rfl ?_ | refine WL.storeL (vs := [_, _]) st.front4 ty_agg63 rfl rfl rfl rfl (by first | decide | omega) rfl rfl ?_ | refine WL.storeW (vs := [_, _]) st.front5 ty_agg63 rfl rfl rfl rfl rfl rfl ?_ | refine WL.storeL (vs := [_, _]) st.front5 ty_agg63 rfl rfl rfl rfl (by first | decide | omega) rfl rfl ?_ | refine WL.storeW (vs := [_, _]) st.front6 ty_agg63 rfl rfl rfl rfl rfl rfl ?_ | refine WL.storeL (vs := [_, _]) st.front6 ty_agg63 rfl rfl rfl rfl (by first | decide | omega) rfl rfl ?_ | refine WL.storeW (vs := [_, _]) st.front7 ty_agg63 rfl rfl rfl rfl rfl rfl ?_ | refine WL.storeL (vs := [_, _]) st.front7 ty_agg63 rfl rfl rfl rfl (by first | decide | omega) rfl rfl ?_ | refine WL.storeW (vs := [_, _]) st.front8 ty_agg63 rfl rfl rfl rfl rfl rfl ?_ | refine WL.storeL (vs := [_, _]) st.front8 ty_agg63 rfl rfl rfl rfl (by first | decide | omega) rfl rfl ?_
    intro w st
    refine WL.fin hK1015 (fun _ _ h => h) ?_
    -- region 10
    refine WC.region ?_
    -- R10.0 38 := laws.go:225 move
    refine WL.v (by first | exact r_move (v := .bool _) rfl | exact r_move rfl) rfl rfl rfl ?_
    -- R10.1 39 := laws.go:225 move
    refine WL.v (by first | exact r_move (v := .bool _) rfl | exact r_move rfl) rfl rfl rfl ?_
    -- R10.2 40 := laws.go:225 fieldAddr
    refine WL.v (by exact r_field ty_fld63_0 rfl) rfl rfl rfl ?_
    -- R10.3 41 := laws.go:225 load
    refine WL.v (by exact r_load1 ty_one2 rfl (by first | assumption | exact st.c0 (by first | decide | omega) | exact st.c1 (by first | decide | omega) | exact st.c2 (by first | decide | omega) | exact st.c3 (by first | decide | omega) | exact st.c4 (by first | decide | omega) | exact st.c5 (by first | decide | omega) | exact st.c6 (by first | decide | omega) | exact st.c7 (by first | decide | omega) | exact st.c8 (by first | decide | omega))) rfl rfl rfl ?_
    -- R10.4 42 := laws.go:225 move
    refine WL.v (by first | exact r_move (v := .int _ _) rfl | exact r_move rfl) rfl rfl rfl ?_
    -- R10.5 43 := laws.go:225 binOp
    refine WL.v (by exact r_eql rfl rfl (decide_eq_false (by omega))) rfl rfl rfl ?_
    -- R10.6 44 := laws.go:225 move
    refine WL.v (by first | exact r_move (v := .bool _) rfl | exact r_move rfl) rfl rfl rfl ?_
    -- R10.7 45 := laws.go:225 move
    refine WL.no rfl rfl ?_
    -- R10.8 46 := laws.go:225 fieldAddr
    refine WL.no rfl rfl ?_
    -- R10.9 47 := laws.go:225 load
    refine WL.no rfl rfl ?_
    -- R10.10 48 := laws.go:225 call
    refine WL.no rfl rfl ?_
    -- R10.11 49 := laws.go:225 pick
    refine WL.v (by first | exact r_pickT (v := .bool _) rfl rfl | exact r_pickF (v := .bool _) rfl rfl) rfl rfl rfl ?_
    -- R10.12 50 := laws.go:225 pick
    refine WL.v (by first | exact r_pickT (v := .bool _) rfl rfl | exact r_pickF (v := .bool _) rfl rfl) rfl rfl rfl ?_
    -- R10.13 6 := laws.go:225 assign
    refine WL.v (by first | exact r_assign (v := .bool _) rfl | exact r_assign rfl) rfl rfl rfl ?_
    refine WL.fin hK1014 (fun _ _ h => h) ?_
    -- region 11
    refine WC.region ?_
    -- R11.0 51 := laws.go:224 binOp
    refine WL.v (by exact r_add (r := ((j + 1 : Nat) : Int)) rfl rfl ((wi64 (by omega) (by omega)).trans (by omega))) rfl rfl rfl ?_
    -- R11.1 34 := laws.go:224 move
    refine WL.v (by first | exact r_move (v := .int _ _) rfl | exact r_move rfl) rfl rfl rfl ?_
    refine WL.next hK2 (fun _ _ h => h) (j + 1, false) ⟨by show j + 1 ≤ _; omega, hw1, fun j' p' hj' hp' h1 h2 => ?_, st.drop⟩ (by show _ - (j + 1) < _ - j; omega) (by repeat (first | exact sub_nil _ | refine sub_cons rfl rfl ?_))
    have hj' : j' < j + 1 := hj'
    by_cases hjj : j' = j
    · subst hjj; rw [hp] at hp'; cases hp'; exact absurd h1 hpe
    · exact hw2 j' p' (by omega) hp' h1 h2
set_option maxHeartbeats 64000000 in
theorem tears_law (a : Option Addr) (sb so n c : Nat) (op : Nat → OP) {w : World} (hg : hG w) (hS : Scr w sb so n op) (hn63 : n ≤ 140737488355328) (ha : 0 < n → a = some ⟨sb, so, none⟩) :
    Calls Tryd.prog 6 #[.slice a n c] w (Ret fun v w' => v = .bool true ∧ S0 w [] w') := by
  have st0 := St.init w (fun _ => False)
  obtain ⟨w0, hw0⟩ : ∃ w0, w0 = w := ⟨w, rfl⟩
  have st : S0 w0 [] w := by rw [hw0]; exact st0
  clear st0
  have hg : hG w0 := by rw [hw0]; exact hg
  have hS : Scr w0 sb so n op := by rw [hw0]; exact hS
  have goal : Calls Tryd.prog 6 #[.slice a n c] w (Ret fun v w' => v = .bool true ∧ S0 w0 [] w') := by
    clear hw0
    refine enter [.slice a n c] Tryd.func6 rfl Tryd.ntmps6 rfl ?_
    show WC _ _ _ 8 [] [(0, .slice a n c)] _
    refine WC.seq fun K1016 hK1016 => ?_
    -- region 0
    refine WC.region ?_
    -- R0.0 2 := laws.go:214 assign
    refine WL.v (by first | exact r_assign (v := .bool _) rfl | exact r_assign rfl) rfl rfl rfl ?_
    refine WL.fin hK1016 (fun _ _ h => h) ?_
    refine WC.seq fun K1017 hK1017 => ?_
    refine WC.seq fun K1018 hK1018 => ?_
    -- region 1
    refine WC.region ?_
    -- R1.0 3 := laws.go:215 move
    refine WL.v (by first | exact r_move (v := .slice _ _ _) rfl | exact r_move rfl) rfl rfl rfl ?_
    -- R1.1 4 := laws.go:215 call
    refine WL.call (r_call ty_call10 rfl) rfl rfl rfl (zzSmall1_ok a sb so n c op hS hn63 ha st) ?_
    rintro _ w ⟨t, rfl, hsm, st⟩
    -- R1.2 5 := laws.go:215 unOp
    refine WL.v (by first | exact r_notT rfl | exact r_notF rfl | exact r_not rfl) rfl rfl rfl ?_
    refine WL.fin hK1018 (fun _ _ h => h) ?_
    rcases t with _ | _
    · skip
      refine WC.condT rfl rfl ?_
      refine WC.seq fun K1019 hK1019 => ?_
      -- region 2
      refine WC.region ?_
      -- R2.0 2 := laws.go:216 assign
      refine WL.v (by first | exact r_assign (v := .bool _) rfl | exact r_assign rfl) rfl rfl rfl ?_
      refine WL.fin hK1019 (fun _ _ h => h) ?_
      refine WC.ret1 Tryd.results6 (fun _ _ h => h) rfl ?_
      exact ⟨_, rfl, rfl, st⟩
    have hsm := hsm rfl
    have hnn := hsm.1
    refine WC.condF rfl rfl ?_
    refine WC.skipF hK1017 (fun _ _ h => h) ?_
    refine WC.seq fun K1020 hK1020 => ?_
    -- region 3
    refine WC.region ?_
    -- R3.0 6 := laws.go:219 move
    refine WL.v (by first | exact r_move (v := .slice _ _ _) rfl | exact r_move rfl) rfl rfl rfl ?_
    -- R3.1 7 := laws.go:219 call
    refine WL.call (r_call ty_call27 rfl) rfl rfl rfl (atEveryCrash_ok a sb so n c 31 op hg hS hsm ha ty_call31 lookT_ok st) ?_
    rintro _ w ⟨rfl, st⟩
    -- R3.2 2 := laws.go:219 assign
    refine WL.v (by first | exact r_assign (v := .bool _) rfl | exact r_assign rfl) rfl rfl rfl ?_
    refine WL.fin hK1020 (fun _ _ h => h) ?_
    refine WC.ret1 Tryd.results6 (fun _ _ h => h) rfl ?_
    exact ⟨_, rfl, rfl, st⟩
  rw [hw0] at goal
  exact goal
end Go.Proofs.Qxb6500837aDoor

