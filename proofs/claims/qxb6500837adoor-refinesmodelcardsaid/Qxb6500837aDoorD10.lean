import Derived.Test.Qxb6500837aDoorD9
set_option linter.unusedVariables false
set_option linter.unusedSimpArgs false
set_option maxRecDepth 20000
namespace Go.Proofs.Qxb6500837aDoor
open Go.RowKit Go.E1 Go.Disk
variable {w0 : World} {L l : List HI} {w : World} {D : DK} {m : Int} {P : PD}

theorem Rep.seen_some (h : Rep D P) {s q : Nat} (hq : D.N (s : Int) = some q) : q ≤ 1000000000000 ∧ D.sb (q % D.limit / 32) ≠ none ∧ ∀ j, j < 512 → D.sd (q % D.limit) j = settle P.pc P.pend s j := by
  rw [h.N] at hq
  obtain ⟨a, b, p, c, d⟩ := newest_spec hq
  obtain ⟨x, y, z⟩ := h.at_ (q - D.hd) p c
  rw [show D.hd + (q - D.hd) = q by omega] at x y z
  have := h.hd; have := h.wr; have := h.tl
  refine ⟨by omega, z, fun j hj => ?_⟩
  rw [settle_newest s j (h := D.hd), hq]
  dsimp only
  rw [if_pos hj, List.getD_eq_getElem?_getD, c]
  exact y j hj
theorem Rep.seen_none (h : Rep D P) {s : Nat} (hq : D.N (s : Int) = none) (j : Nat) : settle P.pc P.pend s j = P.pc s j := by
  rw [h.N] at hq
  rw [settle_newest s j (h := D.hd), hq]

theorem rd_step {S : Nat → Nat → Int} {g : Nat → Value} {i sn : Nat} (hg : ∀ j, j < i * 512 → g j = .int .u8 (S (sn + j / 512) (j % 512))) (j : Nat) (hj : j < (i + 1) * 512) : upds g (i * 512) 512 (fun j => .int .u8 (S (sn + i) j)) j = .int .u8 (S (sn + j / 512) (j % 512)) := by
  rw [upds_eq]
  by_cases h : i * 512 ≤ j ∧ j < i * 512 + 512
  · rw [if_pos h, show j / 512 = i by omega, show j % 512 = j - i * 512 by omega]
  · rw [if_neg h, hg j (by omega)]

set_option maxHeartbeats 32000000 in
theorem read_ok (h : Rep D P) (sct : Int) (hsct : -9223372036854775808 ≤ sct ∧ sct ≤ 9223372036854775807) (n bb : Nat) (g : Nat → Value) (hn : n ≤ 1000000000) (st : S0 w0 (DI D 0 ((bb, Row 5 n g) :: L)) w) :
    Calls Tryd.prog 37 #[.pointer (some ⟨D.bD, 0, none⟩), .int .i64 sct, .slice (some ⟨bb, 0, none⟩) n n] w (Ret fun v w' => ∃ D' l1 g', D'.bD = D.bD ∧ Rep D' P ∧ EV (readC P sct n) v l1 ∧ (readC P sct n = 0 → ∀ j, j < n → g' j = .int .u8 (settle P.pc P.pend (sct.toNat + j / 512) (j % 512))) ∧ S0 w0 (l1 ++ DI D' 0 ((bb, Row 5 n g') :: L)) w') := by
  by_cases hdn : P.down = true
  · skip
    refine enterD [.pointer (some ⟨D.bD, 0, none⟩), .int .i64 sct, .slice (some ⟨bb, 0, none⟩) n n] Tryd.func37 rfl Tryd.ntmps37 rfl ?_
    show WC _ _ _ 81 [] [(0, .pointer (some ⟨D.bD, 0, none⟩)), (1, .int .i64 sct), (2, .slice (some ⟨bb, 0, none⟩) n n)] _
    refine WC.seqD fun K228 hK228 => ?_
    -- region 0
    refine WC.region ?_
    -- R0.0 6 := disk.go:116 assign
    refine WL.v (by first | exact r_assign (v := .nilIface) rfl | exact r_assign (v := .iface _ _) rfl | exact r_assign rfl) rfl rfl rfl ?_
    refine WL.fin (hK228 _) (fun _ _ h => h) ?_
    refine WC.seqD fun K229 hK229 => ?_
    -- region 1
    refine WC.region ?_
    -- R1.0 13 := disk.go:117 move
    refine WL.v (by first | exact r_move (v := .pointer _) rfl | exact r_move rfl) rfl rfl rfl ?_
    -- R1.1 14 := disk.go:117 nilCheck
    refine WL.v (by exact r_nilCheck rfl) rfl rfl rfl ?_
    -- R1.2 15 := disk.go:117 fieldAddr
    refine WL.v (by exact r_field ty_fld97_0 rfl) rfl rfl rfl ?_
    -- R1.3 16 := disk.go:117 call
    refine WL.lock Tryd.muLib ty_call47 (st) rfl (by decide) rfl rfl rfl rfl ?_
    intro w st
    refine WL.fin (hK229 _) (fun _ _ h => h) ?_
    refine WC.seqD fun K230 hK230 => ?_
    -- region 2
    refine WC.region ?_
    -- R2.0 17 := disk.go:118 move
    refine WL.v (by first | exact r_move (v := .pointer _) rfl | exact r_move rfl) rfl rfl rfl ?_
    -- R2.1 18 := disk.go:118 nilCheck
    refine WL.v (by exact r_nilCheck rfl) rfl rfl rfl ?_
    -- R2.2 19 := disk.go:118 fieldAddr
    refine WL.v (by exact r_field ty_fld97_0 rfl) rfl rfl rfl ?_
    -- R2.3 None := disk.go:118 defer
    refine WL.defer rfl rfl rfl ?_
    refine WL.fin (hK230 _) (fun _ _ h => h) ?_
    refine WC.seqD fun K231 hK231 => ?_
    refine WC.seqD fun K232 hK232 => ?_
    -- region 3
    refine WC.region ?_
    -- R3.0 20 := disk.go:119 move
    refine WL.v (by first | exact r_move (v := .pointer _) rfl | exact r_move rfl) rfl rfl rfl ?_
    -- R3.1 21 := disk.go:119 nilCheck
    refine WL.v (by exact r_nilCheck rfl) rfl rfl rfl ?_
    -- R3.2 22 := disk.go:119 fieldAddr
    refine WL.v (by exact r_field ty_fld97_3 rfl) rfl rfl rfl ?_
    -- R3.3 23 := disk.go:119 load
    have st := st_nrm (L' := dC 1 D) rfl st
    refine WL.v (v := .bool true) (by exact r_load1 ty_one4 rfl ((st.c0 (by decide)).trans (show (some (Value.bool D.down) : Option Value) = _ by rw [h.down, hdn]))) rfl rfl rfl ?_
    refine WL.fin (hK232 _) (fun _ _ h => h) ?_
    refine WC.condT rfl rfl ?_
    refine WC.seqD fun K233 hK233 => ?_
    -- region 4
    refine WC.region ?_
    -- R4.0 24 := disk.go:120 move
    refine WL.v (by first | exact r_move (v := .int _ _) rfl | exact r_move rfl) rfl rfl rfl ?_
    -- R4.1 25 := disk.go:120 call
    refine WL.call (r_call ty_call50 rfl) rfl rfl rfl (refuse_ok _ _ _ st) ?_
    rintro _ w ⟨be, rfl, st⟩
    -- R4.2 6 := disk.go:120 assign
    refine WL.v (by first | exact r_assign (v := .nilIface) rfl | exact r_assign (v := .iface _ _) rfl | exact r_assign rfl) rfl rfl rfl ?_
    refine WL.fin (hK233 _) (fun _ _ h => h) ?_
    refine WC.retD1 Tryd.muLib ty_call48 Tryd.results37 (fun _ _ h => h) rfl (st.front1) (by decide) rfl ?_
    intro w st
    have st := st_nrm (L' := dC 0 D) rfl st
    have e : readC P sct n = 3 := by unfold readC; rw [if_pos hdn]
    rw [e]
    exact ⟨_, rfl, D, _, g, rfl, h, EV.e3, fun h => by omega, st.front1⟩
  have hs2 := h.s2; have hsec := h.sec
  have e : readC P sct n = spanC P.sec sct n := by unfold readC; rw [if_neg hdn]
  rw [e]
  by_cases hsp : spanC P.sec sct n = 0
  rotate_left
  · skip
    refine enterD [.pointer (some ⟨D.bD, 0, none⟩), .int .i64 sct, .slice (some ⟨bb, 0, none⟩) n n] Tryd.func37 rfl Tryd.ntmps37 rfl ?_
    show WC _ _ _ 81 [] [(0, .pointer (some ⟨D.bD, 0, none⟩)), (1, .int .i64 sct), (2, .slice (some ⟨bb, 0, none⟩) n n)] _
    refine WC.seqD fun K234 hK234 => ?_
    -- region 0
    refine WC.region ?_
    -- R0.0 6 := disk.go:116 assign
    refine WL.v (by first | exact r_assign (v := .nilIface) rfl | exact r_assign (v := .iface _ _) rfl | exact r_assign rfl) rfl rfl rfl ?_
    refine WL.fin (hK234 _) (fun _ _ h => h) ?_
    refine WC.seqD fun K235 hK235 => ?_
    -- region 1
    refine WC.region ?_
    -- R1.0 13 := disk.go:117 move
    refine WL.v (by first | exact r_move (v := .pointer _) rfl | exact r_move rfl) rfl rfl rfl ?_
    -- R1.1 14 := disk.go:117 nilCheck
    refine WL.v (by exact r_nilCheck rfl) rfl rfl rfl ?_
    -- R1.2 15 := disk.go:117 fieldAddr
    refine WL.v (by exact r_field ty_fld97_0 rfl) rfl rfl rfl ?_
    -- R1.3 16 := disk.go:117 call
    refine WL.lock Tryd.muLib ty_call47 (st) rfl (by decide) rfl rfl rfl rfl ?_
    intro w st
    refine WL.fin (hK235 _) (fun _ _ h => h) ?_
    refine WC.seqD fun K236 hK236 => ?_
    -- region 2
    refine WC.region ?_
    -- R2.0 17 := disk.go:118 move
    refine WL.v (by first | exact r_move (v := .pointer _) rfl | exact r_move rfl) rfl rfl rfl ?_
    -- R2.1 18 := disk.go:118 nilCheck
    refine WL.v (by exact r_nilCheck rfl) rfl rfl rfl ?_
    -- R2.2 19 := disk.go:118 fieldAddr
    refine WL.v (by exact r_field ty_fld97_0 rfl) rfl rfl rfl ?_
    -- R2.3 None := disk.go:118 defer
    refine WL.defer rfl rfl rfl ?_
    refine WL.fin (hK236 _) (fun _ _ h => h) ?_
    refine WC.seqD fun K237 hK237 => ?_
    refine WC.seqD fun K238 hK238 => ?_
    -- region 3
    refine WC.region ?_
    -- R3.0 20 := disk.go:119 move
    refine WL.v (by first | exact r_move (v := .pointer _) rfl | exact r_move rfl) rfl rfl rfl ?_
    -- R3.1 21 := disk.go:119 nilCheck
    refine WL.v (by exact r_nilCheck rfl) rfl rfl rfl ?_
    -- R3.2 22 := disk.go:119 fieldAddr
    refine WL.v (by exact r_field ty_fld97_3 rfl) rfl rfl rfl ?_
    -- R3.3 23 := disk.go:119 load
    have st := st_nrm (L' := dC 1 D) rfl st
    refine WL.v (v := .bool false) (by exact r_load1 ty_one4 rfl ((st.c0 (by decide)).trans (show (some (Value.bool D.down) : Option Value) = _ by rw [h.down]; simp [hdn]))) rfl rfl rfl ?_
    refine WL.fin (hK238 _) (fun _ _ h => h) ?_
    refine WC.condF rfl rfl ?_
    refine WC.skipF (hK237 _) (fun _ _ h => h) ?_
    refine WC.seqD fun K239 hK239 => ?_
    -- region 5
    refine WC.region ?_
    -- R5.0 27 := disk.go:122 move
    refine WL.v (by first | exact r_move (v := .pointer _) rfl | exact r_move rfl) rfl rfl rfl ?_
    -- R5.1 28 := disk.go:122 move
    refine WL.v (by first | exact r_move (v := .int _ _) rfl | exact r_move rfl) rfl rfl rfl ?_
    -- R5.2 29 := disk.go:122 move
    refine WL.v (by first | exact r_move (v := .slice _ _ _) rfl | exact r_move rfl) rfl rfl rfl ?_
    -- R5.3 30 := disk.go:122 call
    refine WL.v (by exact r_len ty_usl29 rfl) rfl rfl rfl ?_
    -- R5.4 31 := disk.go:122 call
    refine WL.call (r_call ty_call54 rfl) rfl rfl rfl (span_ok sct n _ hsct (by omega) (by omega) st) ?_
    rintro _ w hv
    obtain ⟨_, be, c2, c3, rfl, st⟩ := hv.resolve_left (fun h => hsp (by rw [← hsec]; exact h.1))
    -- R5.5 26 := disk.go:122 move
    refine WL.v (by first | exact r_move (v := .tuple _) rfl | exact r_move rfl) rfl rfl rfl ?_
    -- R5.6 32 := disk.go:122 extract
    refine WL.v (by first | exact r_extract (v := .int _ _) rfl rfl | exact r_extract rfl rfl) rfl rfl rfl ?_
    -- R5.7 33 := disk.go:122 extract
    refine WL.v (by first | exact r_extract (v := .nilIface) rfl rfl | exact r_extract (v := .iface _ _) rfl rfl | exact r_extract rfl rfl) rfl rfl rfl ?_
    -- R5.8 7 := disk.go:122 assign
    refine WL.v (by first | exact r_assign (v := .int _ _) rfl | exact r_assign rfl) rfl rfl rfl ?_
    -- R5.9 8 := disk.go:122 assign
    refine WL.v (by first | exact r_assign (v := .nilIface) rfl | exact r_assign (v := .iface _ _) rfl | exact r_assign rfl) rfl rfl rfl ?_
    refine WL.fin (hK239 _) (fun _ _ h => h) ?_
    refine WC.seqD fun K240 hK240 => ?_
    refine WC.seqD fun K241 hK241 => ?_
    -- region 6
    refine WC.region ?_
    -- R6.0 34 := disk.go:123 move
    refine WL.v (by first | exact r_move (v := .nilIface) rfl | exact r_move (v := .iface _ _) rfl | exact r_move rfl) rfl rfl rfl ?_
    -- R6.1 35 := disk.go:123 binOp
    refine WL.v (by first | exact r_nil_neq ty_ifc70 rfl | exact r_some_neq ty_ifc70 rfl) rfl rfl rfl ?_
    refine WL.fin (hK241 _) (fun _ _ h => h) ?_
    refine WC.condT rfl rfl ?_
    refine WC.seqD fun K242 hK242 => ?_
    -- region 7
    refine WC.region ?_
    -- R7.0 36 := disk.go:124 move
    refine WL.v (by first | exact r_move (v := .nilIface) rfl | exact r_move (v := .iface _ _) rfl | exact r_move rfl) rfl rfl rfl ?_
    -- R7.1 6 := disk.go:124 assign
    refine WL.v (by first | exact r_assign (v := .nilIface) rfl | exact r_assign (v := .iface _ _) rfl | exact r_assign rfl) rfl rfl rfl ?_
    refine WL.fin (hK242 _) (fun _ _ h => h) ?_
    refine WC.retD1 Tryd.muLib ty_call48 Tryd.results37 (fun _ _ h => h) rfl (st.front1) (by decide) rfl ?_
    intro w st
    have st := st_nrm (L' := dC 0 D) rfl st
    rw [hsec] at st
    exact ⟨_, rfl, D, _, g, rfl, h, EV.err hsp, fun h => absurd h hsp, st.front1⟩
  obtain ⟨hn1, hn2, hs0, hs1, hs3⟩ : n ≠ 0 ∧ n % 512 = 0 ∧ 0 ≤ sct ∧ n / 512 ≤ P.sec ∧ sct ≤ (P.sec : Int) - (n / 512 : Nat) := by
    unfold spanC at hsp
    split at hsp
    · cases hsp
    · split at hsp
      · cases hsp
      · omega
  obtain ⟨sn, rfl⟩ := Int.eq_ofNat_of_zero_le hs0
  rw [show (sn : Int).toNat = sn from rfl]
  obtain ⟨cnt, hcnt⟩ : ∃ cnt, cnt = n / 512 := ⟨_, rfl⟩
  rw [← hcnt] at hs1 hs3
  refine enterD [.pointer (some ⟨D.bD, 0, none⟩), .int .i64 (sn : Nat), .slice (some ⟨bb, 0, none⟩) n n] Tryd.func37 rfl Tryd.ntmps37 rfl ?_
  show WC _ _ _ 81 [] [(0, .pointer (some ⟨D.bD, 0, none⟩)), (1, .int .i64 (sn : Nat)), (2, .slice (some ⟨bb, 0, none⟩) n n)] _
  refine WC.seqD fun K243 hK243 => ?_
  -- region 0
  refine WC.region ?_
  -- R0.0 6 := disk.go:116 assign
  refine WL.v (by first | exact r_assign (v := .nilIface) rfl | exact r_assign (v := .iface _ _) rfl | exact r_assign rfl) rfl rfl rfl ?_
  refine WL.fin (hK243 _) (fun _ _ h => h) ?_
  refine WC.seqD fun K244 hK244 => ?_
  -- region 1
  refine WC.region ?_
  -- R1.0 13 := disk.go:117 move
  refine WL.v (by first | exact r_move (v := .pointer _) rfl | exact r_move rfl) rfl rfl rfl ?_
  -- R1.1 14 := disk.go:117 nilCheck
  refine WL.v (by exact r_nilCheck rfl) rfl rfl rfl ?_
  -- R1.2 15 := disk.go:117 fieldAddr
  refine WL.v (by exact r_field ty_fld97_0 rfl) rfl rfl rfl ?_
  -- R1.3 16 := disk.go:117 call
  refine WL.lock Tryd.muLib ty_call47 (st) rfl (by decide) rfl rfl rfl rfl ?_
  intro w st
  refine WL.fin (hK244 _) (fun _ _ h => h) ?_
  refine WC.seqD fun K245 hK245 => ?_
  -- region 2
  refine WC.region ?_
  -- R2.0 17 := disk.go:118 move
  refine WL.v (by first | exact r_move (v := .pointer _) rfl | exact r_move rfl) rfl rfl rfl ?_
  -- R2.1 18 := disk.go:118 nilCheck
  refine WL.v (by exact r_nilCheck rfl) rfl rfl rfl ?_
  -- R2.2 19 := disk.go:118 fieldAddr
  refine WL.v (by exact r_field ty_fld97_0 rfl) rfl rfl rfl ?_
  -- R2.3 None := disk.go:118 defer
  refine WL.defer rfl rfl rfl ?_
  refine WL.fin (hK245 _) (fun _ _ h => h) ?_
  refine WC.seqD fun K246 hK246 => ?_
  refine WC.seqD fun K247 hK247 => ?_
  -- region 3
  refine WC.region ?_
  -- R3.0 20 := disk.go:119 move
  refine WL.v (by first | exact r_move (v := .pointer _) rfl | exact r_move rfl) rfl rfl rfl ?_
  -- R3.1 21 := disk.go:119 nilCheck
  refine WL.v (by exact r_nilCheck rfl) rfl rfl rfl ?_
  -- R3.2 22 := disk.go:119 fieldAddr
  refine WL.v (by exact r_field ty_fld97_3 rfl) rfl rfl rfl ?_
  -- R3.3 23 := disk.go:119 load
  have st := st_nrm (L' := dC 1 D) rfl st
  refine WL.v (v := .bool false) (by exact r_load1 ty_one4 rfl ((st.c0 (by decide)).trans (show (some (Value.bool D.down) : Option Value) = _ by rw [h.down]; simp [hdn]))) rfl rfl rfl ?_
  refine WL.fin (hK247 _) (fun _ _ h => h) ?_
  refine WC.condF rfl rfl ?_
  refine WC.skipF (hK246 _) (fun _ _ h => h) ?_
  refine WC.seqD fun K248 hK248 => ?_
  -- region 5
  refine WC.region ?_
  -- R5.0 27 := disk.go:122 move
  refine WL.v (by first | exact r_move (v := .pointer _) rfl | exact r_move rfl) rfl rfl rfl ?_
  -- R5.1 28 := disk.go:122 move
  refine WL.v (by first | exact r_move (v := .int _ _) rfl | exact r_move rfl) rfl rfl rfl ?_
  -- R5.2 29 := disk.go:122 move
  refine WL.v (by first | exact r_move (v := .slice _ _ _) rfl | exact r_move rfl) rfl rfl rfl ?_
  -- R5.3 30 := disk.go:122 call
  refine WL.v (by exact r_len ty_usl29 rfl) rfl rfl rfl ?_
  -- R5.4 31 := disk.go:122 call
  refine WL.call (r_call ty_call54 rfl) rfl rfl rfl (span_ok (sn : Int) n _ hsct (by omega) (by omega) st) ?_
  rintro _ w hv
  obtain ⟨_, rfl, st⟩ := hv.resolve_right (fun h => h.1 (by rw [hsec]; exact hsp))
  rw [← hcnt]
  -- R5.5 26 := disk.go:122 move
  refine WL.v (by first | exact r_move (v := .tuple _) rfl | exact r_move rfl) rfl rfl rfl ?_
  -- R5.6 32 := disk.go:122 extract
  refine WL.v (by first | exact r_extract (v := .int _ _) rfl rfl | exact r_extract rfl rfl) rfl rfl rfl ?_
  -- R5.7 33 := disk.go:122 extract
  refine WL.v (by first | exact r_extract (v := .nilIface) rfl rfl | exact r_extract (v := .iface _ _) rfl rfl | exact r_extract rfl rfl) rfl rfl rfl ?_
  -- R5.8 7 := disk.go:122 assign
  refine WL.v (by first | exact r_assign (v := .int _ _) rfl | exact r_assign rfl) rfl rfl rfl ?_
  -- R5.9 8 := disk.go:122 assign
  refine WL.v (by first | exact r_assign (v := .nilIface) rfl | exact r_assign (v := .iface _ _) rfl | exact r_assign rfl) rfl rfl rfl ?_
  refine WL.fin (hK248 _) (fun _ _ h => h) ?_
  refine WC.seqD fun K249 hK249 => ?_
  refine WC.seqD fun K250 hK250 => ?_
  -- region 6
  refine WC.region ?_
  -- R6.0 34 := disk.go:123 move
  refine WL.v (by first | exact r_move (v := .nilIface) rfl | exact r_move (v := .iface _ _) rfl | exact r_move rfl) rfl rfl rfl ?_
  -- R6.1 35 := disk.go:123 binOp
  refine WL.v (by first | exact r_nil_neq ty_ifc70 rfl | exact r_some_neq ty_ifc70 rfl) rfl rfl rfl ?_
  refine WL.fin (hK250 _) (fun _ _ h => h) ?_
  refine WC.condF rfl rfl ?_
  refine WC.skipF (hK249 _) (fun _ _ h => h) ?_
  refine WC.seqD fun K251 hK251 => ?_
  refine WC.seqD fun K252 hK252 => ?_
  -- region 8
  refine WC.region ?_
  -- R8.0 9 := disk.go:126 assign
  refine WL.v (by first | exact r_assign (v := .int _ _) rfl | exact r_assign rfl) rfl rfl rfl ?_
  refine WL.fin (hK252 _) (fun _ _ h => h) ?_
  refine WC.block ?_
  refine WC.loop (ι := (Nat → Value) × Nat) (fun i => [(0, .pointer (some ⟨D.bD, 0, none⟩)), (1, .int .i64 (sn : Nat)), (2, .slice (some ⟨bb, 0, none⟩) n n), (7, .int .i64 (cnt : Nat)), (9, .int .i64 (i.2 : Nat))])
    (fun i w' => i.2 ≤ cnt ∧ (∀ j, j < i.2 * 512 → i.1 j = .int .u8 (settle P.pc P.pend (sn + j / 512) (j % 512))) ∧ S0 w0 (DI D 1 ((bb, Row 5 n i.1) :: L)) w') (fun i => cnt - i.2) (g, 0) ⟨Nat.zero_le _, fun j hj => by omega, st⟩ ?_ ?_
  · skip
    repeat (first | exact sub_nil _ | refine sub_cons rfl rfl ?_)
  rintro ⟨g', i⟩ w ⟨hic, hg, st⟩ K1 hK1
  dsimp only at hic hg st ⊢
  by_cases hlt : i < cnt
  rotate_left
  · skip
    refine WC.seqD fun K253 hK253 => ?_
    refine WC.seqD fun K254 hK254 => ?_
    -- region 9
    refine WC.region ?_
    -- R9.0 37 := disk.go:126 move
    refine WL.v (by first | exact r_move (v := .int _ _) rfl | exact r_move rfl) rfl rfl rfl ?_
    -- R9.1 38 := disk.go:126 move
    refine WL.v (by first | exact r_move (v := .int _ _) rfl | exact r_move rfl) rfl rfl rfl ?_
    -- R9.2 39 := disk.go:126 binOp
    refine WL.v (by first | exact r_lss rfl rfl (decide_eq_true (by omega)) | exact r_lss rfl rfl (decide_eq_false (by omega)) | exact r_lss rfl rfl rfl) rfl rfl rfl ?_
    refine WL.fin (hK254 _) (fun _ _ h => h) ?_
    refine WC.condF rfl rfl ?_
    refine WC.exitF (hK251 _) (fun _ _ h => h) ?_
    refine WC.seqD fun K255 hK255 => ?_
    -- region 16
    refine WC.region ?_
    -- R16.0 71 := disk.go:134 move
    refine WL.v (by first | exact r_move (v := .pointer _) rfl | exact r_move rfl) rfl rfl rfl ?_
    -- R16.1 72 := disk.go:134 nilCheck
    refine WL.v (by exact r_nilCheck rfl) rfl rfl rfl ?_
    -- R16.2 73 := disk.go:134 fieldAddr
    refine WL.v (by exact r_field ty_fld97_7 rfl) rfl rfl rfl ?_
    -- R16.3 74 := disk.go:134 fieldAddr
    refine WL.v (by exact r_field ty_fld67_0 rfl) rfl rfl rfl ?_
    -- R16.4 75 := disk.go:134 load
    refine WL.v (by exact r_load1 ty_one2 rfl (by first | assumption | exact st.c0 (by first | decide | omega) | exact st.c1 (by first | decide | omega) | exact st.c2 (by first | decide | omega) | exact st.c3 (by first | decide | omega) | exact st.c4 (by first | decide | omega) | exact st.c5 (by first | decide | omega) | exact st.c6 (by first | decide | omega) | exact st.c7 (by first | decide | omega) | exact st.c8 (by first | decide | omega))) rfl rfl rfl ?_
    -- R16.5 76 := disk.go:134 move
    refine WL.v (by first | exact r_move (v := .int _ _) rfl | exact r_move rfl) rfl rfl rfl ?_
    -- R16.6 77 := disk.go:134 binOp
    refine WL.v (by first | exact r_add rfl rfl (wi64 (by omega) (by omega)) | exact r_add rfl rfl rfl) rfl rfl rfl ?_
    -- R16.7 78 := disk.go:134 nilCheck
    refine WL.v (by exact r_nilCheck rfl) rfl rfl rfl ?_
    -- R16.8 79 := disk.go:134 fieldAddr
    refine WL.v (by exact r_field ty_fld97_7 rfl) rfl rfl rfl ?_
    -- R16.9 80 := disk.go:134 fieldAddr
    refine WL.v (by exact r_field ty_fld67_0 rfl) rfl rfl rfl ?_
    -- R16.10 None := disk.go:134 store
    first | refine WL.store (v := .int _ _) st ty_one2 rfl rfl rfl (by first | decide | omega) rfl rfl ?_ | refine WL.store (v := _) st ty_one2 rfl rfl rfl (by first | decide | omega) rfl rfl ?_ | refine WL.store (v := .int _ _) st.front1 ty_one2 rfl rfl rfl (by first | decide | omega) rfl rfl ?_ | refine WL.store (v := _) st.front1 ty_one2 rfl rfl rfl (by first | decide | omega) rfl rfl ?_ | refine WL.store (v := .int _ _) st.front2 ty_one2 rfl rfl rfl (by first | decide | omega) rfl rfl ?_ | refine WL.store (v := _) st.front2 ty_one2 rfl rfl rfl (by first | decide | omega) rfl rfl ?_ | refine WL.store (v := .int _ _) st.front3 ty_one2 rfl rfl rfl (by first | decide | omega) rfl rfl ?_ | refine WL.store (v := _) st.front3 ty_one2 rfl rfl rfl (by first | decide | omega) rfl rfl ?_ | refine WL.store (v := .int _ _) st.front4 ty_one2 rfl rfl rfl (by first | decide | omega) rfl rfl ?_ | refine WL.store (v := _) st.front4 ty_one2 rfl rfl rfl (by first | decide | omega) rfl rfl ?_ | refine WL.store (v := .int _ _) st.front5 ty_one2 rfl rfl rfl (by first | decide | omega) rfl rfl ?_ | refine WL.store (v := _) st.front5 ty_one2 rfl rfl rfl (by first | decide | omega) rfl rfl ?_ | refine WL.store (v := .int _ _) st.front6 ty_one2 rfl rfl rfl (by first | decide | omega) rfl rfl ?_ | refine WL.store (v := _) st.front6 ty_one2 rfl rfl rfl (by first | decide | omega) rfl rfl ?_ | refine WL.store (v := .int _ _) st.front7 ty_one2 rfl rfl rfl (by first | decide | omega) rfl rfl ?_ | refine WL.store (v := _) st.front7 ty_one2 rfl rfl rfl (by first | decide | omega) rfl rfl ?_ | refine WL.store (v := .int _ _) st.front8 ty_one2 rfl rfl rfl (by first | decide | omega) rfl rfl ?_ | refine WL.store (v := _) st.front8 ty_one2 rfl rfl rfl (by first | decide | omega) rfl rfl ?_
    intro w st
    refine WL.fin (hK255 _) (fun _ _ h => h) ?_
    refine WC.seqD fun K256 hK256 => ?_
    -- region 17
    refine WC.region ?_
    -- R17.0 6 := disk.go:135 assign
    refine WL.v (by first | exact r_assign (v := .nilIface) rfl | exact r_assign (v := .iface _ _) rfl | exact r_assign rfl) rfl rfl rfl ?_
    refine WL.fin (hK256 _) (fun _ _ h => h) ?_
    refine WC.retD1 Tryd.muLib ty_call48 Tryd.results37 (fun _ _ h => h) rfl (st) (by decide) rfl ?_
    intro w st
    have st := st_nrm (L' := dC 0 (setX D 0 (IntKind.i64.wrap (D.sx 0 + (cnt : Nat))))) rfl st
    exact ⟨_, rfl, setX D 0 (IntKind.i64.wrap (D.sx 0 + (cnt : Nat))), [], g', rfl, h.setX (by decide), by rw [hsp]; exact EV.ok, fun _ j hj => hg j (by omega), st⟩
  have hlim := h.l1; have hlim2 := h.l2; have hl3 := h.lim; have hhd := h.hd; have htl := h.tl; have hwr' := h.wr; have hple := h.ple
  rcases hN : D.N ((sn + i : Nat) : Int) with _ | q
  · skip
    refine WC.seqD fun K257 hK257 => ?_
    refine WC.seqD fun K258 hK258 => ?_
    -- region 9
    refine WC.region ?_
    -- R9.0 37 := disk.go:126 move
    refine WL.v (by first | exact r_move (v := .int _ _) rfl | exact r_move rfl) rfl rfl rfl ?_
    -- R9.1 38 := disk.go:126 move
    refine WL.v (by first | exact r_move (v := .int _ _) rfl | exact r_move rfl) rfl rfl rfl ?_
    -- R9.2 39 := disk.go:126 binOp
    refine WL.v (by first | exact r_lss rfl rfl (decide_eq_true (by omega)) | exact r_lss rfl rfl (decide_eq_false (by omega)) | exact r_lss rfl rfl rfl) rfl rfl rfl ?_
    refine WL.fin (hK258 _) (fun _ _ h => h) ?_
    refine WC.condT rfl rfl ?_
    refine WC.skipF (hK257 _) (fun _ _ h => h) ?_
    refine WC.seqD fun K259 hK259 => ?_
    refine WC.block ?_
    refine WC.seqD fun K260 hK260 => ?_
    -- region 11
    refine WC.region ?_
    -- R11.0 42 := disk.go:127 move
    refine WL.v (by first | exact r_move (v := .slice _ _ _) rfl | exact r_move rfl) rfl rfl rfl ?_
    -- R11.1 43 := disk.go:127 move
    refine WL.v (by first | exact r_move (v := .int _ _) rfl | exact r_move rfl) rfl rfl rfl ?_
    -- R11.2 44 := disk.go:127 binOp
    refine WL.v (by exact r_mul (r := ((i * 512 : Nat) : Int)) rfl rfl ((wi64 (by omega) (by omega)).trans (by omega))) rfl rfl rfl ?_
    -- R11.3 45 := disk.go:127 move
    refine WL.v (by first | exact r_move (v := .int _ _) rfl | exact r_move rfl) rfl rfl rfl ?_
    -- R11.4 46 := disk.go:127 binOp
    refine WL.v (by exact r_add (r := ((i + 1 : Nat) : Int)) rfl rfl ((wi64 (by omega) (by omega)).trans (by omega))) rfl rfl rfl ?_
    -- R11.5 47 := disk.go:127 binOp
    refine WL.v (by exact r_mul (r := (((i + 1) * 512 : Nat) : Int)) rfl rfl ((wi64 (by omega) (by omega)).trans (by omega))) rfl rfl rfl ?_
    -- R11.6 48 := disk.go:127 slice
    refine WL.v (v := .slice (some ⟨bb, 0 + i * 512, none⟩) 512 (n - i * 512)) (by exact r_slE (l := i * 512) (h := (i + 1) * 512) ty_sl29 rfl ⟨_, rfl⟩ ⟨_, rfl⟩ (by omega) (by omega) (by omega)) rfl rfl rfl ?_
    -- R11.7 10 := disk.go:127 assign
    refine WL.v (by first | exact r_assign (v := .slice _ _ _) rfl | exact r_assign rfl) rfl rfl rfl ?_
    refine WL.fin (hK260 _) (fun _ _ h => h) ?_
    refine WC.seqD fun K261 hK261 => ?_
    -- region 12
    refine WC.region ?_
    -- R12.0 50 := disk.go:128 move
    refine WL.v (by first | exact r_move (v := .pointer _) rfl | exact r_move rfl) rfl rfl rfl ?_
    -- R12.1 51 := disk.go:128 nilCheck
    refine WL.v (by exact r_nilCheck rfl) rfl rfl rfl ?_
    -- R12.2 52 := disk.go:128 fieldAddr
    refine WL.v (by exact r_field ty_fld97_2 rfl) rfl rfl rfl ?_
    -- R12.3 53 := disk.go:128 move
    refine WL.v (by first | exact r_move (v := .int _ _) rfl | exact r_move rfl) rfl rfl rfl ?_
    -- R12.4 54 := disk.go:128 move
    refine WL.v (by first | exact r_move (v := .int _ _) rfl | exact r_move rfl) rfl rfl rfl ?_
    -- R12.5 55 := disk.go:128 binOp
    refine WL.v (by exact r_add (r := ((sn + i : Nat) : Int)) rfl rfl ((wi64 (by omega) (by omega)).trans (by omega))) rfl rfl rfl ?_
    -- R12.6 56 := disk.go:128 call
    refine WL.call (r_call ty_call60 rfl) rfl rfl rfl (lookup_ok (sn + i) (by omega) (by omega) (by omega) (fun q hq => by rw [hN] at hq; cases hq) st) ?_
    rintro _ w ⟨hv, st⟩
    obtain ⟨_, rfl⟩ := hv.resolve_right (fun h => by obtain ⟨q, b, h, _⟩ := h; rw [hN] at h; cases h)
    -- R12.7 49 := disk.go:128 move
    refine WL.v (by first | exact r_move (v := .tuple _) rfl | exact r_move rfl) rfl rfl rfl ?_
    -- R12.8 57 := disk.go:128 extract
    refine WL.v (by first | exact r_extract (v := .slice _ _ _) rfl rfl | exact r_extract rfl rfl) rfl rfl rfl ?_
    -- R12.9 58 := disk.go:128 extract
    refine WL.v (by first | exact r_extract (v := .bool _) rfl rfl | exact r_extract rfl rfl) rfl rfl rfl ?_
    -- R12.10 11 := disk.go:128 assign
    refine WL.v (by first | exact r_assign (v := .slice _ _ _) rfl | exact r_assign rfl) rfl rfl rfl ?_
    -- R12.11 12 := disk.go:128 assign
    refine WL.v (by first | exact r_assign (v := .bool _) rfl | exact r_assign rfl) rfl rfl rfl ?_
    refine WL.fin (hK261 _) (fun _ _ h => h) ?_
    refine WC.seqD fun K262 hK262 => ?_
    -- region 13
    refine WC.region ?_
    -- R13.0 59 := disk.go:128 move
    refine WL.v (by first | exact r_move (v := .bool _) rfl | exact r_move rfl) rfl rfl rfl ?_
    refine WL.fin (hK262 _) (fun _ _ h => h) ?_
    refine WC.condF rfl rfl ?_
    -- region 15
    refine WC.region ?_
    -- R15.0 63 := disk.go:131 move
    refine WL.v (by first | exact r_move (v := .pointer _) rfl | exact r_move rfl) rfl rfl rfl ?_
    -- R15.1 64 := disk.go:131 nilCheck
    refine WL.v (by exact r_nilCheck rfl) rfl rfl rfl ?_
    -- R15.2 65 := disk.go:131 fieldAddr
    refine WL.v (by exact r_field ty_fld97_1 rfl) rfl rfl rfl ?_
    -- R15.3 66 := disk.go:131 move
    refine WL.v (by first | exact r_move (v := .int _ _) rfl | exact r_move rfl) rfl rfl rfl ?_
    -- R15.4 67 := disk.go:131 move
    refine WL.v (by first | exact r_move (v := .int _ _) rfl | exact r_move rfl) rfl rfl rfl ?_
    -- R15.5 68 := disk.go:131 binOp
    refine WL.v (by exact r_add (r := ((sn + i : Nat) : Int)) rfl rfl ((wi64 (by omega) (by omega)).trans (by omega))) rfl rfl rfl ?_
    -- R15.6 69 := disk.go:131 move
    refine WL.v (by first | exact r_move (v := .slice _ _ _) rfl | exact r_move rfl) rfl rfl rfl ?_
    -- R15.7 70 := disk.go:131 call
    refine WL.call (r_call ty_call61 rfl) rfl rfl rfl (load_ok (sn + i) (n - i * 512) bb (0 + i * 512) n g' (by omega) (by omega) (by omega) h.ze st) ?_
    rintro _ w st
    rw [Nat.zero_add] at st
    refine WL.fin (hK259 _) (fun _ _ h => h) ?_
    -- region 10
    refine WC.region ?_
    -- R10.0 40 := disk.go:126 move
    refine WL.v (by first | exact r_move (v := .int _ _) rfl | exact r_move rfl) rfl rfl rfl ?_
    -- R10.1 41 := disk.go:126 binOp
    refine WL.v (by exact r_add (r := ((i + 1 : Nat) : Int)) rfl rfl ((wi64 (by omega) (by omega)).trans (by omega))) rfl rfl rfl ?_
    -- R10.2 9 := disk.go:126 assign
    refine WL.v (by first | exact r_assign (v := .int _ _) rfl | exact r_assign rfl) rfl rfl rfl ?_
    have e2 : (fun j => Value.int .u8 (D.pc (sn + i) j)) = fun j => Value.int .u8 (settle P.pc P.pend (sn + i) j) := by funext j; rw [h.seen_none hN, h.pc]
    rw [e2] at st
    refine WL.next hK1 (fun _ _ h => h) (_, i + 1) ⟨by show i + 1 ≤ cnt; omega, fun j hj => rd_step hg j hj, st⟩ (by show cnt - (i + 1) < cnt - i; omega) (by repeat (first | exact sub_nil _ | refine sub_cons rfl rfl ?_))
  · obtain ⟨hq1, hq2, hq3⟩ := h.seen_some hN
    obtain ⟨b, hb⟩ := Option.ne_none_iff_exists'.1 hq2
    refine WC.seqD fun K263 hK263 => ?_
    refine WC.seqD fun K264 hK264 => ?_
    -- region 9
    refine WC.region ?_
    -- R9.0 37 := disk.go:126 move
    refine WL.v (by first | exact r_move (v := .int _ _) rfl | exact r_move rfl) rfl rfl rfl ?_
    -- R9.1 38 := disk.go:126 move
    refine WL.v (by first | exact r_move (v := .int _ _) rfl | exact r_move rfl) rfl rfl rfl ?_
    -- R9.2 39 := disk.go:126 binOp
    refine WL.v (by first | exact r_lss rfl rfl (decide_eq_true (by omega)) | exact r_lss rfl rfl (decide_eq_false (by omega)) | exact r_lss rfl rfl rfl) rfl rfl rfl ?_
    refine WL.fin (hK264 _) (fun _ _ h => h) ?_
    refine WC.condT rfl rfl ?_
    refine WC.skipF (hK263 _) (fun _ _ h => h) ?_
    refine WC.seqD fun K265 hK265 => ?_
    refine WC.block ?_
    refine WC.seqD fun K266 hK266 => ?_
    -- region 11
    refine WC.region ?_
    -- R11.0 42 := disk.go:127 move
    refine WL.v (by first | exact r_move (v := .slice _ _ _) rfl | exact r_move rfl) rfl rfl rfl ?_
    -- R11.1 43 := disk.go:127 move
    refine WL.v (by first | exact r_move (v := .int _ _) rfl | exact r_move rfl) rfl rfl rfl ?_
    -- R11.2 44 := disk.go:127 binOp
    refine WL.v (by exact r_mul (r := ((i * 512 : Nat) : Int)) rfl rfl ((wi64 (by omega) (by omega)).trans (by omega))) rfl rfl rfl ?_
    -- R11.3 45 := disk.go:127 move
    refine WL.v (by first | exact r_move (v := .int _ _) rfl | exact r_move rfl) rfl rfl rfl ?_
    -- R11.4 46 := disk.go:127 binOp
    refine WL.v (by exact r_add (r := ((i + 1 : Nat) : Int)) rfl rfl ((wi64 (by omega) (by omega)).trans (by omega))) rfl rfl rfl ?_
    -- R11.5 47 := disk.go:127 binOp
    refine WL.v (by exact r_mul (r := (((i + 1) * 512 : Nat) : Int)) rfl rfl ((wi64 (by omega) (by omega)).trans (by omega))) rfl rfl rfl ?_
    -- R11.6 48 := disk.go:127 slice
    refine WL.v (v := .slice (some ⟨bb, 0 + i * 512, none⟩) 512 (n - i * 512)) (by exact r_slE (l := i * 512) (h := (i + 1) * 512) ty_sl29 rfl ⟨_, rfl⟩ ⟨_, rfl⟩ (by omega) (by omega) (by omega)) rfl rfl rfl ?_
    -- R11.7 10 := disk.go:127 assign
    refine WL.v (by first | exact r_assign (v := .slice _ _ _) rfl | exact r_assign rfl) rfl rfl rfl ?_
    refine WL.fin (hK266 _) (fun _ _ h => h) ?_
    refine WC.seqD fun K267 hK267 => ?_
    -- region 12
    refine WC.region ?_
    -- R12.0 50 := disk.go:128 move
    refine WL.v (by first | exact r_move (v := .pointer _) rfl | exact r_move rfl) rfl rfl rfl ?_
    -- R12.1 51 := disk.go:128 nilCheck
    refine WL.v (by exact r_nilCheck rfl) rfl rfl rfl ?_
    -- R12.2 52 := disk.go:128 fieldAddr
    refine WL.v (by exact r_field ty_fld97_2 rfl) rfl rfl rfl ?_
    -- R12.3 53 := disk.go:128 move
    refine WL.v (by first | exact r_move (v := .int _ _) rfl | exact r_move rfl) rfl rfl rfl ?_
    -- R12.4 54 := disk.go:128 move
    refine WL.v (by first | exact r_move (v := .int _ _) rfl | exact r_move rfl) rfl rfl rfl ?_
    -- R12.5 55 := disk.go:128 binOp
    refine WL.v (by exact r_add (r := ((sn + i : Nat) : Int)) rfl rfl ((wi64 (by omega) (by omega)).trans (by omega))) rfl rfl rfl ?_
    -- R12.6 56 := disk.go:128 call
    refine WL.call (r_call ty_call60 rfl) rfl rfl rfl (lookup_ok (sn + i) (by omega) (by omega) (by omega) (fun q hq => h.seen_some hq |>.imp_right (fun h => h.1)) st) ?_
    rintro _ w ⟨hv, st⟩
    obtain ⟨q', b', hN', hb', rfl⟩ := hv.resolve_left (fun h => by rw [hN] at h; cases h.1)
    obtain rfl : q = q' := by rw [hN] at hN'; exact Option.some.inj hN'
    obtain rfl : b = b' := by rw [hb] at hb'; exact Option.some.inj hb'
    unfold datV
    -- R12.7 49 := disk.go:128 move
    refine WL.v (by first | exact r_move (v := .tuple _) rfl | exact r_move rfl) rfl rfl rfl ?_
    -- R12.8 57 := disk.go:128 extract
    refine WL.v (by first | exact r_extract (v := .slice _ _ _) rfl rfl | exact r_extract rfl rfl) rfl rfl rfl ?_
    -- R12.9 58 := disk.go:128 extract
    refine WL.v (by first | exact r_extract (v := .bool _) rfl rfl | exact r_extract rfl rfl) rfl rfl rfl ?_
    -- R12.10 11 := disk.go:128 assign
    refine WL.v (by first | exact r_assign (v := .slice _ _ _) rfl | exact r_assign rfl) rfl rfl rfl ?_
    -- R12.11 12 := disk.go:128 assign
    refine WL.v (by first | exact r_assign (v := .bool _) rfl | exact r_assign rfl) rfl rfl rfl ?_
    refine WL.fin (hK267 _) (fun _ _ h => h) ?_
    refine WC.seqD fun K268 hK268 => ?_
    -- region 13
    refine WC.region ?_
    -- R13.0 59 := disk.go:128 move
    refine WL.v (by first | exact r_move (v := .bool _) rfl | exact r_move rfl) rfl rfl rfl ?_
    refine WL.fin (hK268 _) (fun _ _ h => h) ?_
    refine WC.condT rfl rfl ?_
    -- region 14
    refine WC.region ?_
    -- R14.0 60 := disk.go:129 move
    refine WL.v (by first | exact r_move (v := .slice _ _ _) rfl | exact r_move rfl) rfl rfl rfl ?_
    -- R14.1 61 := disk.go:129 move
    refine WL.v (by first | exact r_move (v := .slice _ _ _) rfl | exact r_move rfl) rfl rfl rfl ?_
    -- R14.2 62 := disk.go:129 call
    have st := st_out st
    refine WL.copyM (m := 512) (m1 := 512) (o := 0 + i * 512) (bx := b) (ox := 32 + q % D.limit % 32 * 512) (news := fun j => .int .u8 (settle P.pc P.pend (sn + i) j)) st ty_sl29 rfl rfl (Nat.le_refl _) (by omega) (fun j hj => by rw [← hq3 j hj]; exact src_slab (by omega) hb _ _ (fun x hx => List.mem_cons_of_mem _ (by simp [hx])) st j hj) (fun _ _ => rfl) rfl rfl rfl ?_
    intro w st
    rw [Nat.zero_add] at st
    have st := st_in st
    refine WL.fin (hK265 _) (fun _ _ h => h) ?_
    -- region 10
    refine WC.region ?_
    -- R10.0 40 := disk.go:126 move
    refine WL.v (by first | exact r_move (v := .int _ _) rfl | exact r_move rfl) rfl rfl rfl ?_
    -- R10.1 41 := disk.go:126 binOp
    refine WL.v (by exact r_add (r := ((i + 1 : Nat) : Int)) rfl rfl ((wi64 (by omega) (by omega)).trans (by omega))) rfl rfl rfl ?_
    -- R10.2 9 := disk.go:126 assign
    refine WL.v (by first | exact r_assign (v := .int _ _) rfl | exact r_assign rfl) rfl rfl rfl ?_
    refine WL.next hK1 (fun _ _ h => h) (_, i + 1) ⟨by show i + 1 ≤ cnt; omega, fun j hj => rd_step hg j hj, st⟩ (by show cnt - (i + 1) < cnt - i; omega) (by repeat (first | exact sub_nil _ | refine sub_cons rfl rfl ?_))

set_option maxHeartbeats 32000000 in
theorem peek_ok (h : Rep D P) (sct : Int) (hsct : -9223372036854775808 ≤ sct ∧ sct ≤ 9223372036854775807) (n bb : Nat) (g : Nat → Value) (hn : n ≤ 1000000000) (st : S0 w0 (DI D 0 ((bb, Row 5 n g) :: L)) w) :
    Calls Tryd.prog 38 #[.pointer (some ⟨D.bD, 0, none⟩), .int .i64 sct, .slice (some ⟨bb, 0, none⟩) n n] w (Ret fun v w' => ∃ l1 g', EV (spanC P.sec sct n) v l1 ∧ (spanC P.sec sct n = 0 → ∀ j, j < n → g' j = .int .u8 (P.pc (sct.toNat + j / 512) (j % 512))) ∧ S0 w0 (l1 ++ DI D 0 ((bb, Row 5 n g') :: L)) w') := by
  have hs2 := h.s2; have hsec := h.sec
  by_cases hsp : spanC P.sec sct n = 0
  rotate_left
  · skip
    refine enterD [.pointer (some ⟨D.bD, 0, none⟩), .int .i64 sct, .slice (some ⟨bb, 0, none⟩) n n] Tryd.func38 rfl Tryd.ntmps38 rfl ?_
    show WC _ _ _ 47 [] [(0, .pointer (some ⟨D.bD, 0, none⟩)), (1, .int .i64 sct), (2, .slice (some ⟨bb, 0, none⟩) n n)] _
    refine WC.seqD fun K269 hK269 => ?_
    -- region 0
    refine WC.region ?_
    -- R0.0 6 := disk.go:141 assign
    refine WL.v (by first | exact r_assign (v := .nilIface) rfl | exact r_assign (v := .iface _ _) rfl | exact r_assign rfl) rfl rfl rfl ?_
    refine WL.fin (hK269 _) (fun _ _ h => h) ?_
    refine WC.seqD fun K270 hK270 => ?_
    -- region 1
    refine WC.region ?_
    -- R1.0 10 := disk.go:142 move
    refine WL.v (by first | exact r_move (v := .pointer _) rfl | exact r_move rfl) rfl rfl rfl ?_
    -- R1.1 11 := disk.go:142 nilCheck
    refine WL.v (by exact r_nilCheck rfl) rfl rfl rfl ?_
    -- R1.2 12 := disk.go:142 fieldAddr
    refine WL.v (by exact r_field ty_fld97_0 rfl) rfl rfl rfl ?_
    -- R1.3 13 := disk.go:142 call
    refine WL.lock Tryd.muLib ty_call47 (st) rfl (by decide) rfl rfl rfl rfl ?_
    intro w st
    refine WL.fin (hK270 _) (fun _ _ h => h) ?_
    refine WC.seqD fun K271 hK271 => ?_
    -- region 2
    refine WC.region ?_
    -- R2.0 14 := disk.go:143 move
    refine WL.v (by first | exact r_move (v := .pointer _) rfl | exact r_move rfl) rfl rfl rfl ?_
    -- R2.1 15 := disk.go:143 nilCheck
    refine WL.v (by exact r_nilCheck rfl) rfl rfl rfl ?_
    -- R2.2 16 := disk.go:143 fieldAddr
    refine WL.v (by exact r_field ty_fld97_0 rfl) rfl rfl rfl ?_
    -- R2.3 None := disk.go:143 defer
    refine WL.defer rfl rfl rfl ?_
    refine WL.fin (hK271 _) (fun _ _ h => h) ?_
    refine WC.seqD fun K272 hK272 => ?_
    -- region 3
    refine WC.region ?_
    -- R3.0 18 := disk.go:144 move
    refine WL.v (by first | exact r_move (v := .pointer _) rfl | exact r_move rfl) rfl rfl rfl ?_
    -- R3.1 19 := disk.go:144 move
    refine WL.v (by first | exact r_move (v := .int _ _) rfl | exact r_move rfl) rfl rfl rfl ?_
    -- R3.2 20 := disk.go:144 move
    refine WL.v (by first | exact r_move (v := .slice _ _ _) rfl | exact r_move rfl) rfl rfl rfl ?_
    -- R3.3 21 := disk.go:144 call
    refine WL.v (by exact r_len ty_usl29 rfl) rfl rfl rfl ?_
    -- R3.4 22 := disk.go:144 call
    have st := st_nrm (L' := dC 1 D) rfl st
    refine WL.call (r_call ty_call54 rfl) rfl rfl rfl (span_ok sct n _ hsct (by omega) (by omega) st) ?_
    rintro _ w hv
    obtain ⟨_, be, c2, c3, rfl, st⟩ := hv.resolve_left (fun h => hsp (by rw [← hsec]; exact h.1))
    -- R3.5 17 := disk.go:144 move
    refine WL.v (by first | exact r_move (v := .tuple _) rfl | exact r_move rfl) rfl rfl rfl ?_
    -- R3.6 23 := disk.go:144 extract
    refine WL.v (by first | exact r_extract (v := .int _ _) rfl rfl | exact r_extract rfl rfl) rfl rfl rfl ?_
    -- R3.7 24 := disk.go:144 extract
    refine WL.v (by first | exact r_extract (v := .nilIface) rfl rfl | exact r_extract (v := .iface _ _) rfl rfl | exact r_extract rfl rfl) rfl rfl rfl ?_
    -- R3.8 7 := disk.go:144 assign
    refine WL.v (by first | exact r_assign (v := .int _ _) rfl | exact r_assign rfl) rfl rfl rfl ?_
    -- R3.9 8 := disk.go:144 assign
    refine WL.v (by first | exact r_assign (v := .nilIface) rfl | exact r_assign (v := .iface _ _) rfl | exact r_assign rfl) rfl rfl rfl ?_
    refine WL.fin (hK272 _) (fun _ _ h => h) ?_
    refine WC.seqD fun K273 hK273 => ?_
    refine WC.seqD fun K274 hK274 => ?_
    -- region 4
    refine WC.region ?_
    -- R4.0 25 := disk.go:145 move
    refine WL.v (by first | exact r_move (v := .nilIface) rfl | exact r_move (v := .iface _ _) rfl | exact r_move rfl) rfl rfl rfl ?_
    -- R4.1 26 := disk.go:145 binOp
    refine WL.v (by first | exact r_nil_neq ty_ifc70 rfl | exact r_some_neq ty_ifc70 rfl) rfl rfl rfl ?_
    refine WL.fin (hK274 _) (fun _ _ h => h) ?_
    refine WC.condT rfl rfl ?_
    refine WC.seqD fun K275 hK275 => ?_
    -- region 5
    refine WC.region ?_
    -- R5.0 27 := disk.go:146 move
    refine WL.v (by first | exact r_move (v := .nilIface) rfl | exact r_move (v := .iface _ _) rfl | exact r_move rfl) rfl rfl rfl ?_
    -- R5.1 6 := disk.go:146 assign
    refine WL.v (by first | exact r_assign (v := .nilIface) rfl | exact r_assign (v := .iface _ _) rfl | exact r_assign rfl) rfl rfl rfl ?_
    refine WL.fin (hK275 _) (fun _ _ h => h) ?_
    refine WC.retD1 Tryd.muLib ty_call48 Tryd.results38 (fun _ _ h => h) rfl (st.front1) (by decide) rfl ?_
    intro w st
    have st := st_nrm (L' := dC 0 D) rfl st
    rw [hsec] at st
    exact ⟨_, rfl, _, g, EV.err hsp, fun h => absurd h hsp, st.front1⟩
  obtain ⟨hn1, hn2, hs0, hs1, hs3⟩ : n ≠ 0 ∧ n % 512 = 0 ∧ 0 ≤ sct ∧ n / 512 ≤ P.sec ∧ sct ≤ (P.sec : Int) - (n / 512 : Nat) := by
    unfold spanC at hsp
    split at hsp
    · cases hsp
    · split at hsp
      · cases hsp
      · omega
  obtain ⟨sn, rfl⟩ := Int.eq_ofNat_of_zero_le hs0
  rw [show (sn : Int).toNat = sn from rfl]
  obtain ⟨cnt, hcnt⟩ : ∃ cnt, cnt = n / 512 := ⟨_, rfl⟩
  rw [← hcnt] at hs1 hs3
  refine enterD [.pointer (some ⟨D.bD, 0, none⟩), .int .i64 (sn : Nat), .slice (some ⟨bb, 0, none⟩) n n] Tryd.func38 rfl Tryd.ntmps38 rfl ?_
  show WC _ _ _ 47 [] [(0, .pointer (some ⟨D.bD, 0, none⟩)), (1, .int .i64 (sn : Nat)), (2, .slice (some ⟨bb, 0, none⟩) n n)] _
  refine WC.seqD fun K276 hK276 => ?_
  -- region 0
  refine WC.region ?_
  -- R0.0 6 := disk.go:141 assign
  refine WL.v (by first | exact r_assign (v := .nilIface) rfl | exact r_assign (v := .iface _ _) rfl | exact r_assign rfl) rfl rfl rfl ?_
  refine WL.fin (hK276 _) (fun _ _ h => h) ?_
  refine WC.seqD fun K277 hK277 => ?_
  -- region 1
  refine WC.region ?_
  -- R1.0 10 := disk.go:142 move
  refine WL.v (by first | exact r_move (v := .pointer _) rfl | exact r_move rfl) rfl rfl rfl ?_
  -- R1.1 11 := disk.go:142 nilCheck
  refine WL.v (by exact r_nilCheck rfl) rfl rfl rfl ?_
  -- R1.2 12 := disk.go:142 fieldAddr
  refine WL.v (by exact r_field ty_fld97_0 rfl) rfl rfl rfl ?_
  -- R1.3 13 := disk.go:142 call
  refine WL.lock Tryd.muLib ty_call47 (st) rfl (by decide) rfl rfl rfl rfl ?_
  intro w st
  refine WL.fin (hK277 _) (fun _ _ h => h) ?_
  refine WC.seqD fun K278 hK278 => ?_
  -- region 2
  refine WC.region ?_
  -- R2.0 14 := disk.go:143 move
  refine WL.v (by first | exact r_move (v := .pointer _) rfl | exact r_move rfl) rfl rfl rfl ?_
  -- R2.1 15 := disk.go:143 nilCheck
  refine WL.v (by exact r_nilCheck rfl) rfl rfl rfl ?_
  -- R2.2 16 := disk.go:143 fieldAddr
  refine WL.v (by exact r_field ty_fld97_0 rfl) rfl rfl rfl ?_
  -- R2.3 None := disk.go:143 defer
  refine WL.defer rfl rfl rfl ?_
  refine WL.fin (hK278 _) (fun _ _ h => h) ?_
  refine WC.seqD fun K279 hK279 => ?_
  -- region 3
  refine WC.region ?_
  -- R3.0 18 := disk.go:144 move
  refine WL.v (by first | exact r_move (v := .pointer _) rfl | exact r_move rfl) rfl rfl rfl ?_
  -- R3.1 19 := disk.go:144 move
  refine WL.v (by first | exact r_move (v := .int _ _) rfl | exact r_move rfl) rfl rfl rfl ?_
  -- R3.2 20 := disk.go:144 move
  refine WL.v (by first | exact r_move (v := .slice _ _ _) rfl | exact r_move rfl) rfl rfl rfl ?_
  -- R3.3 21 := disk.go:144 call
  refine WL.v (by exact r_len ty_usl29 rfl) rfl rfl rfl ?_
  -- R3.4 22 := disk.go:144 call
  have st := st_nrm (L' := dC 1 D) rfl st
  refine WL.call (r_call ty_call54 rfl) rfl rfl rfl (span_ok (sn : Int) n _ hsct (by omega) (by omega) st) ?_
  rintro _ w hv
  obtain ⟨_, rfl, st⟩ := hv.resolve_right (fun h => h.1 (by rw [hsec]; exact hsp))
  rw [← hcnt]
  -- R3.5 17 := disk.go:144 move
  refine WL.v (by first | exact r_move (v := .tuple _) rfl | exact r_move rfl) rfl rfl rfl ?_
  -- R3.6 23 := disk.go:144 extract
  refine WL.v (by first | exact r_extract (v := .int _ _) rfl rfl | exact r_extract rfl rfl) rfl rfl rfl ?_
  -- R3.7 24 := disk.go:144 extract
  refine WL.v (by first | exact r_extract (v := .nilIface) rfl rfl | exact r_extract (v := .iface _ _) rfl rfl | exact r_extract rfl rfl) rfl rfl rfl ?_
  -- R3.8 7 := disk.go:144 assign
  refine WL.v (by first | exact r_assign (v := .int _ _) rfl | exact r_assign rfl) rfl rfl rfl ?_
  -- R3.9 8 := disk.go:144 assign
  refine WL.v (by first | exact r_assign (v := .nilIface) rfl | exact r_assign (v := .iface _ _) rfl | exact r_assign rfl) rfl rfl rfl ?_
  refine WL.fin (hK279 _) (fun _ _ h => h) ?_
  refine WC.seqD fun K280 hK280 => ?_
  refine WC.seqD fun K281 hK281 => ?_
  -- region 4
  refine WC.region ?_
  -- R4.0 25 := disk.go:145 move
  refine WL.v (by first | exact r_move (v := .nilIface) rfl | exact r_move (v := .iface _ _) rfl | exact r_move rfl) rfl rfl rfl ?_
  -- R4.1 26 := disk.go:145 binOp
  refine WL.v (by first | exact r_nil_neq ty_ifc70 rfl | exact r_some_neq ty_ifc70 rfl) rfl rfl rfl ?_
  refine WL.fin (hK281 _) (fun _ _ h => h) ?_
  refine WC.condF rfl rfl ?_
  refine WC.skipF (hK280 _) (fun _ _ h => h) ?_
  refine WC.seqD fun K282 hK282 => ?_
  refine WC.seqD fun K283 hK283 => ?_
  -- region 6
  refine WC.region ?_
  -- R6.0 9 := disk.go:148 assign
  refine WL.v (by first | exact r_assign (v := .int _ _) rfl | exact r_assign rfl) rfl rfl rfl ?_
  refine WL.fin (hK283 _) (fun _ _ h => h) ?_
  refine WC.block ?_
  refine WC.loop (ι := (Nat → Value) × Nat) (fun i => [(0, .pointer (some ⟨D.bD, 0, none⟩)), (1, .int .i64 (sn : Nat)), (2, .slice (some ⟨bb, 0, none⟩) n n), (7, .int .i64 (cnt : Nat)), (9, .int .i64 (i.2 : Nat))])
    (fun i w' => i.2 ≤ cnt ∧ (∀ j, j < i.2 * 512 → i.1 j = .int .u8 (P.pc (sn + j / 512) (j % 512))) ∧ S0 w0 (DI D 1 ((bb, Row 5 n i.1) :: L)) w') (fun i => cnt - i.2) (g, 0) ⟨Nat.zero_le _, fun j hj => by omega, st⟩ ?_ ?_
  · skip
    repeat (first | exact sub_nil _ | refine sub_cons rfl rfl ?_)
  rintro ⟨g', i⟩ w ⟨hic, hg, st⟩ K1 hK1
  dsimp only at hic hg st ⊢
  by_cases hlt : i < cnt
  rotate_left
  · skip
    refine WC.seqD fun K284 hK284 => ?_
    refine WC.seqD fun K285 hK285 => ?_
    -- region 7
    refine WC.region ?_
    -- R7.0 28 := disk.go:148 move
    refine WL.v (by first | exact r_move (v := .int _ _) rfl | exact r_move rfl) rfl rfl rfl ?_
    -- R7.1 29 := disk.go:148 move
    refine WL.v (by first | exact r_move (v := .int _ _) rfl | exact r_move rfl) rfl rfl rfl ?_
    -- R7.2 30 := disk.go:148 binOp
    refine WL.v (by first | exact r_lss rfl rfl (decide_eq_true (by omega)) | exact r_lss rfl rfl (decide_eq_false (by omega)) | exact r_lss rfl rfl rfl) rfl rfl rfl ?_
    refine WL.fin (hK285 _) (fun _ _ h => h) ?_
    refine WC.condF rfl rfl ?_
    refine WC.exitF (hK282 _) (fun _ _ h => h) ?_
    refine WC.seqD fun K286 hK286 => ?_
    -- region 10
    refine WC.region ?_
    -- R10.0 6 := disk.go:151 assign
    refine WL.v (by first | exact r_assign (v := .nilIface) rfl | exact r_assign (v := .iface _ _) rfl | exact r_assign rfl) rfl rfl rfl ?_
    refine WL.fin (hK286 _) (fun _ _ h => h) ?_
    refine WC.retD1 Tryd.muLib ty_call48 Tryd.results38 (fun _ _ h => h) rfl (st) (by decide) rfl ?_
    intro w st
    have st := st_nrm (L' := dC 0 D) rfl st
    exact ⟨_, rfl, [], g', by rw [hsp]; exact EV.ok, fun _ j hj => hg j (by omega), st⟩
  refine WC.seqD fun K287 hK287 => ?_
  refine WC.seqD fun K288 hK288 => ?_
  -- region 7
  refine WC.region ?_
  -- R7.0 28 := disk.go:148 move
  refine WL.v (by first | exact r_move (v := .int _ _) rfl | exact r_move rfl) rfl rfl rfl ?_
  -- R7.1 29 := disk.go:148 move
  refine WL.v (by first | exact r_move (v := .int _ _) rfl | exact r_move rfl) rfl rfl rfl ?_
  -- R7.2 30 := disk.go:148 binOp
  refine WL.v (by first | exact r_lss rfl rfl (decide_eq_true (by omega)) | exact r_lss rfl rfl (decide_eq_false (by omega)) | exact r_lss rfl rfl rfl) rfl rfl rfl ?_
  refine WL.fin (hK288 _) (fun _ _ h => h) ?_
  refine WC.condT rfl rfl ?_
  refine WC.skipF (hK287 _) (fun _ _ h => h) ?_
  refine WC.seqD fun K289 hK289 => ?_
  refine WC.block ?_
  -- region 9 (draws)
  refine WC.tailS 13 st ty_mixed (by kernel_rfl) fun w st Kq hKq => ?_
  -- R9.0 33 := disk.go:149 move
  refine SL.v (by first | exact r_move (v := .pointer _) rfl | exact r_move rfl) rfl rfl rfl ?_
  -- R9.1 34 := disk.go:149 nilCheck
  refine SL.v (by exact r_nilCheck rfl) rfl rfl rfl ?_
  -- R9.2 35 := disk.go:149 fieldAddr
  refine SL.v (by exact r_field ty_fld97_1 rfl) rfl rfl rfl ?_
  -- R9.3 36 := disk.go:149 move
  refine SL.v (by first | exact r_move (v := .int _ _) rfl | exact r_move rfl) rfl rfl rfl ?_
  -- R9.4 37 := disk.go:149 move
  refine SL.v (by first | exact r_move (v := .int _ _) rfl | exact r_move rfl) rfl rfl rfl ?_
  -- R9.5 38 := disk.go:149 binOp
  refine SL.v (by exact r_add (r := ((sn + i : Nat) : Int)) rfl rfl ((wi64 (by omega) (by omega)).trans (by omega))) rfl rfl rfl ?_
  -- R9.6 39 := disk.go:149 move
  refine SL.v (by first | exact r_move (v := .slice _ _ _) rfl | exact r_move rfl) rfl rfl rfl ?_
  -- R9.7 40 := disk.go:149 move
  refine SL.v (by first | exact r_move (v := .int _ _) rfl | exact r_move rfl) rfl rfl rfl ?_
  -- R9.8 41 := disk.go:149 binOp
  refine SL.v (by exact r_mul (r := ((i * 512 : Nat) : Int)) rfl rfl ((wi64 (by omega) (by omega)).trans (by omega))) rfl rfl rfl ?_
  -- R9.9 42 := disk.go:149 move
  refine SL.v (by first | exact r_move (v := .int _ _) rfl | exact r_move rfl) rfl rfl rfl ?_
  -- R9.10 43 := disk.go:149 binOp
  refine SL.v (by exact r_add (r := ((i + 1 : Nat) : Int)) rfl rfl ((wi64 (by omega) (by omega)).trans (by omega))) rfl rfl rfl ?_
  -- R9.11 44 := disk.go:149 binOp
  refine SL.v (by exact r_mul (r := (((i + 1) * 512 : Nat) : Int)) rfl rfl ((wi64 (by omega) (by omega)).trans (by omega))) rfl rfl rfl ?_
  -- R9.12 45 := disk.go:149 slice
  refine SL.v (val := .slice (some ⟨bb, 0 + i * 512, none⟩) 512 (n - i * 512)) (by exact r_slE (l := i * 512) (h := (i + 1) * 512) ty_sl29 rfl ⟨_, rfl⟩ ⟨_, rfl⟩ (by omega) (by omega) (by omega)) rfl rfl rfl ?_
  refine SL.fin hKq ?_
  -- R9.13 46 := disk.go:149 call
  refine WL.call (r_call ty_call61 rfl) rfl rfl rfl (load_ok (sn + i) (n - i * 512) bb (0 + i * 512) n g' (by omega) (by omega) (by omega) h.ze st) ?_
  rintro _ w st
  rw [Nat.zero_add, h.pc] at st
  refine WL.fin (hK289 _) (fun _ _ h => h) ?_
  -- region 8
  refine WC.region ?_
  -- R8.0 31 := disk.go:148 move
  refine WL.v (by first | exact r_move (v := .int _ _) rfl | exact r_move rfl) rfl rfl rfl ?_
  -- R8.1 32 := disk.go:148 binOp
  refine WL.v (by exact r_add (r := ((i + 1 : Nat) : Int)) rfl rfl ((wi64 (by omega) (by omega)).trans (by omega))) rfl rfl rfl ?_
  -- R8.2 9 := disk.go:148 assign
  refine WL.v (by first | exact r_assign (v := .int _ _) rfl | exact r_assign rfl) rfl rfl rfl ?_
  refine WL.next hK1 (fun _ _ h => h) (_, i + 1) ⟨by show i + 1 ≤ cnt; omega, fun j hj => rd_step hg j hj, st⟩ (by show cnt - (i + 1) < cnt - i; omega) (by repeat (first | exact sub_nil _ | refine sub_cons rfl rfl ?_))
end Go.Proofs.Qxb6500837aDoor

