import Derived.Test.Qxb6500837aDoorD8
set_option linter.unusedVariables false
set_option linter.unusedSimpArgs false
set_option maxRecDepth 20000
namespace Go.Proofs.Qxb6500837aDoor
open Go.RowKit Go.E1 Go.Disk
variable {w0 : World} {L l : List HI} {w : World} {D : DK} {m : Int} {P : PD}

theorem r_slE {Pg : Program} {w : World} {ρ : Operand → Value} {d : Option Tmp} {ty : TypeId} {pos : String} {af : Array Edge} {g : Option (Nat × Bool)} {x : Operand} {T e b o n c l h k : Nat} {lo hi : Option Operand} (hT : slT Pg T = some (e, 1)) (hx : ρ x = .slice (some ⟨b, o, none⟩) n c) (hl : bnd ρ 0 l lo) (hh : bnd ρ n h hi) (h1 : l + k = h) (h2 : h ≤ c) (hk : 0 < k) :
    (execOp ρ ⟨d, .slice T x lo hi none, ty, pos, af, g⟩).run Pg w = .ok (.value (.slice (some ⟨b, o + l, none⟩) k (c - l))) w := by
  have := r_slS (d := d) (ty := ty) (pos := pos) (af := af) (g := g) (w := w) (P := Pg) (m := c) (mx := none) hT hx hl hh rfl (fun _ => rfl) (by omega) h2 (Nat.le_refl _) (by omega)
  rw [this, Nat.mul_one, show h - l = k by omega]

theorem cutB_range {bs : List Int} (hb : ∀ x, x ∈ bs → 0 ≤ x ∧ x < 256) (i j : Nat) : 0 ≤ cutB bs i j ∧ cutB bs i j < 256 := by
  unfold cutB
  by_cases h : i * 512 + j < bs.length
  · exact hb _ (getD_mem h)
  · rw [List.getD_eq_getElem?_getD, List.getElem?_eq_none (by omega)]; decide

theorem destP_sec : (destP P).sec = P.sec := by unfold destP; split <;> rfl
theorem destP_lim : (destP P).lim = P.lim := by unfold destP; split <;> rfl
theorem destP_wr : (destP P).wr = P.wr := by unfold destP; split <;> rfl
theorem destP_lt (h : Rep D P) : (destP P).pend.length < (destP P).lim := by
  have := h.l1; have := h.ple
  unfold destP
  split
  · show (P.pend.drop 1).length < P.lim; rw [List.length_drop]; omega
  · omega

theorem EV.err {c : Int} {be : Nat} {c2 c3 : Value} (hc : c ≠ 0) : EV c (.iface 101 (.pointer (some ⟨be, 0, none⟩))) [EI be c c2 c3] := .inr ⟨hc, be, c2, c3, rfl, rfl⟩
theorem EV.e1 {be : Nat} {c2 c3 : Value} : EV 1 (.iface 101 (.pointer (some ⟨be, 0, none⟩))) [EI be 1 c2 c3] := .err (by decide)
theorem EV.e3 {be : Nat} {c2 c3 : Value} : EV 3 (.iface 101 (.pointer (some ⟨be, 0, none⟩))) [EI be 3 c2 c3] := .err (by decide)
theorem EV.e4 {be : Nat} {c2 c3 : Value} : EV 4 (.iface 101 (.pointer (some ⟨be, 0, none⟩))) [EI be 4 c2 c3] := .err (by decide)
theorem EV.ok : EV 0 .nilIface [] := .inl ⟨rfl, rfl, rfl⟩

set_option maxHeartbeats 32000000 in
theorem write_ok (h : Rep D P) (sct : Int) (hsct : -9223372036854775808 ≤ sct ∧ sct ≤ 9223372036854775807) (s : SV) (hs : s.ok) (hlen : s.bs.length ≤ 65536) (hrd : ∀ l' w', S0 w0 l' w' → s.rd w') (hwr : P.wr + 128 ≤ 1000000000000) (st : S0 w0 (DI D 0 L) w) :
    Calls Tryd.prog 35 #[.pointer (some ⟨D.bD, 0, none⟩), .int .i64 sct, .slice s.a s.bs.length s.c] w (Ret fun v w' => ∃ D' l1, D'.bD = D.bD ∧ Rep D' (writeP P sct s.bs).1 ∧ EV (writeP P sct s.bs).2 v l1 ∧ S0 w0 (l1 ++ DI D' 0 L) w') := by
  by_cases hdn : P.down = true
  · skip
    refine enterD [.pointer (some ⟨D.bD, 0, none⟩), .int .i64 sct, .slice s.a s.bs.length s.c] Tryd.func35 rfl Tryd.ntmps35 rfl ?_
    show WC _ _ _ 116 [] [(0, .pointer (some ⟨D.bD, 0, none⟩)), (1, .int .i64 sct), (2, .slice s.a s.bs.length s.c)] _
    refine WC.seqD fun K182 hK182 => ?_
    -- region 0
    refine WC.region ?_
    -- R0.0 6 := disk.go:85 assign
    refine WL.v (by first | exact r_assign (v := .nilIface) rfl | exact r_assign (v := .iface _ _) rfl | exact r_assign rfl) rfl rfl rfl ?_
    refine WL.fin (hK182 _) (fun _ _ h => h) ?_
    refine WC.seqD fun K183 hK183 => ?_
    -- region 1
    refine WC.region ?_
    -- R1.0 12 := disk.go:86 move
    refine WL.v (by first | exact r_move (v := .pointer _) rfl | exact r_move rfl) rfl rfl rfl ?_
    -- R1.1 13 := disk.go:86 nilCheck
    refine WL.v (by exact r_nilCheck rfl) rfl rfl rfl ?_
    -- R1.2 14 := disk.go:86 fieldAddr
    refine WL.v (by exact r_field ty_fld97_0 rfl) rfl rfl rfl ?_
    -- R1.3 15 := disk.go:86 call
    refine WL.lock Tryd.muLib ty_call47 (st) rfl (by decide) rfl rfl rfl rfl ?_
    intro w st
    refine WL.fin (hK183 _) (fun _ _ h => h) ?_
    refine WC.seqD fun K184 hK184 => ?_
    -- region 2
    refine WC.region ?_
    -- R2.0 16 := disk.go:87 move
    refine WL.v (by first | exact r_move (v := .pointer _) rfl | exact r_move rfl) rfl rfl rfl ?_
    -- R2.1 17 := disk.go:87 nilCheck
    refine WL.v (by exact r_nilCheck rfl) rfl rfl rfl ?_
    -- R2.2 18 := disk.go:87 fieldAddr
    refine WL.v (by exact r_field ty_fld97_0 rfl) rfl rfl rfl ?_
    -- R2.3 None := disk.go:87 defer
    refine WL.defer rfl rfl rfl ?_
    refine WL.fin (hK184 _) (fun _ _ h => h) ?_
    refine WC.seqD fun K185 hK185 => ?_
    refine WC.seqD fun K186 hK186 => ?_
    -- region 3
    refine WC.region ?_
    -- R3.0 19 := disk.go:88 move
    refine WL.v (by first | exact r_move (v := .pointer _) rfl | exact r_move rfl) rfl rfl rfl ?_
    -- R3.1 20 := disk.go:88 nilCheck
    refine WL.v (by exact r_nilCheck rfl) rfl rfl rfl ?_
    -- R3.2 21 := disk.go:88 fieldAddr
    refine WL.v (by exact r_field ty_fld97_3 rfl) rfl rfl rfl ?_
    -- R3.3 22 := disk.go:88 load
    have st := st_nrm (L' := dC 1 D) rfl st
    refine WL.v (v := .bool true) (by exact r_load1 ty_one4 rfl ((st.c0 (by decide)).trans (show (some (Value.bool D.down) : Option Value) = _ by rw [h.down, hdn]))) rfl rfl rfl ?_
    refine WL.fin (hK186 _) (fun _ _ h => h) ?_
    refine WC.condT rfl rfl ?_
    refine WC.seqD fun K187 hK187 => ?_
    -- region 4
    refine WC.region ?_
    -- R4.0 23 := disk.go:89 move
    refine WL.v (by first | exact r_move (v := .int _ _) rfl | exact r_move rfl) rfl rfl rfl ?_
    -- R4.1 24 := disk.go:89 call
    refine WL.call (r_call ty_call50 rfl) rfl rfl rfl (refuse_ok _ _ _ st) ?_
    rintro _ w ⟨be, rfl, st⟩
    -- R4.2 6 := disk.go:89 assign
    refine WL.v (by first | exact r_assign (v := .nilIface) rfl | exact r_assign (v := .iface _ _) rfl | exact r_assign rfl) rfl rfl rfl ?_
    refine WL.fin (hK187 _) (fun _ _ h => h) ?_
    refine WC.retD1 Tryd.muLib ty_call48 Tryd.results35 (fun _ _ h => h) rfl (st.front1) (by decide) rfl ?_
    intro w st
    have st := st_nrm (L' := dC 0 D) rfl st
    have e : writeP P sct s.bs = (P, 3) := by unfold writeP; rw [if_pos hdn]
    rw [e]
    exact ⟨_, rfl, D, _, rfl, h, EV.e3, st.front1⟩
  have hs2 := h.s2; have hsec := h.sec
  by_cases hsp : spanC P.sec sct s.bs.length = 0
  rotate_left
  · skip
    refine enterD [.pointer (some ⟨D.bD, 0, none⟩), .int .i64 sct, .slice s.a s.bs.length s.c] Tryd.func35 rfl Tryd.ntmps35 rfl ?_
    show WC _ _ _ 116 [] [(0, .pointer (some ⟨D.bD, 0, none⟩)), (1, .int .i64 sct), (2, .slice s.a s.bs.length s.c)] _
    refine WC.seqD fun K188 hK188 => ?_
    -- region 0
    refine WC.region ?_
    -- R0.0 6 := disk.go:85 assign
    refine WL.v (by first | exact r_assign (v := .nilIface) rfl | exact r_assign (v := .iface _ _) rfl | exact r_assign rfl) rfl rfl rfl ?_
    refine WL.fin (hK188 _) (fun _ _ h => h) ?_
    refine WC.seqD fun K189 hK189 => ?_
    -- region 1
    refine WC.region ?_
    -- R1.0 12 := disk.go:86 move
    refine WL.v (by first | exact r_move (v := .pointer _) rfl | exact r_move rfl) rfl rfl rfl ?_
    -- R1.1 13 := disk.go:86 nilCheck
    refine WL.v (by exact r_nilCheck rfl) rfl rfl rfl ?_
    -- R1.2 14 := disk.go:86 fieldAddr
    refine WL.v (by exact r_field ty_fld97_0 rfl) rfl rfl rfl ?_
    -- R1.3 15 := disk.go:86 call
    refine WL.lock Tryd.muLib ty_call47 (st) rfl (by decide) rfl rfl rfl rfl ?_
    intro w st
    refine WL.fin (hK189 _) (fun _ _ h => h) ?_
    refine WC.seqD fun K190 hK190 => ?_
    -- region 2
    refine WC.region ?_
    -- R2.0 16 := disk.go:87 move
    refine WL.v (by first | exact r_move (v := .pointer _) rfl | exact r_move rfl) rfl rfl rfl ?_
    -- R2.1 17 := disk.go:87 nilCheck
    refine WL.v (by exact r_nilCheck rfl) rfl rfl rfl ?_
    -- R2.2 18 := disk.go:87 fieldAddr
    refine WL.v (by exact r_field ty_fld97_0 rfl) rfl rfl rfl ?_
    -- R2.3 None := disk.go:87 defer
    refine WL.defer rfl rfl rfl ?_
    refine WL.fin (hK190 _) (fun _ _ h => h) ?_
    refine WC.seqD fun K191 hK191 => ?_
    refine WC.seqD fun K192 hK192 => ?_
    -- region 3
    refine WC.region ?_
    -- R3.0 19 := disk.go:88 move
    refine WL.v (by first | exact r_move (v := .pointer _) rfl | exact r_move rfl) rfl rfl rfl ?_
    -- R3.1 20 := disk.go:88 nilCheck
    refine WL.v (by exact r_nilCheck rfl) rfl rfl rfl ?_
    -- R3.2 21 := disk.go:88 fieldAddr
    refine WL.v (by exact r_field ty_fld97_3 rfl) rfl rfl rfl ?_
    -- R3.3 22 := disk.go:88 load
    have st := st_nrm (L' := dC 1 D) rfl st
    refine WL.v (v := .bool false) (by exact r_load1 ty_one4 rfl ((st.c0 (by decide)).trans (show (some (Value.bool D.down) : Option Value) = _ by rw [h.down]; simp [hdn]))) rfl rfl rfl ?_
    refine WL.fin (hK192 _) (fun _ _ h => h) ?_
    refine WC.condF rfl rfl ?_
    refine WC.skipF (hK191 _) (fun _ _ h => h) ?_
    refine WC.seqD fun K193 hK193 => ?_
    -- region 5
    refine WC.region ?_
    -- R5.0 26 := disk.go:91 move
    refine WL.v (by first | exact r_move (v := .pointer _) rfl | exact r_move rfl) rfl rfl rfl ?_
    -- R5.1 27 := disk.go:91 move
    refine WL.v (by first | exact r_move (v := .int _ _) rfl | exact r_move rfl) rfl rfl rfl ?_
    -- R5.2 28 := disk.go:91 move
    refine WL.v (by first | exact r_move (v := .slice _ _ _) rfl | exact r_move rfl) rfl rfl rfl ?_
    -- R5.3 29 := disk.go:91 call
    refine WL.v (by exact r_len ty_usl29 rfl) rfl rfl rfl ?_
    -- R5.4 30 := disk.go:91 call
    refine WL.call (r_call ty_call54 rfl) rfl rfl rfl (span_ok sct s.bs.length _ hsct (by omega) (by omega) st) ?_
    rintro _ w hv
    obtain ⟨_, be, c2, c3, rfl, st⟩ := hv.resolve_left (fun h => hsp (by rw [← hsec]; exact h.1))
    -- R5.5 25 := disk.go:91 move
    refine WL.v (by first | exact r_move (v := .tuple _) rfl | exact r_move rfl) rfl rfl rfl ?_
    -- R5.6 31 := disk.go:91 extract
    refine WL.v (by first | exact r_extract (v := .int _ _) rfl rfl | exact r_extract rfl rfl) rfl rfl rfl ?_
    -- R5.7 32 := disk.go:91 extract
    refine WL.v (by first | exact r_extract (v := .nilIface) rfl rfl | exact r_extract (v := .iface _ _) rfl rfl | exact r_extract rfl rfl) rfl rfl rfl ?_
    -- R5.8 7 := disk.go:91 assign
    refine WL.v (by first | exact r_assign (v := .int _ _) rfl | exact r_assign rfl) rfl rfl rfl ?_
    -- R5.9 8 := disk.go:91 assign
    refine WL.v (by first | exact r_assign (v := .nilIface) rfl | exact r_assign (v := .iface _ _) rfl | exact r_assign rfl) rfl rfl rfl ?_
    refine WL.fin (hK193 _) (fun _ _ h => h) ?_
    refine WC.seqD fun K194 hK194 => ?_
    refine WC.seqD fun K195 hK195 => ?_
    -- region 6
    refine WC.region ?_
    -- R6.0 33 := disk.go:92 move
    refine WL.v (by first | exact r_move (v := .nilIface) rfl | exact r_move (v := .iface _ _) rfl | exact r_move rfl) rfl rfl rfl ?_
    -- R6.1 34 := disk.go:92 binOp
    refine WL.v (by first | exact r_nil_neq ty_ifc70 rfl | exact r_some_neq ty_ifc70 rfl) rfl rfl rfl ?_
    refine WL.fin (hK195 _) (fun _ _ h => h) ?_
    refine WC.condT rfl rfl ?_
    refine WC.seqD fun K196 hK196 => ?_
    -- region 7
    refine WC.region ?_
    -- R7.0 35 := disk.go:93 move
    refine WL.v (by first | exact r_move (v := .nilIface) rfl | exact r_move (v := .iface _ _) rfl | exact r_move rfl) rfl rfl rfl ?_
    -- R7.1 6 := disk.go:93 assign
    refine WL.v (by first | exact r_assign (v := .nilIface) rfl | exact r_assign (v := .iface _ _) rfl | exact r_assign rfl) rfl rfl rfl ?_
    refine WL.fin (hK196 _) (fun _ _ h => h) ?_
    refine WC.retD1 Tryd.muLib ty_call48 Tryd.results35 (fun _ _ h => h) rfl (st.front1) (by decide) rfl ?_
    intro w st
    have st := st_nrm (L' := dC 0 D) rfl st
    have e : writeP P sct s.bs = (P, spanC P.sec sct s.bs.length) := by unfold writeP; rw [if_neg hdn, if_pos hsp]
    rw [e, ← hsec]
    exact ⟨_, rfl, D, _, rfl, h, EV.err (by rw [hsec]; exact hsp), st.front1⟩
  obtain ⟨hn1, hn2, hs0, hs1, hs3⟩ : s.bs.length ≠ 0 ∧ s.bs.length % 512 = 0 ∧ 0 ≤ sct ∧ s.bs.length / 512 ≤ P.sec ∧ sct ≤ (P.sec : Int) - (s.bs.length / 512 : Nat) := by
    unfold spanC at hsp
    split at hsp
    · cases hsp
    · split at hsp
      · cases hsp
      · omega
  have e : writeP P sct s.bs = writeL s.bs sct.toNat 0 (s.bs.length / 512) P := by unfold writeP; rw [if_neg hdn, if_neg (fun h => h hsp)]
  rw [e]
  obtain ⟨sn, rfl⟩ := Int.eq_ofNat_of_zero_le hs0
  rw [show (sn : Int).toNat = sn from rfl]
  obtain ⟨cnt, hcnt⟩ : ∃ cnt, cnt = s.bs.length / 512 := ⟨_, rfl⟩
  rw [← hcnt] at hs1 hs3 ⊢
  have ha := hs.adr (by omega)
  have hle := hs.le; have hcap := hs.cap
  rw [ha]
  refine enterD [.pointer (some ⟨D.bD, 0, none⟩), .int .i64 (sn : Nat), .slice (some ⟨s.b, s.o, none⟩) s.bs.length s.c] Tryd.func35 rfl Tryd.ntmps35 rfl ?_
  show WC _ _ _ 116 [] [(0, .pointer (some ⟨D.bD, 0, none⟩)), (1, .int .i64 (sn : Nat)), (2, .slice (some ⟨s.b, s.o, none⟩) s.bs.length s.c)] _
  refine WC.seqD fun K197 hK197 => ?_
  -- region 0
  refine WC.region ?_
  -- R0.0 6 := disk.go:85 assign
  refine WL.v (by first | exact r_assign (v := .nilIface) rfl | exact r_assign (v := .iface _ _) rfl | exact r_assign rfl) rfl rfl rfl ?_
  refine WL.fin (hK197 _) (fun _ _ h => h) ?_
  refine WC.seqD fun K198 hK198 => ?_
  -- region 1
  refine WC.region ?_
  -- R1.0 12 := disk.go:86 move
  refine WL.v (by first | exact r_move (v := .pointer _) rfl | exact r_move rfl) rfl rfl rfl ?_
  -- R1.1 13 := disk.go:86 nilCheck
  refine WL.v (by exact r_nilCheck rfl) rfl rfl rfl ?_
  -- R1.2 14 := disk.go:86 fieldAddr
  refine WL.v (by exact r_field ty_fld97_0 rfl) rfl rfl rfl ?_
  -- R1.3 15 := disk.go:86 call
  refine WL.lock Tryd.muLib ty_call47 (st) rfl (by decide) rfl rfl rfl rfl ?_
  intro w st
  refine WL.fin (hK198 _) (fun _ _ h => h) ?_
  refine WC.seqD fun K199 hK199 => ?_
  -- region 2
  refine WC.region ?_
  -- R2.0 16 := disk.go:87 move
  refine WL.v (by first | exact r_move (v := .pointer _) rfl | exact r_move rfl) rfl rfl rfl ?_
  -- R2.1 17 := disk.go:87 nilCheck
  refine WL.v (by exact r_nilCheck rfl) rfl rfl rfl ?_
  -- R2.2 18 := disk.go:87 fieldAddr
  refine WL.v (by exact r_field ty_fld97_0 rfl) rfl rfl rfl ?_
  -- R2.3 None := disk.go:87 defer
  refine WL.defer rfl rfl rfl ?_
  refine WL.fin (hK199 _) (fun _ _ h => h) ?_
  refine WC.seqD fun K200 hK200 => ?_
  refine WC.seqD fun K201 hK201 => ?_
  -- region 3
  refine WC.region ?_
  -- R3.0 19 := disk.go:88 move
  refine WL.v (by first | exact r_move (v := .pointer _) rfl | exact r_move rfl) rfl rfl rfl ?_
  -- R3.1 20 := disk.go:88 nilCheck
  refine WL.v (by exact r_nilCheck rfl) rfl rfl rfl ?_
  -- R3.2 21 := disk.go:88 fieldAddr
  refine WL.v (by exact r_field ty_fld97_3 rfl) rfl rfl rfl ?_
  -- R3.3 22 := disk.go:88 load
  have st := st_nrm (L' := dC 1 D) rfl st
  refine WL.v (v := .bool false) (by exact r_load1 ty_one4 rfl ((st.c0 (by decide)).trans (show (some (Value.bool D.down) : Option Value) = _ by rw [h.down]; simp [hdn]))) rfl rfl rfl ?_
  refine WL.fin (hK201 _) (fun _ _ h => h) ?_
  refine WC.condF rfl rfl ?_
  refine WC.skipF (hK200 _) (fun _ _ h => h) ?_
  refine WC.seqD fun K202 hK202 => ?_
  -- region 5
  refine WC.region ?_
  -- R5.0 26 := disk.go:91 move
  refine WL.v (by first | exact r_move (v := .pointer _) rfl | exact r_move rfl) rfl rfl rfl ?_
  -- R5.1 27 := disk.go:91 move
  refine WL.v (by first | exact r_move (v := .int _ _) rfl | exact r_move rfl) rfl rfl rfl ?_
  -- R5.2 28 := disk.go:91 move
  refine WL.v (by first | exact r_move (v := .slice _ _ _) rfl | exact r_move rfl) rfl rfl rfl ?_
  -- R5.3 29 := disk.go:91 call
  refine WL.v (by exact r_len ty_usl29 rfl) rfl rfl rfl ?_
  -- R5.4 30 := disk.go:91 call
  refine WL.call (r_call ty_call54 rfl) rfl rfl rfl (span_ok (sn : Int) s.bs.length _ hsct (by omega) (by omega) st) ?_
  rintro _ w hv
  obtain ⟨_, rfl, st⟩ := hv.resolve_right (fun h => h.1 (by rw [hsec]; exact hsp))
  rw [← hcnt]
  -- R5.5 25 := disk.go:91 move
  refine WL.v (by first | exact r_move (v := .tuple _) rfl | exact r_move rfl) rfl rfl rfl ?_
  -- R5.6 31 := disk.go:91 extract
  refine WL.v (by first | exact r_extract (v := .int _ _) rfl rfl | exact r_extract rfl rfl) rfl rfl rfl ?_
  -- R5.7 32 := disk.go:91 extract
  refine WL.v (by first | exact r_extract (v := .nilIface) rfl rfl | exact r_extract (v := .iface _ _) rfl rfl | exact r_extract rfl rfl) rfl rfl rfl ?_
  -- R5.8 7 := disk.go:91 assign
  refine WL.v (by first | exact r_assign (v := .int _ _) rfl | exact r_assign rfl) rfl rfl rfl ?_
  -- R5.9 8 := disk.go:91 assign
  refine WL.v (by first | exact r_assign (v := .nilIface) rfl | exact r_assign (v := .iface _ _) rfl | exact r_assign rfl) rfl rfl rfl ?_
  refine WL.fin (hK202 _) (fun _ _ h => h) ?_
  refine WC.seqD fun K203 hK203 => ?_
  refine WC.seqD fun K204 hK204 => ?_
  -- region 6
  refine WC.region ?_
  -- R6.0 33 := disk.go:92 move
  refine WL.v (by first | exact r_move (v := .nilIface) rfl | exact r_move (v := .iface _ _) rfl | exact r_move rfl) rfl rfl rfl ?_
  -- R6.1 34 := disk.go:92 binOp
  refine WL.v (by first | exact r_nil_neq ty_ifc70 rfl | exact r_some_neq ty_ifc70 rfl) rfl rfl rfl ?_
  refine WL.fin (hK204 _) (fun _ _ h => h) ?_
  refine WC.condF rfl rfl ?_
  refine WC.skipF (hK203 _) (fun _ _ h => h) ?_
  refine WC.seqD fun K205 hK205 => ?_
  refine WC.seqD fun K206 hK206 => ?_
  -- region 8
  refine WC.region ?_
  -- R8.0 9 := disk.go:95 assign
  refine WL.v (by first | exact r_assign (v := .int _ _) rfl | exact r_assign rfl) rfl rfl rfl ?_
  refine WL.fin (hK206 _) (fun _ _ h => h) ?_
  refine WC.block ?_
  refine WC.loop (ι := DK × PD × Nat) (fun i => [(0, .pointer (some ⟨D.bD, 0, none⟩)), (1, .int .i64 (sn : Nat)), (2, .slice (some ⟨s.b, s.o, none⟩) s.bs.length s.c), (7, .int .i64 (cnt : Nat)), (9, .int .i64 (i.2.2 : Nat))])
    (fun i w' => Rep i.1 i.2.1 ∧ i.1.bD = D.bD ∧ i.2.1.sec = P.sec ∧ i.2.1.wr + (cnt - i.2.2) ≤ 1000000000000 ∧ i.2.2 ≤ cnt ∧ writeL s.bs sn i.2.2 (cnt - i.2.2) i.2.1 = writeL s.bs sn 0 cnt P ∧ S0 w0 (DI i.1 1 L) w') (fun i => cnt - i.2.2) (D, P, 0) ⟨h, rfl, rfl, by show P.wr + (cnt - 0) ≤ _; omega, Nat.zero_le _, rfl, st⟩ ?_ ?_
  · skip
    repeat (first | exact sub_nil _ | refine sub_cons rfl rfl ?_)
  rintro ⟨D', P', i⟩ w ⟨h', ebD, esec, ewr, hic, hw, st⟩ K1 hK1
  dsimp only at h' ebD esec ewr hic hw st ⊢
  rw [← ebD]
  by_cases hlt : i < cnt
  rotate_left
  · skip
    refine WC.seqD fun K207 hK207 => ?_
    refine WC.seqD fun K208 hK208 => ?_
    -- region 9
    refine WC.region ?_
    -- R9.0 36 := disk.go:95 move
    refine WL.v (by first | exact r_move (v := .int _ _) rfl | exact r_move rfl) rfl rfl rfl ?_
    -- R9.1 37 := disk.go:95 move
    refine WL.v (by first | exact r_move (v := .int _ _) rfl | exact r_move rfl) rfl rfl rfl ?_
    -- R9.2 38 := disk.go:95 binOp
    refine WL.v (by first | exact r_lss rfl rfl (decide_eq_true (by omega)) | exact r_lss rfl rfl (decide_eq_false (by omega)) | exact r_lss rfl rfl rfl) rfl rfl rfl ?_
    refine WL.fin (hK208 _) (fun _ _ h => h) ?_
    refine WC.condF rfl rfl ?_
    refine WC.exitF (hK205 _) (fun _ _ h => h) ?_
    refine WC.seqD fun K209 hK209 => ?_
    -- region 22
    refine WC.region ?_
    -- R22.0 6 := disk.go:111 assign
    refine WL.v (by first | exact r_assign (v := .nilIface) rfl | exact r_assign (v := .iface _ _) rfl | exact r_assign rfl) rfl rfl rfl ?_
    refine WL.fin (hK209 _) (fun _ _ h => h) ?_
    refine WC.retD1 Tryd.muLib ty_call48 Tryd.results35 (fun _ _ h => h) rfl (st) (by decide) rfl ?_
    intro w st
    have st := st_nrm (L' := dC 0 D') rfl st
    rw [show cnt - i = 0 by omega] at hw
    rw [← hw]
    exact ⟨_, rfl, D', [], ebD, h', EV.ok, st⟩
  obtain ⟨rn, hrn⟩ : ∃ rn, cnt - i = rn + 1 := ⟨cnt - i - 1, by omega⟩
  rw [hrn] at hw ewr
  have hwu : writeL s.bs sn i (rn + 1) P' = if (write1 P' (sn + i) (cutB s.bs i)).2 then ((write1 P' (sn + i) (cutB s.bs i)).1, 3) else writeL s.bs sn (i + 1) rn (write1 P' (sn + i) (cutB s.bs i)).1 := rfl
  rw [hwu] at hw
  have hlim := h'.l1; have hlim2 := h'.l2; have hl3 := h'.lim; have hhd := h'.hd; have htl := h'.tl; have hwr' := h'.wr; have hple := h'.ple; have hsec' := h'.sec; have hs2' := h'.s2
  refine WC.seqD fun K210 hK210 => ?_
  refine WC.seqD fun K211 hK211 => ?_
  -- region 9
  refine WC.region ?_
  -- R9.0 36 := disk.go:95 move
  refine WL.v (by first | exact r_move (v := .int _ _) rfl | exact r_move rfl) rfl rfl rfl ?_
  -- R9.1 37 := disk.go:95 move
  refine WL.v (by first | exact r_move (v := .int _ _) rfl | exact r_move rfl) rfl rfl rfl ?_
  -- R9.2 38 := disk.go:95 binOp
  refine WL.v (by first | exact r_lss rfl rfl (decide_eq_true (by omega)) | exact r_lss rfl rfl (decide_eq_false (by omega)) | exact r_lss rfl rfl rfl) rfl rfl rfl ?_
  refine WL.fin (hK211 _) (fun _ _ h => h) ?_
  refine WC.condT rfl rfl ?_
  refine WC.skipF (hK210 _) (fun _ _ h => h) ?_
  refine WC.seqD fun K212 hK212 => ?_
  refine WC.block ?_
  refine WC.cut (ι := DK) (fun _ => [(0, .pointer (some ⟨D'.bD, 0, none⟩)), (1, .int .i64 (sn : Nat)), (2, .slice (some ⟨s.b, s.o, none⟩) s.bs.length s.c), (7, .int .i64 (cnt : Nat)), (9, .int .i64 (i : Nat))]) (fun D1 w' => D1.bD = D'.bD ∧ Rep D1 (destP P') ∧ S0 w0 (DI D1 1 L) w') ?_ ?_
  rotate_left
  · intro KC hKC
    by_cases hf : P'.pend.length = P'.lim
    · have hfull : decide (D'.tl - D'.hd = D'.limit) = true := decide_eq_true (by omega)
      have ed : destP P' = { P' with pc := stP P'.pc (P'.pend.getD 0 (0, fun _ => 0)).1 512 (P'.pend.getD 0 (0, fun _ => 0)).2, pend := P'.pend.drop 1 } := if_pos hf
      obtain ⟨p, pl, hp⟩ : ∃ p pl, P'.pend = p :: pl := by
        cases hq : P'.pend with
        | nil => rw [hq] at hf; simp at hf; omega
        | cons p pl => exact ⟨p, pl, rfl⟩
      rw [hp] at ed
      have ed : destP P' = { P' with pc := stP P'.pc p.1 512 p.2, pend := pl } := ed
      obtain ⟨b, hb, hss, hsd, hht, hps, hpr, hpN⟩ := h'.head hp
      have hr1 := h'.pop hp
      obtain ⟨ox, hox⟩ : ∃ ox, ox = 32 + D'.hd % D'.limit % 32 * 512 := ⟨_, rfl⟩
      obtain ⟨cx, hcx⟩ : ∃ cx, cx = 16384 - D'.hd % D'.limit % 32 * 512 := ⟨_, rfl⟩
      have hsrc : ∀ (l : List HI) (w' : World), (∀ x, x ∈ gather (popD D').nS (slI (popD D').sb (popD D').ss (popD D').sd) → x ∈ l) → S0 w0 l w' → ∀ j, j < 512 → w'.cell? ⟨b, ox + j, none⟩ = some (.int .u8 (p.2 j)) := fun l w' hsub st j hj => by
        rw [hox, ← hsd j (by omega)]
        exact src_slab (by omega) hb l w' hsub st j (by omega)
      refine WC.seqD fun K213 hK213 => ?_
      -- region 11
      refine WC.region ?_
      -- R11.0 41 := disk.go:96 move
      refine WL.v (by first | exact r_move (v := .pointer _) rfl | exact r_move rfl) rfl rfl rfl ?_
      -- R11.1 42 := disk.go:96 nilCheck
      refine WL.v (by exact r_nilCheck rfl) rfl rfl rfl ?_
      -- R11.2 43 := disk.go:96 fieldAddr
      refine WL.v (by exact r_field ty_fld97_2 rfl) rfl rfl rfl ?_
      -- R11.3 44 := disk.go:96 call
      refine WL.call (r_call ty_call55 rfl) rfl rfl rfl (full_ok (by omega) (by omega) (by omega) st) ?_
      rintro _ w ⟨rfl, st⟩
      rw [hfull]
      refine WL.fin (hK213 _) (fun _ _ h => h) ?_
      refine WC.condT rfl rfl ?_
      refine WC.seqD fun K214 hK214 => ?_
      -- region 12
      refine WC.region ?_
      -- R12.0 46 := disk.go:97 move
      refine WL.v (by first | exact r_move (v := .pointer _) rfl | exact r_move rfl) rfl rfl rfl ?_
      -- R12.1 47 := disk.go:97 nilCheck
      refine WL.v (by exact r_nilCheck rfl) rfl rfl rfl ?_
      -- R12.2 48 := disk.go:97 fieldAddr
      refine WL.v (by exact r_field ty_fld97_2 rfl) rfl rfl rfl ?_
      -- R12.3 49 := disk.go:97 call
      refine WL.call (r_call ty_call56 rfl) rfl rfl rfl (pop_ok b (by omega) (by omega) (by omega) hht hb (by rw [hss]; omega) (by rw [hss]; exact hpN) st) ?_
      rintro _ w ⟨rfl, st⟩
      rw [hss]
      unfold datV
      rw [← hox, ← hcx]
      -- R12.4 45 := disk.go:97 move
      refine WL.v (by first | exact r_move (v := .tuple _) rfl | exact r_move rfl) rfl rfl rfl ?_
      -- R12.5 50 := disk.go:97 extract
      refine WL.v (by first | exact r_extract (v := .int _ _) rfl rfl | exact r_extract rfl rfl) rfl rfl rfl ?_
      -- R12.6 51 := disk.go:97 extract
      refine WL.v (by first | exact r_extract (v := .slice _ _ _) rfl rfl | exact r_extract rfl rfl) rfl rfl rfl ?_
      -- R12.7 10 := disk.go:97 assign
      refine WL.v (by first | exact r_assign (v := .int _ _) rfl | exact r_assign rfl) rfl rfl rfl ?_
      -- R12.8 11 := disk.go:97 assign
      refine WL.v (by first | exact r_assign (v := .slice _ _ _) rfl | exact r_assign rfl) rfl rfl rfl ?_
      refine WL.fin (hK214 _) (fun _ _ h => h) ?_
      refine WC.seqD fun K215 hK215 => ?_
      -- region 13
      refine WC.region ?_
      -- R13.0 52 := disk.go:98 move
      refine WL.v (by first | exact r_move (v := .pointer _) rfl | exact r_move rfl) rfl rfl rfl ?_
      -- R13.1 53 := disk.go:98 nilCheck
      refine WL.v (by exact r_nilCheck rfl) rfl rfl rfl ?_
      -- R13.2 54 := disk.go:98 fieldAddr
      refine WL.v (by exact r_field ty_fld97_1 rfl) rfl rfl rfl ?_
      -- R13.3 55 := disk.go:98 move
      refine WL.v (by first | exact r_move (v := .int _ _) rfl | exact r_move rfl) rfl rfl rfl ?_
      -- R13.4 56 := disk.go:98 move
      refine WL.v (by first | exact r_move (v := .slice _ _ _) rfl | exact r_move rfl) rfl rfl rfl ?_
      -- R13.5 57 := disk.go:98 call
      refine WL.call (r_call ty_call57 rfl) rfl rfl rfl (store_ok (D := popD D') p.1 512 cx b ox p.2 (by show p.1 < D'.sectors; rw [hsec']; exact hps) (by show D'.sectors ≤ _; omega) (Nat.le_refl _) hr1.ze hsrc st) ?_
      rintro _ w ⟨eb', hz', st⟩
      have hr2 := hr1.store hpr hz'
      refine WL.fin (hK215 _) (fun _ _ h => h) ?_
      -- region 14
      refine WC.region ?_
      -- R14.0 58 := disk.go:99 move
      refine WL.v (by first | exact r_move (v := .pointer _) rfl | exact r_move rfl) rfl rfl rfl ?_
      -- R14.1 59 := disk.go:99 nilCheck
      refine WL.v (by exact r_nilCheck rfl) rfl rfl rfl ?_
      -- R14.2 60 := disk.go:99 fieldAddr
      refine WL.v (by exact r_field ty_fld97_7 rfl) rfl rfl rfl ?_
      -- R14.3 61 := disk.go:99 fieldAddr
      refine WL.v (by exact r_field ty_fld67_3 rfl) rfl rfl rfl ?_
      -- R14.4 62 := disk.go:99 load
      refine WL.v (by exact r_load1 ty_one2 rfl (by first | assumption | exact st.c0 (by first | decide | omega) | exact st.c1 (by first | decide | omega) | exact st.c2 (by first | decide | omega) | exact st.c3 (by first | decide | omega) | exact st.c4 (by first | decide | omega) | exact st.c5 (by first | decide | omega) | exact st.c6 (by first | decide | omega) | exact st.c7 (by first | decide | omega) | exact st.c8 (by first | decide | omega))) rfl rfl rfl ?_
      -- R14.5 63 := disk.go:99 binOp
      refine WL.v (by first | exact r_add rfl rfl (wi64 (by omega) (by omega)) | exact r_add rfl rfl rfl) rfl rfl rfl ?_
      -- R14.6 64 := disk.go:99 nilCheck
      refine WL.v (by exact r_nilCheck rfl) rfl rfl rfl ?_
      -- R14.7 65 := disk.go:99 fieldAddr
      refine WL.v (by exact r_field ty_fld97_7 rfl) rfl rfl rfl ?_
      -- R14.8 66 := disk.go:99 fieldAddr
      refine WL.v (by exact r_field ty_fld67_3 rfl) rfl rfl rfl ?_
      -- R14.9 None := disk.go:99 store
      first | refine WL.store (v := .int _ _) st ty_one2 rfl rfl rfl (by first | decide | omega) rfl rfl ?_ | refine WL.store (v := _) st ty_one2 rfl rfl rfl (by first | decide | omega) rfl rfl ?_ | refine WL.store (v := .int _ _) st.front1 ty_one2 rfl rfl rfl (by first | decide | omega) rfl rfl ?_ | refine WL.store (v := _) st.front1 ty_one2 rfl rfl rfl (by first | decide | omega) rfl rfl ?_ | refine WL.store (v := .int _ _) st.front2 ty_one2 rfl rfl rfl (by first | decide | omega) rfl rfl ?_ | refine WL.store (v := _) st.front2 ty_one2 rfl rfl rfl (by first | decide | omega) rfl rfl ?_ | refine WL.store (v := .int _ _) st.front3 ty_one2 rfl rfl rfl (by first | decide | omega) rfl rfl ?_ | refine WL.store (v := _) st.front3 ty_one2 rfl rfl rfl (by first | decide | omega) rfl rfl ?_ | refine WL.store (v := .int _ _) st.front4 ty_one2 rfl rfl rfl (by first | decide | omega) rfl rfl ?_ | refine WL.store (v := _) st.front4 ty_one2 rfl rfl rfl (by first | decide | omega) rfl rfl ?_ | refine WL.store (v := .int _ _) st.front5 ty_one2 rfl rfl rfl (by first | decide | omega) rfl rfl ?_ | refine WL.store (v := _) st.front5 ty_one2 rfl rfl rfl (by first | decide | omega) rfl rfl ?_ | refine WL.store (v := .int _ _) st.front6 ty_one2 rfl rfl rfl (by first | decide | omega) rfl rfl ?_ | refine WL.store (v := _) st.front6 ty_one2 rfl rfl rfl (by first | decide | omega) rfl rfl ?_ | refine WL.store (v := .int _ _) st.front7 ty_one2 rfl rfl rfl (by first | decide | omega) rfl rfl ?_ | refine WL.store (v := _) st.front7 ty_one2 rfl rfl rfl (by first | decide | omega) rfl rfl ?_ | refine WL.store (v := .int _ _) st.front8 ty_one2 rfl rfl rfl (by first | decide | omega) rfl rfl ?_ | refine WL.store (v := _) st.front8 ty_one2 rfl rfl rfl (by first | decide | omega) rfl rfl ?_
      intro w st
      have st := st_nrm (L' := dC 1 (setX { popD D' with eb := eb', pc := stP D'.pc p.1 512 p.2 } 3 (IntKind.i64.wrap (D'.sx 3 + 1)))) rfl st
      refine WL.join hKC (fun _ _ h => h) (setX { popD D' with eb := eb', pc := stP D'.pc p.1 512 p.2 } 3 (IntKind.i64.wrap (D'.sx 3 + 1))) ⟨rfl, by rw [ed]; exact hr2.setX (by decide), st⟩ (by repeat (first | exact sub_nil _ | refine sub_cons rfl rfl ?_))
    · have hfull : decide (D'.tl - D'.hd = D'.limit) = false := decide_eq_false (by omega)
      have ed : destP P' = P' := if_neg hf
      refine WC.seqD fun K216 hK216 => ?_
      -- region 11
      refine WC.region ?_
      -- R11.0 41 := disk.go:96 move
      refine WL.v (by first | exact r_move (v := .pointer _) rfl | exact r_move rfl) rfl rfl rfl ?_
      -- R11.1 42 := disk.go:96 nilCheck
      refine WL.v (by exact r_nilCheck rfl) rfl rfl rfl ?_
      -- R11.2 43 := disk.go:96 fieldAddr
      refine WL.v (by exact r_field ty_fld97_2 rfl) rfl rfl rfl ?_
      -- R11.3 44 := disk.go:96 call
      refine WL.call (r_call ty_call55 rfl) rfl rfl rfl (full_ok (by omega) (by omega) (by omega) st) ?_
      rintro _ w ⟨rfl, st⟩
      rw [hfull]
      refine WL.fin (hK216 _) (fun _ _ h => h) ?_
      refine WC.condF rfl rfl ?_
      refine WC.skipJ hKC (fun _ _ h => h) D' ⟨rfl, by rw [ed]; exact h', st⟩ (by repeat (first | exact sub_nil _ | refine sub_cons rfl rfl ?_))
  rintro D1 w ⟨eD1, h1, st⟩
  have hdl := destP_lt h'
  obtain ⟨P1, hP1⟩ : ∃ P1, P1 = destP P' := ⟨_, rfl⟩
  have e1 : P1.sec = P.sec := by rw [hP1, destP_sec, esec]
  have e2 : P1.wr = P'.wr := by rw [hP1, destP_wr]
  have hwr1 : write1 P' (sn + i) (cutB s.bs i) = fuseP (pushP P1 (sn + i) (cutB s.bs i)) := by rw [hP1]; rfl
  rw [← hP1] at h1 hdl
  rw [hwr1] at hw
  rw [← eD1]
  have hL1 := h1.l1; have hL2 := h1.l2; have hL3 := h1.lim; have hW := h1.wr; have hT := h1.tl
  have hsrc : ∀ (l : List HI) (w' : World), S0 w0 l w' → ∀ j, j < 512 → w'.cell? ⟨s.b, s.o + i * 512 + j, none⟩ = some (.int .u8 (cutB s.bs i j)) := fun l w' st j hj => by
    rw [Nat.add_assoc]
    exact hrd l w' st (i * 512 + j) (by omega)
  refine WC.seqD fun K217 hK217 => ?_
  -- region 15 (draws)
  refine WC.tailS 13 st ty_mixed (by kernel_rfl) fun w st Kq hKq => ?_
  -- R15.0 67 := disk.go:101 move
  refine SL.v (by first | exact r_move (v := .pointer _) rfl | exact r_move rfl) rfl rfl rfl ?_
  -- R15.1 68 := disk.go:101 nilCheck
  refine SL.v (by exact r_nilCheck rfl) rfl rfl rfl ?_
  -- R15.2 69 := disk.go:101 fieldAddr
  refine SL.v (by exact r_field ty_fld97_2 rfl) rfl rfl rfl ?_
  -- R15.3 70 := disk.go:101 move
  refine SL.v (by first | exact r_move (v := .int _ _) rfl | exact r_move rfl) rfl rfl rfl ?_
  -- R15.4 71 := disk.go:101 move
  refine SL.v (by first | exact r_move (v := .int _ _) rfl | exact r_move rfl) rfl rfl rfl ?_
  -- R15.5 72 := disk.go:101 binOp
  refine SL.v (by exact r_add (r := ((sn + i : Nat) : Int)) rfl rfl ((wi64 (by omega) (by omega)).trans (by omega))) rfl rfl rfl ?_
  -- R15.6 73 := disk.go:101 move
  refine SL.v (by first | exact r_move (v := .slice _ _ _) rfl | exact r_move rfl) rfl rfl rfl ?_
  -- R15.7 74 := disk.go:101 move
  refine SL.v (by first | exact r_move (v := .int _ _) rfl | exact r_move rfl) rfl rfl rfl ?_
  -- R15.8 75 := disk.go:101 binOp
  refine SL.v (by exact r_mul (r := ((i * 512 : Nat) : Int)) rfl rfl ((wi64 (by omega) (by omega)).trans (by omega))) rfl rfl rfl ?_
  -- R15.9 76 := disk.go:101 move
  refine SL.v (by first | exact r_move (v := .int _ _) rfl | exact r_move rfl) rfl rfl rfl ?_
  -- R15.10 77 := disk.go:101 binOp
  refine SL.v (by exact r_add (r := ((i + 1 : Nat) : Int)) rfl rfl ((wi64 (by omega) (by omega)).trans (by omega))) rfl rfl rfl ?_
  -- R15.11 78 := disk.go:101 binOp
  refine SL.v (by exact r_mul (r := (((i + 1) * 512 : Nat) : Int)) rfl rfl ((wi64 (by omega) (by omega)).trans (by omega))) rfl rfl rfl ?_
  -- R15.12 79 := disk.go:101 slice
  refine SL.v (val := .slice (some ⟨s.b, s.o + i * 512, none⟩) 512 (s.c - i * 512)) (by exact r_slE (l := i * 512) (h := (i + 1) * 512) ty_sl29 rfl ⟨_, rfl⟩ ⟨_, rfl⟩ (by omega) (by omega) (by omega)) rfl rfl rfl ?_
  refine SL.fin hKq ?_
  -- R15.13 80 := disk.go:101 call
  refine WL.call (r_call ty_call58 rfl) rfl rfl rfl (push_ok (sn + i) (s.c - i * 512) s.b (s.o + i * 512) (cutB s.bs i) (by omega) (by omega) (by omega) (by omega) h1.zs hsrc st) ?_
  rintro _ w ⟨sb', hzs, hsb1, hsb2, st⟩
  refine WL.fin (hK217 _) (fun _ _ h => h) ?_
  refine WC.seqD fun K218 hK218 => ?_
  -- region 16
  refine WC.region ?_
  -- R16.0 81 := disk.go:102 move
  refine WL.v (by first | exact r_move (v := .pointer _) rfl | exact r_move rfl) rfl rfl rfl ?_
  -- R16.1 82 := disk.go:102 nilCheck
  refine WL.v (by exact r_nilCheck rfl) rfl rfl rfl ?_
  -- R16.2 83 := disk.go:102 fieldAddr
  refine WL.v (by exact r_field ty_fld97_7 rfl) rfl rfl rfl ?_
  -- R16.3 84 := disk.go:102 fieldAddr
  refine WL.v (by exact r_field ty_fld67_1 rfl) rfl rfl rfl ?_
  -- R16.4 85 := disk.go:102 load
  refine WL.v (by exact r_load1 ty_one2 rfl (by first | assumption | exact st.c0 (by first | decide | omega) | exact st.c1 (by first | decide | omega) | exact st.c2 (by first | decide | omega) | exact st.c3 (by first | decide | omega) | exact st.c4 (by first | decide | omega) | exact st.c5 (by first | decide | omega) | exact st.c6 (by first | decide | omega) | exact st.c7 (by first | decide | omega) | exact st.c8 (by first | decide | omega))) rfl rfl rfl ?_
  -- R16.5 86 := disk.go:102 binOp
  refine WL.v (by exact r_add (a := D1.sx 1) (r := ((P1.wr + 1 : Nat) : Int)) rfl rfl (by rw [h1.sx]; exact (wi64 (by omega) (by omega)).trans (by omega))) rfl rfl rfl ?_
  -- R16.6 87 := disk.go:102 nilCheck
  refine WL.v (by exact r_nilCheck rfl) rfl rfl rfl ?_
  -- R16.7 88 := disk.go:102 fieldAddr
  refine WL.v (by exact r_field ty_fld97_7 rfl) rfl rfl rfl ?_
  -- R16.8 89 := disk.go:102 fieldAddr
  refine WL.v (by exact r_field ty_fld67_1 rfl) rfl rfl rfl ?_
  -- R16.9 None := disk.go:102 store
  first | refine WL.store (v := .int _ _) st ty_one2 rfl rfl rfl (by first | decide | omega) rfl rfl ?_ | refine WL.store (v := _) st ty_one2 rfl rfl rfl (by first | decide | omega) rfl rfl ?_ | refine WL.store (v := .int _ _) st.front1 ty_one2 rfl rfl rfl (by first | decide | omega) rfl rfl ?_ | refine WL.store (v := _) st.front1 ty_one2 rfl rfl rfl (by first | decide | omega) rfl rfl ?_ | refine WL.store (v := .int _ _) st.front2 ty_one2 rfl rfl rfl (by first | decide | omega) rfl rfl ?_ | refine WL.store (v := _) st.front2 ty_one2 rfl rfl rfl (by first | decide | omega) rfl rfl ?_ | refine WL.store (v := .int _ _) st.front3 ty_one2 rfl rfl rfl (by first | decide | omega) rfl rfl ?_ | refine WL.store (v := _) st.front3 ty_one2 rfl rfl rfl (by first | decide | omega) rfl rfl ?_ | refine WL.store (v := .int _ _) st.front4 ty_one2 rfl rfl rfl (by first | decide | omega) rfl rfl ?_ | refine WL.store (v := _) st.front4 ty_one2 rfl rfl rfl (by first | decide | omega) rfl rfl ?_ | refine WL.store (v := .int _ _) st.front5 ty_one2 rfl rfl rfl (by first | decide | omega) rfl rfl ?_ | refine WL.store (v := _) st.front5 ty_one2 rfl rfl rfl (by first | decide | omega) rfl rfl ?_ | refine WL.store (v := .int _ _) st.front6 ty_one2 rfl rfl rfl (by first | decide | omega) rfl rfl ?_ | refine WL.store (v := _) st.front6 ty_one2 rfl rfl rfl (by first | decide | omega) rfl rfl ?_ | refine WL.store (v := .int _ _) st.front7 ty_one2 rfl rfl rfl (by first | decide | omega) rfl rfl ?_ | refine WL.store (v := _) st.front7 ty_one2 rfl rfl rfl (by first | decide | omega) rfl rfl ?_ | refine WL.store (v := .int _ _) st.front8 ty_one2 rfl rfl rfl (by first | decide | omega) rfl rfl ?_ | refine WL.store (v := _) st.front8 ty_one2 rfl rfl rfl (by first | decide | omega) rfl rfl ?_
  intro w st
  refine WL.fin (hK218 _) (fun _ _ h => h) ?_
  have st : S0 w0 (DI (setX (pushD D1 sb' (sn + i) (cutB s.bs i)) 1 ((P1.wr + 1 : Nat) : Int)) 1 L) w := st_nrm (L' := dC 1 (setX (pushD D1 sb' (sn + i) (cutB s.bs i)) 1 ((P1.wr + 1 : Nat) : Int))) rfl st
  have h2 : Rep (setX (pushD D1 sb' (sn + i) (cutB s.bs i)) 1 ((P1.wr + 1 : Nat) : Int)) (pushP P1 (sn + i) (cutB s.bs i)) := h1.push (by omega) (cutB_range hs.byt i) hdl (by omega) hzs hsb1 hsb2 (if_pos rfl)
  obtain ⟨D2, hD2⟩ : ∃ D2, D2 = setX (pushD D1 sb' (sn + i) (cutB s.bs i)) 1 ((P1.wr + 1 : Nat) : Int) := ⟨_, rfl⟩
  obtain ⟨P2, hP2⟩ : ∃ P2, P2 = pushP P1 (sn + i) (cutB s.bs i) := ⟨_, rfl⟩
  have e3 : P2.sec = P.sec := by rw [hP2]; exact e1
  have e4 : P2.wr = P'.wr + 1 := by rw [hP2]; show P1.wr + 1 = _; rw [e2]
  have eb2 : D2.bD = D1.bD := by rw [hD2]; rfl
  have eb3 : D2.bD = D.bD := by rw [eb2, eD1, ebD]
  rw [← hD2] at st h2
  rw [← hP2] at h2 hw
  rw [← eb2]
  by_cases harm : P2.armed = true
  rotate_left
  · skip
    have ef : fuseP P2 = (P2, false) := if_neg harm
    rw [ef, if_neg (by simp)] at hw
    refine WC.seqD fun K219 hK219 => ?_
    -- region 17
    refine WC.region ?_
    -- R17.0 90 := disk.go:103 move
    refine WL.v (by first | exact r_move (v := .pointer _) rfl | exact r_move rfl) rfl rfl rfl ?_
    -- R17.1 91 := disk.go:103 nilCheck
    refine WL.v (by exact r_nilCheck rfl) rfl rfl rfl ?_
    -- R17.2 92 := disk.go:103 fieldAddr
    refine WL.v (by exact r_field ty_fld97_4 rfl) rfl rfl rfl ?_
    -- R17.3 93 := disk.go:103 load
    refine WL.v (v := .bool false) (by exact r_load1 ty_one4 rfl ((st.c0 (by decide)).trans (show (some (Value.bool D2.armed) : Option Value) = _ by rw [h2.armed]; simp [harm]))) rfl rfl rfl ?_
    refine WL.fin (hK219 _) (fun _ _ h => h) ?_
    refine WC.condF rfl rfl ?_
    refine WC.skipF (hK212 _) (fun _ _ h => h) ?_
    -- region 10
    refine WC.region ?_
    -- R10.0 39 := disk.go:95 move
    refine WL.v (by first | exact r_move (v := .int _ _) rfl | exact r_move rfl) rfl rfl rfl ?_
    -- R10.1 40 := disk.go:95 binOp
    refine WL.v (by exact r_add (r := ((i + 1 : Nat) : Int)) rfl rfl ((wi64 (by omega) (by omega)).trans (by omega))) rfl rfl rfl ?_
    -- R10.2 9 := disk.go:95 assign
    refine WL.v (by first | exact r_assign (v := .int _ _) rfl | exact r_assign rfl) rfl rfl rfl ?_
    rw [eb3]
    refine WL.next hK1 (fun _ _ h => h) (D2, P2, i + 1) ⟨h2, eb3, e3, by show P2.wr + (cnt - (i + 1)) ≤ _; omega, by show i + 1 ≤ cnt; omega, by show writeL s.bs sn (i + 1) (cnt - (i + 1)) P2 = _; rw [show cnt - (i + 1) = rn by omega]; exact hw, st⟩ (by show cnt - (i + 1) < cnt - i; omega) (by repeat (first | exact sub_nil _ | refine sub_cons rfl rfl ?_))
  obtain ⟨hz1, hz2⟩ := h2.fz harm
  have hz0 : 0 ≤ P2.fuse - 1 + (P2.wr : Int) := by
    have := (h1.fz (by rw [hP2] at harm; exact harm)).1
    have e5 : P2.fuse = P1.fuse := by rw [hP2]; rfl
    omega
  by_cases hf0 : P2.fuse - 1 = 0
  rotate_left
  · have ef : fuseP P2 = ({ P2 with fuse := P2.fuse - 1 }, false) := by unfold fuseP; rw [if_pos harm, if_neg hf0]
    rw [ef, if_neg (by simp)] at hw
    refine WC.seqD fun K220 hK220 => ?_
    -- region 17
    refine WC.region ?_
    -- R17.0 90 := disk.go:103 move
    refine WL.v (by first | exact r_move (v := .pointer _) rfl | exact r_move rfl) rfl rfl rfl ?_
    -- R17.1 91 := disk.go:103 nilCheck
    refine WL.v (by exact r_nilCheck rfl) rfl rfl rfl ?_
    -- R17.2 92 := disk.go:103 fieldAddr
    refine WL.v (by exact r_field ty_fld97_4 rfl) rfl rfl rfl ?_
    -- R17.3 93 := disk.go:103 load
    refine WL.v (v := .bool true) (by exact r_load1 ty_one4 rfl ((st.c0 (by decide)).trans (show (some (Value.bool D2.armed) : Option Value) = _ by rw [h2.armed, harm]))) rfl rfl rfl ?_
    refine WL.fin (hK220 _) (fun _ _ h => h) ?_
    refine WC.condT rfl rfl ?_
    refine WC.seqD fun K221 hK221 => ?_
    -- region 18
    refine WC.region ?_
    -- R18.0 94 := disk.go:104 move
    refine WL.v (by first | exact r_move (v := .pointer _) rfl | exact r_move rfl) rfl rfl rfl ?_
    -- R18.1 95 := disk.go:104 nilCheck
    refine WL.v (by exact r_nilCheck rfl) rfl rfl rfl ?_
    -- R18.2 96 := disk.go:104 fieldAddr
    refine WL.v (by exact r_field ty_fld97_5 rfl) rfl rfl rfl ?_
    -- R18.3 97 := disk.go:104 load
    refine WL.v (v := .int .i64 P2.fuse) (by exact r_load1 ty_one2 rfl ((st.c0 (by decide)).trans (show (some (Value.int .i64 D2.fuse) : Option Value) = _ by rw [h2.fuse]))) rfl rfl rfl ?_
    -- R18.4 98 := disk.go:104 binOp
    refine WL.v (by first | exact r_sub rfl rfl (wi64 (by omega) (by omega)) | exact r_sub rfl rfl rfl) rfl rfl rfl ?_
    -- R18.5 99 := disk.go:104 nilCheck
    refine WL.v (by exact r_nilCheck rfl) rfl rfl rfl ?_
    -- R18.6 100 := disk.go:104 fieldAddr
    refine WL.v (by exact r_field ty_fld97_5 rfl) rfl rfl rfl ?_
    -- R18.7 None := disk.go:104 store
    first | refine WL.store (v := .int _ _) st ty_one2 rfl rfl rfl (by first | decide | omega) rfl rfl ?_ | refine WL.store (v := _) st ty_one2 rfl rfl rfl (by first | decide | omega) rfl rfl ?_ | refine WL.store (v := .int _ _) st.front1 ty_one2 rfl rfl rfl (by first | decide | omega) rfl rfl ?_ | refine WL.store (v := _) st.front1 ty_one2 rfl rfl rfl (by first | decide | omega) rfl rfl ?_ | refine WL.store (v := .int _ _) st.front2 ty_one2 rfl rfl rfl (by first | decide | omega) rfl rfl ?_ | refine WL.store (v := _) st.front2 ty_one2 rfl rfl rfl (by first | decide | omega) rfl rfl ?_ | refine WL.store (v := .int _ _) st.front3 ty_one2 rfl rfl rfl (by first | decide | omega) rfl rfl ?_ | refine WL.store (v := _) st.front3 ty_one2 rfl rfl rfl (by first | decide | omega) rfl rfl ?_ | refine WL.store (v := .int _ _) st.front4 ty_one2 rfl rfl rfl (by first | decide | omega) rfl rfl ?_ | refine WL.store (v := _) st.front4 ty_one2 rfl rfl rfl (by first | decide | omega) rfl rfl ?_ | refine WL.store (v := .int _ _) st.front5 ty_one2 rfl rfl rfl (by first | decide | omega) rfl rfl ?_ | refine WL.store (v := _) st.front5 ty_one2 rfl rfl rfl (by first | decide | omega) rfl rfl ?_ | refine WL.store (v := .int _ _) st.front6 ty_one2 rfl rfl rfl (by first | decide | omega) rfl rfl ?_ | refine WL.store (v := _) st.front6 ty_one2 rfl rfl rfl (by first | decide | omega) rfl rfl ?_ | refine WL.store (v := .int _ _) st.front7 ty_one2 rfl rfl rfl (by first | decide | omega) rfl rfl ?_ | refine WL.store (v := _) st.front7 ty_one2 rfl rfl rfl (by first | decide | omega) rfl rfl ?_ | refine WL.store (v := .int _ _) st.front8 ty_one2 rfl rfl rfl (by first | decide | omega) rfl rfl ?_ | refine WL.store (v := _) st.front8 ty_one2 rfl rfl rfl (by first | decide | omega) rfl rfl ?_
    intro w st
    refine WL.fin (hK221 _) (fun _ _ h => h) ?_
    refine WC.seqD fun K222 hK222 => ?_
    -- region 19
    refine WC.region ?_
    -- R19.0 101 := disk.go:105 move
    refine WL.v (by first | exact r_move (v := .pointer _) rfl | exact r_move rfl) rfl rfl rfl ?_
    -- R19.1 102 := disk.go:105 nilCheck
    refine WL.v (by exact r_nilCheck rfl) rfl rfl rfl ?_
    -- R19.2 103 := disk.go:105 fieldAddr
    refine WL.v (by exact r_field ty_fld97_5 rfl) rfl rfl rfl ?_
    -- R19.3 104 := disk.go:105 load
    refine WL.v (by exact r_load1 ty_one2 rfl (by first | assumption | exact st.c0 (by first | decide | omega) | exact st.c1 (by first | decide | omega) | exact st.c2 (by first | decide | omega) | exact st.c3 (by first | decide | omega) | exact st.c4 (by first | decide | omega) | exact st.c5 (by first | decide | omega) | exact st.c6 (by first | decide | omega) | exact st.c7 (by first | decide | omega) | exact st.c8 (by first | decide | omega))) rfl rfl rfl ?_
    -- R19.4 105 := disk.go:105 binOp
    refine WL.v (by first | exact r_eql rfl rfl (decide_eq_true (by omega)) | exact r_eql rfl rfl (decide_eq_false (by omega)) | exact r_eql rfl rfl rfl) rfl rfl rfl ?_
    refine WL.fin (hK222 _) (fun _ _ h => h) ?_
    refine WC.condF rfl rfl ?_
    refine WC.skipF (hK212 _) (fun _ _ h => h) ?_
    -- region 10
    refine WC.region ?_
    -- R10.0 39 := disk.go:95 move
    refine WL.v (by first | exact r_move (v := .int _ _) rfl | exact r_move rfl) rfl rfl rfl ?_
    -- R10.1 40 := disk.go:95 binOp
    refine WL.v (by exact r_add (r := ((i + 1 : Nat) : Int)) rfl rfl ((wi64 (by omega) (by omega)).trans (by omega))) rfl rfl rfl ?_
    -- R10.2 9 := disk.go:95 assign
    refine WL.v (by first | exact r_assign (v := .int _ _) rfl | exact r_assign rfl) rfl rfl rfl ?_
    have st := st_nrm (L' := dC 1 { D2 with fuse := P2.fuse - 1 }) rfl st
    rw [eb3]
    refine WL.next hK1 (fun _ _ h => h) ({ D2 with fuse := P2.fuse - 1 }, { P2 with fuse := P2.fuse - 1 }, i + 1) ⟨{ h2 with fuse := rfl, fz := fun _ => by show 0 ≤ P2.fuse - 1 + (P2.wr : Int) ∧ P2.fuse - 1 ≤ _; omega }, eb3, e3, by show P2.wr + (cnt - (i + 1)) ≤ _; omega, by show i + 1 ≤ cnt; omega, by show writeL s.bs sn (i + 1) (cnt - (i + 1)) _ = _; rw [show cnt - (i + 1) = rn by omega]; exact hw, st⟩ (by show cnt - (i + 1) < cnt - i; omega) (by repeat (first | exact sub_nil _ | refine sub_cons rfl rfl ?_))
  have ef : fuseP P2 = (crashP { P2 with fuse := P2.fuse - 1 } P2.keep P2.tear P2.tb, true) := by unfold fuseP; rw [if_pos harm, if_pos hf0]
  rw [ef, if_pos rfl] at hw
  obtain ⟨ks, hkv, hkb, hko, hkr⟩ := h2.kv.bo.sv
  refine WC.seqD fun K223 hK223 => ?_
  -- region 17
  refine WC.region ?_
  -- R17.0 90 := disk.go:103 move
  refine WL.v (by first | exact r_move (v := .pointer _) rfl | exact r_move rfl) rfl rfl rfl ?_
  -- R17.1 91 := disk.go:103 nilCheck
  refine WL.v (by exact r_nilCheck rfl) rfl rfl rfl ?_
  -- R17.2 92 := disk.go:103 fieldAddr
  refine WL.v (by exact r_field ty_fld97_4 rfl) rfl rfl rfl ?_
  -- R17.3 93 := disk.go:103 load
  refine WL.v (v := .bool true) (by exact r_load1 ty_one4 rfl ((st.c0 (by decide)).trans (show (some (Value.bool D2.armed) : Option Value) = _ by rw [h2.armed, harm]))) rfl rfl rfl ?_
  refine WL.fin (hK223 _) (fun _ _ h => h) ?_
  refine WC.condT rfl rfl ?_
  refine WC.seqD fun K224 hK224 => ?_
  -- region 18
  refine WC.region ?_
  -- R18.0 94 := disk.go:104 move
  refine WL.v (by first | exact r_move (v := .pointer _) rfl | exact r_move rfl) rfl rfl rfl ?_
  -- R18.1 95 := disk.go:104 nilCheck
  refine WL.v (by exact r_nilCheck rfl) rfl rfl rfl ?_
  -- R18.2 96 := disk.go:104 fieldAddr
  refine WL.v (by exact r_field ty_fld97_5 rfl) rfl rfl rfl ?_
  -- R18.3 97 := disk.go:104 load
  refine WL.v (v := .int .i64 P2.fuse) (by exact r_load1 ty_one2 rfl ((st.c0 (by decide)).trans (show (some (Value.int .i64 D2.fuse) : Option Value) = _ by rw [h2.fuse]))) rfl rfl rfl ?_
  -- R18.4 98 := disk.go:104 binOp
  refine WL.v (by first | exact r_sub rfl rfl (wi64 (by omega) (by omega)) | exact r_sub rfl rfl rfl) rfl rfl rfl ?_
  -- R18.5 99 := disk.go:104 nilCheck
  refine WL.v (by exact r_nilCheck rfl) rfl rfl rfl ?_
  -- R18.6 100 := disk.go:104 fieldAddr
  refine WL.v (by exact r_field ty_fld97_5 rfl) rfl rfl rfl ?_
  -- R18.7 None := disk.go:104 store
  first | refine WL.store (v := .int _ _) st ty_one2 rfl rfl rfl (by first | decide | omega) rfl rfl ?_ | refine WL.store (v := _) st ty_one2 rfl rfl rfl (by first | decide | omega) rfl rfl ?_ | refine WL.store (v := .int _ _) st.front1 ty_one2 rfl rfl rfl (by first | decide | omega) rfl rfl ?_ | refine WL.store (v := _) st.front1 ty_one2 rfl rfl rfl (by first | decide | omega) rfl rfl ?_ | refine WL.store (v := .int _ _) st.front2 ty_one2 rfl rfl rfl (by first | decide | omega) rfl rfl ?_ | refine WL.store (v := _) st.front2 ty_one2 rfl rfl rfl (by first | decide | omega) rfl rfl ?_ | refine WL.store (v := .int _ _) st.front3 ty_one2 rfl rfl rfl (by first | decide | omega) rfl rfl ?_ | refine WL.store (v := _) st.front3 ty_one2 rfl rfl rfl (by first | decide | omega) rfl rfl ?_ | refine WL.store (v := .int _ _) st.front4 ty_one2 rfl rfl rfl (by first | decide | omega) rfl rfl ?_ | refine WL.store (v := _) st.front4 ty_one2 rfl rfl rfl (by first | decide | omega) rfl rfl ?_ | refine WL.store (v := .int _ _) st.front5 ty_one2 rfl rfl rfl (by first | decide | omega) rfl rfl ?_ | refine WL.store (v := _) st.front5 ty_one2 rfl rfl rfl (by first | decide | omega) rfl rfl ?_ | refine WL.store (v := .int _ _) st.front6 ty_one2 rfl rfl rfl (by first | decide | omega) rfl rfl ?_ | refine WL.store (v := _) st.front6 ty_one2 rfl rfl rfl (by first | decide | omega) rfl rfl ?_ | refine WL.store (v := .int _ _) st.front7 ty_one2 rfl rfl rfl (by first | decide | omega) rfl rfl ?_ | refine WL.store (v := _) st.front7 ty_one2 rfl rfl rfl (by first | decide | omega) rfl rfl ?_ | refine WL.store (v := .int _ _) st.front8 ty_one2 rfl rfl rfl (by first | decide | omega) rfl rfl ?_ | refine WL.store (v := _) st.front8 ty_one2 rfl rfl rfl (by first | decide | omega) rfl rfl ?_
  intro w st
  refine WL.fin (hK224 _) (fun _ _ h => h) ?_
  refine WC.seqD fun K225 hK225 => ?_
  -- region 19
  refine WC.region ?_
  -- R19.0 101 := disk.go:105 move
  refine WL.v (by first | exact r_move (v := .pointer _) rfl | exact r_move rfl) rfl rfl rfl ?_
  -- R19.1 102 := disk.go:105 nilCheck
  refine WL.v (by exact r_nilCheck rfl) rfl rfl rfl ?_
  -- R19.2 103 := disk.go:105 fieldAddr
  refine WL.v (by exact r_field ty_fld97_5 rfl) rfl rfl rfl ?_
  -- R19.3 104 := disk.go:105 load
  refine WL.v (by exact r_load1 ty_one2 rfl (by first | assumption | exact st.c0 (by first | decide | omega) | exact st.c1 (by first | decide | omega) | exact st.c2 (by first | decide | omega) | exact st.c3 (by first | decide | omega) | exact st.c4 (by first | decide | omega) | exact st.c5 (by first | decide | omega) | exact st.c6 (by first | decide | omega) | exact st.c7 (by first | decide | omega) | exact st.c8 (by first | decide | omega))) rfl rfl rfl ?_
  -- R19.4 105 := disk.go:105 binOp
  refine WL.v (by first | exact r_eql rfl rfl (decide_eq_true (by omega)) | exact r_eql rfl rfl (decide_eq_false (by omega)) | exact r_eql rfl rfl rfl) rfl rfl rfl ?_
  refine WL.fin (hK225 _) (fun _ _ h => h) ?_
  refine WC.condT rfl rfl ?_
  refine WC.seqD fun K226 hK226 => ?_
  -- region 20
  refine WC.region ?_
  -- R20.0 106 := disk.go:106 move
  refine WL.v (by first | exact r_move (v := .pointer _) rfl | exact r_move rfl) rfl rfl rfl ?_
  -- R20.1 107 := disk.go:106 move
  refine WL.v (by first | exact r_move (v := .pointer _) rfl | exact r_move rfl) rfl rfl rfl ?_
  -- R20.2 108 := disk.go:106 nilCheck
  refine WL.v (by exact r_nilCheck rfl) rfl rfl rfl ?_
  -- R20.3 109 := disk.go:106 fieldAddr
  refine WL.v (by exact r_field ty_fld97_6 rfl) rfl rfl rfl ?_
  -- R20.4 110 := disk.go:106 load
  have st := st_nrm (L' := dC 1 { D2 with fuse := P2.fuse - 1 }) rfl st
  refine WL.v (v := .agg #[.slice ks.a ks.bs.length ks.c, .int .i64 P2.tear, .int .i64 P2.tb]) (by exact r_loadL (vs := [.slice ks.a ks.bs.length ks.c, .int .i64 P2.tear, .int .i64 P2.tb]) ty_agg31 rfl ⟨(st.c0 (by decide)).trans (show (some D2.kv : Option Value) = _ by rw [← hkv]; rfl), (st.c0 (by decide)).trans (show (some (Value.int .i64 D2.tear) : Option Value) = _ by rw [h2.tear]), (st.c0 (by decide)).trans (show (some (Value.int .i64 D2.tb) : Option Value) = _ by rw [h2.tb]), trivial⟩) rfl rfl rfl ?_
  have h3 : Rep { D2 with fuse := P2.fuse - 1 } { P2 with fuse := P2.fuse - 1 } := { h2 with fuse := rfl, fz := fun _ => by show 0 ≤ P2.fuse - 1 + (P2.wr : Int) ∧ P2.fuse - 1 ≤ _; omega }
  -- R20.5 111 := disk.go:106 call
  refine WL.call (r_call ty_call59 rfl) rfl rfl rfl (crash_ok (D := { D2 with fuse := P2.fuse - 1 }) h3 ks hko (by rw [hkb]; exact h2.kl) P2.tear P2.tb (fun l' w' hsub st => hkr st hsub) st) ?_
  rintro _ w ⟨D3, eD3, h4, st⟩
  have eD3' : D3.bD = D2.bD := eD3
  rw [← eD3']
  refine WL.fin (hK226 _) (fun _ _ h => h) ?_
  refine WC.seqD fun K227 hK227 => ?_
  -- region 21
  refine WC.region ?_
  -- R21.0 112 := disk.go:107 move
  refine WL.v (by first | exact r_move (v := .int _ _) rfl | exact r_move rfl) rfl rfl rfl ?_
  -- R21.1 113 := disk.go:107 move
  refine WL.v (by first | exact r_move (v := .int _ _) rfl | exact r_move rfl) rfl rfl rfl ?_
  -- R21.2 114 := disk.go:107 binOp
  refine WL.v (by exact r_add (r := ((sn + i : Nat) : Int)) rfl rfl ((wi64 (by omega) (by omega)).trans (by omega))) rfl rfl rfl ?_
  -- R21.3 115 := disk.go:107 call
  refine WL.call (r_call ty_call50 rfl) rfl rfl rfl (refuse_ok _ _ _ st) ?_
  rintro _ w ⟨be, rfl, st⟩
  -- R21.4 6 := disk.go:107 assign
  refine WL.v (by first | exact r_assign (v := .nilIface) rfl | exact r_assign (v := .iface _ _) rfl | exact r_assign rfl) rfl rfl rfl ?_
  refine WL.fin (hK227 _) (fun _ _ h => h) ?_
  refine WC.retD1 Tryd.muLib ty_call48 Tryd.results35 (fun _ _ h => h) rfl (st.front1) (by decide) rfl ?_
  intro w st
  have st := st_nrm (L' := dC 0 D3) rfl st
  rw [← hw, ← hkb]
  exact ⟨_, rfl, D3, _, by rw [eD3', eb3], h4, EV.e3, st.front1⟩
end Go.Proofs.Qxb6500837aDoor

