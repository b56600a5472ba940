import Derived.Test.Qxb6500837aDoorD7
set_option linter.unusedVariables false
set_option linter.unusedSimpArgs false
set_option maxRecDepth 20000
namespace Go.Proofs.Qxb6500837aDoor
open Go.RowKit Go.E1 Go.Disk
variable {w0 : World} {L l : List HI} {w : World} {D : DK} {m : Int} {P : PD}

theorem src_slab {q b : Nat} (hl : 1 ≤ D.limit) (hb : D.sb (q % D.limit / 32) = some b) (l : List HI) (w' : World) (hsub : ∀ x, x ∈ gather D.nS (slI D.sb D.ss D.sd) → x ∈ l) (st : S0 w0 l w') (j : Nat) (hj : j < 512) :
    w'.cell? ⟨b, 32 + q % D.limit % 32 * 512 + j, none⟩ = some (.int .u8 (D.sd (q % D.limit) j)) := by
  have hlt : q % D.limit < D.limit := Nat.mod_lt _ (by omega)
  have hm : (b, Row 132 16416 (slR D.ss D.sd (q % D.limit / 32))) ∈ gather D.nS (slI D.sb D.ss D.sd) := mem_gather (i := q % D.limit / 32) (by unfold DK.nS; omega) (by simp [slI, hb])
  rw [st.cell (hsub _ hm) (by omega), slR_d hj, show 32 * (q % D.limit / 32) + q % D.limit % 32 = q % D.limit by omega]

theorem Rep.head (h : Rep D P) {p : Nat × (Nat → Int)} {l : List (Nat × (Nat → Int))} (hp : P.pend = p :: l) : ∃ b, D.sb (D.hd % D.limit / 32) = some b ∧ D.ss (D.hd % D.limit) = (p.1 : Int) ∧ (∀ j, j < 512 → D.sd (D.hd % D.limit) j = p.2 j) ∧ D.hd < D.tl ∧ p.1 < P.sec ∧ (∀ j, 0 ≤ p.2 j ∧ p.2 j < 256) ∧ (∀ q, D.N (p.1 : Int) = some q → q ≤ 1000000000000) := by
  obtain ⟨a, b, c⟩ := h.at_ 0 p (by rw [hp]; rfl)
  rw [Nat.add_zero] at a b c
  obtain ⟨b', hb'⟩ := Option.ne_none_iff_exists'.1 c
  obtain ⟨d, e⟩ := h.psec p (by rw [hp]; exact List.mem_cons_self)
  have := h.hd
  rw [hp, List.length_cons] at this
  refine ⟨b', hb', a, b, by omega, d, e, fun q hq => ?_⟩
  rw [h.N] at hq
  have := (newest_spec hq).2.1
  have := h.hd; have := h.wr; have := h.tl
  omega

theorem st_in {x : HI} (st : S0 w0 (x :: DI D m L) w) : S0 w0 (DI D m (x :: L)) w := st.perm di_front.symm
theorem st_out {x : HI} (st : S0 w0 (DI D m (x :: L)) w) : S0 w0 (x :: DI D m L) w := st.perm di_front
theorem mem_in {x : HI} (h : x ∈ L) : x ∈ DI D m L := by simp [h]
theorem sub_XK {x : HI} (h : x ∈ D.XK) : x ∈ DI D m L := by simp [h]

def setX (D : DK) (k : Nat) (v : Int) : DK := { D with sx := fun i => if i = k then v else D.sx i }
theorem Rep.setX (h : Rep D P) {k : Nat} {v : Int} (hk : k ≠ 1) : Rep (setX D k v) P := h.sxs (by show (if 1 = k then v else D.sx 1) = D.sx 1; rw [if_neg (fun h => hk h.symm)])

theorem kOf_le (tb : Int) : kOf tb ≤ 512 := by
  unfold kOf
  split
  · omega
  · split <;> omega
theorem crashPc_congr {keep : List Int} {tear : Int} {k i : Nat} {pc : Nat → Nat → Int} {p : Nat × (Nat → Int)} {l : List (Nat × (Nat → Int))} : crashPc keep tear k i pc (p :: l) = crashPc keep tear k (i + 1) (if (i : Int) = tear then stP pc p.1 k p.2 else if keepB keep i then stP pc p.1 512 p.2 else pc) l := rfl

theorem r_slH {Pg : Program} {w : World} {ρ : Operand → Value} {d : Option Tmp} {ty : TypeId} {pos : String} {af : Array Edge} {g : Option (Nat × Bool)} {x : Operand} {T e b o n c k : Nat} {hi : Option Operand} (hT : slT Pg T = some (e, 1)) (hx : ρ x = .slice (some ⟨b, o, none⟩) n c) (hh : bnd ρ n k hi) (h1 : k ≤ 512) (h2 : 512 ≤ c) :
    (execOp ρ ⟨d, .slice T x none hi none, ty, pos, af, g⟩).run Pg w = .ok (.value (.slice (some ⟨b, o, none⟩) k c)) w := by
  have := r_slS (d := d) (ty := ty) (pos := pos) (af := af) (g := g) (w := w) (P := Pg) (l := 0) (m := c) (lo := none) (mx := none) hT hx rfl hh rfl (fun _ => rfl) (Nat.zero_le _) (by omega) (Nat.le_refl _) (by omega)
  rw [this]
  simp

set_option maxHeartbeats 16000000 in
theorem crash_ok (h : Rep D P) (s : SV) (hs : s.ok) (hl : s.bs.length ≤ 65536) (tear tb : Int) (hrd : ∀ l' w', (∀ x, x ∈ D.XK → x ∈ l') → S0 w0 l' w' → s.rd w') (st : S0 w0 (DI D m L) w) :
    Calls Tryd.prog 59 #[.pointer (some ⟨D.bD, 0, none⟩), .agg #[.slice s.a s.bs.length s.c, .int .i64 tear, .int .i64 tb]] w (Ret fun v w' => ∃ D', D'.bD = D.bD ∧ Rep D' (crashP P s.bs tear tb) ∧ S0 w0 (DI D' m L) w') := by
  obtain ⟨k, hk⟩ : ∃ k, k = kOf tb := ⟨_, rfl⟩
  have hk5 : k ≤ 512 := by rw [hk]; exact kOf_le tb
  obtain ⟨t1, ht1⟩ : ∃ t1 : Int, t1 = if tb < 0 then 0 else tb := ⟨_, rfl⟩
  have hkt : (k : Int) = if 512 < t1 then 512 else t1 := by
    rw [hk, ht1]; unfold kOf
    by_cases h1 : tb < 0
    · rw [if_pos h1, if_pos h1, if_neg (by decide)]; rfl
    · rw [if_neg h1, if_neg h1]
      by_cases h2 : 512 < tb
      · rw [if_pos h2, if_pos h2]; rfl
      · rw [if_neg h2, if_neg h2]; omega
  refine enter [.pointer (some ⟨D.bD, 0, none⟩), .agg #[.slice s.a s.bs.length s.c, .int .i64 tear, .int .i64 tb]] Tryd.func59 rfl Tryd.ntmps59 rfl ?_
  show WC _ _ _ 97 [] [(0, .pointer (some ⟨D.bD, 0, none⟩)), (1, .agg #[.slice s.a s.bs.length s.c, .int .i64 tear, .int .i64 tb])] _
  refine WC.seq fun K150 hK150 => ?_
  -- region 0
  refine WC.region ?_
  -- R0.0 3 := disk.go:264 box
  first | refine WL.box (m := 3) (vs := [.slice _ _ _, .int _ _, .int _ _]) st rfl rfl rfl rfl rfl rfl ?_ | refine WL.box (m := 3) (vs := [_, _, _]) st rfl rfl rfl rfl rfl rfl ?_ | refine WL.box st rfl rfl rfl rfl rfl rfl ?_
  intro b3 w st
  refine WL.fin hK150 (fun _ _ h => h) ?_
  refine WC.seq fun K151 hK151 => ?_
  -- region 1
  refine WC.region ?_
  -- R1.0 8 := disk.go:265 fieldAddr
  refine WL.v (by exact r_field ty_fld31_2 rfl) rfl rfl rfl ?_
  -- R1.1 9 := disk.go:265 load
  refine WL.v (by exact r_load1 ty_one2 rfl (by first | assumption | exact st.c0 (by first | decide | omega) | exact st.c1 (by first | decide | omega) | exact st.c2 (by first | decide | omega) | exact st.c3 (by first | decide | omega) | exact st.c4 (by first | decide | omega) | exact st.c5 (by first | decide | omega) | exact st.c6 (by first | decide | omega) | exact st.c7 (by first | decide | omega) | exact st.c8 (by first | decide | omega))) rfl rfl rfl ?_
  -- R1.2 4 := disk.go:265 assign
  refine WL.v (by first | exact r_assign (v := .int _ _) rfl | exact r_assign rfl) rfl rfl rfl ?_
  refine WL.fin hK151 (fun _ _ h => h) ?_
  obtain ⟨X, hX⟩ : ∃ X : HI, X = (b3, Row 31 3 (nth [.slice s.a s.bs.length s.c, .int .i64 tear, .int .i64 tb])) := ⟨_, rfl⟩
  refine WC.cut (ι := Unit) (fun _ => [(0, .pointer (some ⟨D.bD, 0, none⟩)), (3, .pointer (some ⟨b3, 0, none⟩)), (4, .int .i64 t1)]) (fun _ w' => S0 w0 (DI D m (X :: L)) w') ?_ ?_
  rotate_left
  · intro KC hKC
    have st : S0 w0 (DI D m (X :: L)) w := by rw [hX]; exact st_in st
    by_cases h1 : tb < 0
    · rw [if_pos h1] at ht1; subst t1
      refine WC.seq fun K152 hK152 => ?_
      -- region 2
      refine WC.region ?_
      -- R2.0 10 := disk.go:266 move
      refine WL.v (by first | exact r_move (v := .int _ _) rfl | exact r_move rfl) rfl rfl rfl ?_
      -- R2.1 11 := disk.go:266 binOp
      refine WL.v (by first | exact r_lss rfl rfl (decide_eq_true (by omega)) | exact r_lss rfl rfl (decide_eq_false (by omega)) | exact r_lss rfl rfl rfl) rfl rfl rfl ?_
      refine WL.fin hK152 (fun _ _ h => h) ?_
      refine WC.condT rfl rfl ?_
      -- region 3
      refine WC.region ?_
      -- R3.0 4 := disk.go:267 assign
      refine WL.v (by first | exact r_assign (v := .int _ _) rfl | exact r_assign rfl) rfl rfl rfl ?_
      refine WL.join hKC (fun _ _ h => h) () st (by repeat (first | exact sub_nil _ | refine sub_cons rfl rfl ?_))
    · rw [if_neg h1] at ht1; subst t1
      refine WC.seq fun K153 hK153 => ?_
      -- region 2
      refine WC.region ?_
      -- R2.0 10 := disk.go:266 move
      refine WL.v (by first | exact r_move (v := .int _ _) rfl | exact r_move rfl) rfl rfl rfl ?_
      -- R2.1 11 := disk.go:266 binOp
      refine WL.v (by first | exact r_lss rfl rfl (decide_eq_true (by omega)) | exact r_lss rfl rfl (decide_eq_false (by omega)) | exact r_lss rfl rfl rfl) rfl rfl rfl ?_
      refine WL.fin hK153 (fun _ _ h => h) ?_
      refine WC.condF rfl rfl ?_
      refine WC.skipJ hKC (fun _ _ h => h) () st (by repeat (first | exact sub_nil _ | refine sub_cons rfl rfl ?_))
  rintro _ w st
  refine WC.cut (ι := Unit) (fun _ => [(0, .pointer (some ⟨D.bD, 0, none⟩)), (3, .pointer (some ⟨b3, 0, none⟩)), (4, .int .i64 (k : Nat))]) (fun _ w' => S0 w0 (DI D m (X :: L)) w') ?_ ?_
  rotate_left
  · intro KC hKC
    by_cases h1 : 512 < t1
    · rw [if_pos h1] at hkt; rw [hkt] at hKC
      refine WC.seq fun K154 hK154 => ?_
      -- region 4
      refine WC.region ?_
      -- R4.0 12 := disk.go:269 move
      refine WL.v (by first | exact r_move (v := .int _ _) rfl | exact r_move rfl) rfl rfl rfl ?_
      -- R4.1 13 := disk.go:269 binOp
      refine WL.v (by first | exact r_gtr rfl rfl (decide_eq_true (by omega)) | exact r_gtr rfl rfl (decide_eq_false (by omega)) | exact r_gtr rfl rfl rfl) rfl rfl rfl ?_
      refine WL.fin hK154 (fun _ _ h => h) ?_
      refine WC.condT rfl rfl ?_
      -- region 5
      refine WC.region ?_
      -- R5.0 4 := disk.go:270 assign
      refine WL.v (by first | exact r_assign (v := .int _ _) rfl | exact r_assign rfl) rfl rfl rfl ?_
      refine WL.join hKC (fun _ _ h => h) () st (by repeat (first | exact sub_nil _ | refine sub_cons rfl rfl ?_))
    · rw [if_neg h1] at hkt; rw [hkt] at hKC
      refine WC.seq fun K155 hK155 => ?_
      -- region 4
      refine WC.region ?_
      -- R4.0 12 := disk.go:269 move
      refine WL.v (by first | exact r_move (v := .int _ _) rfl | exact r_move rfl) rfl rfl rfl ?_
      -- R4.1 13 := disk.go:269 binOp
      refine WL.v (by first | exact r_gtr rfl rfl (decide_eq_true (by omega)) | exact r_gtr rfl rfl (decide_eq_false (by omega)) | exact r_gtr rfl rfl rfl) rfl rfl rfl ?_
      refine WL.fin hK155 (fun _ _ h => h) ?_
      refine WC.condF rfl rfl ?_
      refine WC.skipJ hKC (fun _ _ h => h) () st (by repeat (first | exact sub_nil _ | refine sub_cons rfl rfl ?_))
  rintro _ w st
  refine WC.seq fun K156 hK156 => ?_
  refine WC.seq fun K157 hK157 => ?_
  -- region 6
  refine WC.region ?_
  -- R6.0 5 := disk.go:272 assign
  refine WL.v (by first | exact r_assign (v := .int _ _) rfl | exact r_assign rfl) rfl rfl rfl ?_
  refine WL.fin hK157 (fun _ _ h => h) ?_
  refine WC.block ?_
  refine WC.loop (ι := DK × (Nat → Nat → Int) × List (Nat × (Nat → Int)) × Nat) (fun i => [(0, .pointer (some ⟨D.bD, 0, none⟩)), (3, .pointer (some ⟨b3, 0, none⟩)), (4, .int .i64 (k : Nat)), (5, .int .i64 (i.2.2.2 : Nat))])
    (fun i w' => Rep i.1 { P with pc := i.2.1, pend := i.2.2.1 } ∧ i.1.bD = D.bD ∧ i.1.XK = D.XK ∧ crashPc s.bs tear k i.2.2.2 i.2.1 i.2.2.1 = crashPc s.bs tear k 0 P.pc P.pend ∧ i.2.2.2 + i.2.2.1.length = P.pend.length ∧ S0 w0 (DI i.1 m (X :: L)) w') (fun i => i.2.2.1.length) (D, P.pc, P.pend, 0) ⟨h, rfl, rfl, rfl, Nat.zero_add _, st⟩ ?_ ?_
  · skip
    repeat (first | exact sub_nil _ | refine sub_cons rfl rfl ?_)
  have hPl : P.pend.length ≤ 65536 := by have := h.ple; have := h.l2; omega
  rintro ⟨D', pc, pe, i⟩ w ⟨h', ebD, eXK, hcr, hlen, st⟩ K1 hK1
  dsimp only at h' ebD eXK hcr hlen st ⊢
  have hlim := h'.l1; have hlim2 := h'.l2; have hl3 := h'.lim; have hhd := h'.hd; have htl := h'.tl; have hwr := h'.wr; have hple := h'.ple; have hs2 := h'.s2; have hsec := h'.sec
  dsimp only at hlim hlim2 hl3 hhd htl hwr hple hs2 hsec
  rw [← ebD]
  rcases pe with _ | ⟨p, pl⟩
  · have hh0 : D'.hd + 0 = D'.tl := hhd
    refine WC.seq fun K158 hK158 => ?_
    refine WC.seq fun K159 hK159 => ?_
    -- region 7
    refine WC.region ?_
    -- R7.0 14 := disk.go:272 move
    refine WL.v (by first | exact r_move (v := .pointer _) rfl | exact r_move rfl) rfl rfl rfl ?_
    -- R7.1 15 := disk.go:272 nilCheck
    refine WL.v (by exact r_nilCheck rfl) rfl rfl rfl ?_
    -- R7.2 16 := disk.go:272 fieldAddr
    refine WL.v (by exact r_field ty_fld97_2 rfl) rfl rfl rfl ?_
    -- R7.3 17 := disk.go:272 call
    refine WL.call (r_call ty_call49 rfl) rfl rfl rfl (len_ok (by omega) (by omega) st) ?_
    rintro _ w ⟨rfl, st⟩
    -- R7.4 18 := disk.go:272 binOp
    refine WL.v (by first | exact r_gtr rfl rfl (decide_eq_true (by omega)) | exact r_gtr rfl rfl (decide_eq_false (by omega)) | exact r_gtr rfl rfl rfl) rfl rfl rfl ?_
    refine WL.fin hK159 (fun _ _ h => h) ?_
    refine WC.condF rfl rfl ?_
    refine WC.exitF hK156 (fun _ _ h => h) ?_
    refine WC.seq fun K160 hK160 => ?_
    -- region 17
    refine WC.region ?_
    -- R17.0 79 := disk.go:285 move
    refine WL.v (by first | exact r_move (v := .pointer _) rfl | exact r_move rfl) rfl rfl rfl ?_
    -- R17.1 80 := disk.go:285 nilCheck
    refine WL.v (by exact r_nilCheck rfl) rfl rfl rfl ?_
    -- R17.2 81 := disk.go:285 fieldAddr
    refine WL.v (by exact r_field ty_fld97_2 rfl) rfl rfl rfl ?_
    -- R17.3 82 := disk.go:285 call
    refine WL.call (r_call ty_call63 rfl) rfl rfl rfl (drop_ok st) ?_
    rintro _ w st
    refine WL.fin hK160 (fun _ _ h => h) ?_
    refine WC.seq fun K161 hK161 => ?_
    -- region 18
    refine WC.region ?_
    -- R18.0 83 := disk.go:286 move
    refine WL.v (by first | exact r_move (v := .pointer _) rfl | exact r_move rfl) rfl rfl rfl ?_
    -- R18.1 84 := disk.go:286 call
    refine WL.call (r_call ty_call64 rfl) rfl rfl rfl (disarm_ok (D := dropD D') st) ?_
    rintro _ w st
    refine WL.fin hK161 (fun _ _ h => h) ?_
    refine WC.seq fun K162 hK162 => ?_
    -- region 19
    refine WC.region ?_
    -- R19.0 85 := disk.go:287 move
    refine WL.v (by first | exact r_move (v := .pointer _) rfl | exact r_move rfl) rfl rfl rfl ?_
    -- R19.1 86 := disk.go:287 nilCheck
    refine WL.v (by exact r_nilCheck rfl) rfl rfl rfl ?_
    -- R19.2 87 := disk.go:287 fieldAddr
    refine WL.v (by exact r_field ty_fld97_3 rfl) rfl rfl rfl ?_
    -- R19.3 None := disk.go:287 store
    first | refine WL.store (v := .bool _) st ty_one4 rfl rfl rfl (by first | decide | omega) rfl rfl ?_ | refine WL.store (v := _) st ty_one4 rfl rfl rfl (by first | decide | omega) rfl rfl ?_ | refine WL.store (v := .bool _) st.front1 ty_one4 rfl rfl rfl (by first | decide | omega) rfl rfl ?_ | refine WL.store (v := _) st.front1 ty_one4 rfl rfl rfl (by first | decide | omega) rfl rfl ?_ | refine WL.store (v := .bool _) st.front2 ty_one4 rfl rfl rfl (by first | decide | omega) rfl rfl ?_ | refine WL.store (v := _) st.front2 ty_one4 rfl rfl rfl (by first | decide | omega) rfl rfl ?_ | refine WL.store (v := .bool _) st.front3 ty_one4 rfl rfl rfl (by first | decide | omega) rfl rfl ?_ | refine WL.store (v := _) st.front3 ty_one4 rfl rfl rfl (by first | decide | omega) rfl rfl ?_ | refine WL.store (v := .bool _) st.front4 ty_one4 rfl rfl rfl (by first | decide | omega) rfl rfl ?_ | refine WL.store (v := _) st.front4 ty_one4 rfl rfl rfl (by first | decide | omega) rfl rfl ?_ | refine WL.store (v := .bool _) st.front5 ty_one4 rfl rfl rfl (by first | decide | omega) rfl rfl ?_ | refine WL.store (v := _) st.front5 ty_one4 rfl rfl rfl (by first | decide | omega) rfl rfl ?_ | refine WL.store (v := .bool _) st.front6 ty_one4 rfl rfl rfl (by first | decide | omega) rfl rfl ?_ | refine WL.store (v := _) st.front6 ty_one4 rfl rfl rfl (by first | decide | omega) rfl rfl ?_ | refine WL.store (v := .bool _) st.front7 ty_one4 rfl rfl rfl (by first | decide | omega) rfl rfl ?_ | refine WL.store (v := _) st.front7 ty_one4 rfl rfl rfl (by first | decide | omega) rfl rfl ?_ | refine WL.store (v := .bool _) st.front8 ty_one4 rfl rfl rfl (by first | decide | omega) rfl rfl ?_ | refine WL.store (v := _) st.front8 ty_one4 rfl rfl rfl (by first | decide | omega) rfl rfl ?_
    intro w st
    refine WL.fin hK162 (fun _ _ h => h) ?_
    -- region 20
    refine WC.region ?_
    -- R20.0 88 := disk.go:288 move
    refine WL.v (by first | exact r_move (v := .pointer _) rfl | exact r_move rfl) rfl rfl rfl ?_
    -- R20.1 89 := disk.go:288 nilCheck
    refine WL.v (by exact r_nilCheck rfl) rfl rfl rfl ?_
    -- R20.2 90 := disk.go:288 fieldAddr
    refine WL.v (by exact r_field ty_fld97_7 rfl) rfl rfl rfl ?_
    -- R20.3 91 := disk.go:288 fieldAddr
    refine WL.v (by exact r_field ty_fld67_4 rfl) rfl rfl rfl ?_
    -- R20.4 92 := disk.go:288 load
    refine WL.v (by exact r_load1 ty_one2 rfl (by first | assumption | exact st.c0 (by first | decide | omega) | exact st.c1 (by first | decide | omega) | exact st.c2 (by first | decide | omega) | exact st.c3 (by first | decide | omega) | exact st.c4 (by first | decide | omega) | exact st.c5 (by first | decide | omega) | exact st.c6 (by first | decide | omega) | exact st.c7 (by first | decide | omega) | exact st.c8 (by first | decide | omega))) rfl rfl rfl ?_
    -- R20.5 93 := disk.go:288 binOp
    refine WL.v (by first | exact r_add rfl rfl (wi64 (by omega) (by omega)) | exact r_add rfl rfl rfl) rfl rfl rfl ?_
    -- R20.6 94 := disk.go:288 nilCheck
    refine WL.v (by exact r_nilCheck rfl) rfl rfl rfl ?_
    -- R20.7 95 := disk.go:288 fieldAddr
    refine WL.v (by exact r_field ty_fld97_7 rfl) rfl rfl rfl ?_
    -- R20.8 96 := disk.go:288 fieldAddr
    refine WL.v (by exact r_field ty_fld67_4 rfl) rfl rfl rfl ?_
    -- R20.9 None := disk.go:288 store
    first | refine WL.store (v := .int _ _) st ty_one2 rfl rfl rfl (by first | decide | omega) rfl rfl ?_ | refine WL.store (v := _) st ty_one2 rfl rfl rfl (by first | decide | omega) rfl rfl ?_ | refine WL.store (v := .int _ _) st.front1 ty_one2 rfl rfl rfl (by first | decide | omega) rfl rfl ?_ | refine WL.store (v := _) st.front1 ty_one2 rfl rfl rfl (by first | decide | omega) rfl rfl ?_ | refine WL.store (v := .int _ _) st.front2 ty_one2 rfl rfl rfl (by first | decide | omega) rfl rfl ?_ | refine WL.store (v := _) st.front2 ty_one2 rfl rfl rfl (by first | decide | omega) rfl rfl ?_ | refine WL.store (v := .int _ _) st.front3 ty_one2 rfl rfl rfl (by first | decide | omega) rfl rfl ?_ | refine WL.store (v := _) st.front3 ty_one2 rfl rfl rfl (by first | decide | omega) rfl rfl ?_ | refine WL.store (v := .int _ _) st.front4 ty_one2 rfl rfl rfl (by first | decide | omega) rfl rfl ?_ | refine WL.store (v := _) st.front4 ty_one2 rfl rfl rfl (by first | decide | omega) rfl rfl ?_ | refine WL.store (v := .int _ _) st.front5 ty_one2 rfl rfl rfl (by first | decide | omega) rfl rfl ?_ | refine WL.store (v := _) st.front5 ty_one2 rfl rfl rfl (by first | decide | omega) rfl rfl ?_ | refine WL.store (v := .int _ _) st.front6 ty_one2 rfl rfl rfl (by first | decide | omega) rfl rfl ?_ | refine WL.store (v := _) st.front6 ty_one2 rfl rfl rfl (by first | decide | omega) rfl rfl ?_ | refine WL.store (v := .int _ _) st.front7 ty_one2 rfl rfl rfl (by first | decide | omega) rfl rfl ?_ | refine WL.store (v := _) st.front7 ty_one2 rfl rfl rfl (by first | decide | omega) rfl rfl ?_ | refine WL.store (v := .int _ _) st.front8 ty_one2 rfl rfl rfl (by first | decide | omega) rfl rfl ?_ | refine WL.store (v := _) st.front8 ty_one2 rfl rfl rfl (by first | decide | omega) rfl rfl ?_
    intro w st
    refine WL.end0 Tryd.results59 (fun _ _ h => h) ?_
    have st := st_nrm (L' := dC m (setX { disD (dropD D') with down := true } 4 (IntKind.i64.wrap (D'.sx 4 + 1)))) rfl st
    refine ⟨_, rfl, setX { disD (dropD D') with down := true } 4 (IntKind.i64.wrap (D'.sx 4 + 1)), ebD, ?_, (st_out st).drop⟩
    have hr : Rep { disD (dropD D') with down := true } (crashP P s.bs tear tb) := by
      have e : crashP P s.bs tear tb = { disP { P with pc := pc, pend := [] } with down := true } := by
        unfold crashP
        rw [← hk, ← hcr]
        rfl
      rw [e]
      exact { h'.drop.dis with down := rfl }
    exact hr.setX (by decide)
  · obtain ⟨b, hb, hss, hsd, hht, hps, hpr, hpN⟩ := h'.head (p := p) (l := pl) rfl
    have hps2 : p.1 < P.sec := hps
    have hlp : (p :: pl).length = pl.length + 1 := rfl
    rw [hlp] at hhd hlen hple
    have hr1 := h'.pop (p := p) (l := pl) rfl
    obtain ⟨ox, hox⟩ : ∃ ox, ox = 32 + D'.hd % D'.limit % 32 * 512 := ⟨_, rfl⟩
    obtain ⟨cx, hcx⟩ : ∃ cx, cx = 16384 - D'.hd % D'.limit % 32 * 512 := ⟨_, rfl⟩
    have hcx2 : 512 ≤ cx := by omega
    have hsrc : ∀ (mm : Nat), mm ≤ 512 → ∀ (l : List HI) (w' : World), (∀ x, x ∈ gather (popD D').nS (slI (popD D').sb (popD D').ss (popD D').sd) → x ∈ l) → S0 w0 l w' → ∀ j, j < mm → w'.cell? ⟨b, ox + j, none⟩ = some (.int .u8 (p.2 j)) := fun mm hmm l w' hsub st j hj => by
      rw [hox, ← hsd j (by omega)]
      exact src_slab (by omega) hb l w' hsub st j (by omega)
    rw [crashPc_congr] at hcr
    by_cases ht : (i : Int) = tear
    · skip
      rw [if_pos ht] at hcr
      refine WC.seq fun K163 hK163 => ?_
      refine WC.seq fun K164 hK164 => ?_
      -- region 7
      refine WC.region ?_
      -- R7.0 14 := disk.go:272 move
      refine WL.v (by first | exact r_move (v := .pointer _) rfl | exact r_move rfl) rfl rfl rfl ?_
      -- R7.1 15 := disk.go:272 nilCheck
      refine WL.v (by exact r_nilCheck rfl) rfl rfl rfl ?_
      -- R7.2 16 := disk.go:272 fieldAddr
      refine WL.v (by exact r_field ty_fld97_2 rfl) rfl rfl rfl ?_
      -- R7.3 17 := disk.go:272 call
      refine WL.call (r_call ty_call49 rfl) rfl rfl rfl (len_ok (by omega) (by omega) st) ?_
      rintro _ w ⟨rfl, st⟩
      -- R7.4 18 := disk.go:272 binOp
      refine WL.v (by exact r_gtr rfl rfl (decide_eq_true (by omega))) rfl rfl rfl ?_
      refine WL.fin hK164 (fun _ _ h => h) ?_
      refine WC.condT rfl rfl ?_
      refine WC.skipF hK163 (fun _ _ h => h) ?_
      refine WC.seq fun K165 hK165 => ?_
      refine WC.block ?_
      refine WC.seq fun K166 hK166 => ?_
      -- region 9
      refine WC.region ?_
      -- R9.0 22 := disk.go:273 move
      refine WL.v (by first | exact r_move (v := .pointer _) rfl | exact r_move rfl) rfl rfl rfl ?_
      -- R9.1 23 := disk.go:273 nilCheck
      refine WL.v (by exact r_nilCheck rfl) rfl rfl rfl ?_
      -- R9.2 24 := disk.go:273 fieldAddr
      refine WL.v (by exact r_field ty_fld97_2 rfl) rfl rfl rfl ?_
      -- R9.3 25 := disk.go:273 call
      refine WL.call (r_call ty_call56 rfl) rfl rfl rfl (pop_ok b (by omega) (by omega) (by omega) hht hb (by rw [hss]; omega) (by rw [hss]; exact hpN) st) ?_
      rintro _ w ⟨rfl, st⟩
      rw [hss]
      unfold datV
      rw [← hox, ← hcx]
      -- R9.4 21 := disk.go:273 move
      refine WL.v (by first | exact r_move (v := .tuple _) rfl | exact r_move rfl) rfl rfl rfl ?_
      -- R9.5 26 := disk.go:273 extract
      refine WL.v (by first | exact r_extract (v := .int _ _) rfl rfl | exact r_extract rfl rfl) rfl rfl rfl ?_
      -- R9.6 27 := disk.go:273 extract
      refine WL.v (by first | exact r_extract (v := .slice _ _ _) rfl rfl | exact r_extract rfl rfl) rfl rfl rfl ?_
      -- R9.7 6 := disk.go:273 assign
      refine WL.v (by first | exact r_assign (v := .int _ _) rfl | exact r_assign rfl) rfl rfl rfl ?_
      -- R9.8 7 := disk.go:273 assign
      refine WL.v (by first | exact r_assign (v := .slice _ _ _) rfl | exact r_assign rfl) rfl rfl rfl ?_
      refine WL.fin hK166 (fun _ _ h => h) ?_
      refine WC.block ?_
      refine WC.seq fun K167 hK167 => ?_
      -- region 11
      refine WC.region ?_
      -- R11.0 38 := disk.go:275 move
      refine WL.v (by first | exact r_move (v := .int _ _) rfl | exact r_move rfl) rfl rfl rfl ?_
      -- R11.1 39 := disk.go:275 fieldAddr
      refine WL.v (by exact r_field ty_fld31_1 rfl) rfl rfl rfl ?_
      -- R11.2 40 := disk.go:275 load
      refine WL.v (by exact r_load1 ty_one2 rfl (st.cell (mem_in (D := popD D') (by rw [hX]; exact List.mem_cons_self)) (by decide))) rfl rfl rfl ?_
      -- R11.3 41 := disk.go:275 binOp
      refine WL.v (by first | exact r_eql rfl rfl (decide_eq_true (by omega)) | exact r_eql rfl rfl (decide_eq_false (by omega)) | exact r_eql rfl rfl rfl) rfl rfl rfl ?_
      -- R11.4 37 := disk.go:275 assign
      refine WL.v (by first | exact r_assign (v := .bool _) rfl | exact r_assign rfl) rfl rfl rfl ?_
      refine WL.fin hK167 (fun _ _ h => h) ?_
      refine WC.condT rfl rfl ?_
      refine WC.seq fun K168 hK168 => ?_
      -- region 12 (draws)
      refine WC.tailS 7 st ty_mixed (by kernel_rfl) fun w st Kq hKq => ?_
      -- R12.0 42 := disk.go:276 move
      refine SL.v (by first | exact r_move (v := .pointer _) rfl | exact r_move rfl) rfl rfl rfl ?_
      -- R12.1 43 := disk.go:276 nilCheck
      refine SL.v (by exact r_nilCheck rfl) rfl rfl rfl ?_
      -- R12.2 44 := disk.go:276 fieldAddr
      refine SL.v (by exact r_field ty_fld97_1 rfl) rfl rfl rfl ?_
      -- R12.3 45 := disk.go:276 move
      refine SL.v (by first | exact r_move (v := .int _ _) rfl | exact r_move rfl) rfl rfl rfl ?_
      -- R12.4 46 := disk.go:276 move
      refine SL.v (by first | exact r_move (v := .slice _ _ _) rfl | exact r_move rfl) rfl rfl rfl ?_
      -- R12.5 47 := disk.go:276 move
      refine SL.v (by first | exact r_move (v := .int _ _) rfl | exact r_move rfl) rfl rfl rfl ?_
      -- R12.6 48 := disk.go:276 slice
      refine SL.v (val := .slice (some ⟨b, ox, none⟩) k cx) (by exact r_slH ty_sl29 rfl ⟨_, rfl⟩ hk5 hcx2) rfl rfl rfl ?_
      refine SL.fin hKq ?_
      -- R12.7 49 := disk.go:276 call
      refine WL.call (r_call ty_call57 rfl) rfl rfl rfl (store_ok (D := popD D') p.1 k cx b ox p.2 (by show p.1 < D'.sectors; rw [hsec]; exact hps) (by show D'.sectors ≤ _; omega) hk5 hr1.ze (hsrc k hk5) st) ?_
      rintro _ w ⟨eb', hz', st⟩
      have hr2 := hr1.store hpr hz'
      refine WL.fin hK168 (fun _ _ h => h) ?_
      -- region 13
      refine WC.region ?_
      -- R13.0 50 := disk.go:277 move
      refine WL.v (by first | exact r_move (v := .pointer _) rfl | exact r_move rfl) rfl rfl rfl ?_
      -- R13.1 51 := disk.go:277 nilCheck
      refine WL.v (by exact r_nilCheck rfl) rfl rfl rfl ?_
      -- R13.2 52 := disk.go:277 fieldAddr
      refine WL.v (by exact r_field ty_fld97_7 rfl) rfl rfl rfl ?_
      -- R13.3 53 := disk.go:277 fieldAddr
      refine WL.v (by exact r_field ty_fld67_7 rfl) rfl rfl rfl ?_
      -- R13.4 54 := disk.go:277 load
      refine WL.v (by exact r_load1 ty_one2 rfl (by first | assumption | exact st.c0 (by first | decide | omega) | exact st.c1 (by first | decide | omega) | exact st.c2 (by first | decide | omega) | exact st.c3 (by first | decide | omega) | exact st.c4 (by first | decide | omega) | exact st.c5 (by first | decide | omega) | exact st.c6 (by first | decide | omega) | exact st.c7 (by first | decide | omega) | exact st.c8 (by first | decide | omega))) rfl rfl rfl ?_
      -- R13.5 55 := disk.go:277 binOp
      refine WL.v (by first | exact r_add rfl rfl (wi64 (by omega) (by omega)) | exact r_add rfl rfl rfl) rfl rfl rfl ?_
      -- R13.6 56 := disk.go:277 nilCheck
      refine WL.v (by exact r_nilCheck rfl) rfl rfl rfl ?_
      -- R13.7 57 := disk.go:277 fieldAddr
      refine WL.v (by exact r_field ty_fld97_7 rfl) rfl rfl rfl ?_
      -- R13.8 58 := disk.go:277 fieldAddr
      refine WL.v (by exact r_field ty_fld67_7 rfl) rfl rfl rfl ?_
      -- R13.9 None := disk.go:277 store
      first | refine WL.store (v := .int _ _) st ty_one2 rfl rfl rfl (by first | decide | omega) rfl rfl ?_ | refine WL.store (v := _) st ty_one2 rfl rfl rfl (by first | decide | omega) rfl rfl ?_ | refine WL.store (v := .int _ _) st.front1 ty_one2 rfl rfl rfl (by first | decide | omega) rfl rfl ?_ | refine WL.store (v := _) st.front1 ty_one2 rfl rfl rfl (by first | decide | omega) rfl rfl ?_ | refine WL.store (v := .int _ _) st.front2 ty_one2 rfl rfl rfl (by first | decide | omega) rfl rfl ?_ | refine WL.store (v := _) st.front2 ty_one2 rfl rfl rfl (by first | decide | omega) rfl rfl ?_ | refine WL.store (v := .int _ _) st.front3 ty_one2 rfl rfl rfl (by first | decide | omega) rfl rfl ?_ | refine WL.store (v := _) st.front3 ty_one2 rfl rfl rfl (by first | decide | omega) rfl rfl ?_ | refine WL.store (v := .int _ _) st.front4 ty_one2 rfl rfl rfl (by first | decide | omega) rfl rfl ?_ | refine WL.store (v := _) st.front4 ty_one2 rfl rfl rfl (by first | decide | omega) rfl rfl ?_ | refine WL.store (v := .int _ _) st.front5 ty_one2 rfl rfl rfl (by first | decide | omega) rfl rfl ?_ | refine WL.store (v := _) st.front5 ty_one2 rfl rfl rfl (by first | decide | omega) rfl rfl ?_ | refine WL.store (v := .int _ _) st.front6 ty_one2 rfl rfl rfl (by first | decide | omega) rfl rfl ?_ | refine WL.store (v := _) st.front6 ty_one2 rfl rfl rfl (by first | decide | omega) rfl rfl ?_ | refine WL.store (v := .int _ _) st.front7 ty_one2 rfl rfl rfl (by first | decide | omega) rfl rfl ?_ | refine WL.store (v := _) st.front7 ty_one2 rfl rfl rfl (by first | decide | omega) rfl rfl ?_ | refine WL.store (v := .int _ _) st.front8 ty_one2 rfl rfl rfl (by first | decide | omega) rfl rfl ?_ | refine WL.store (v := _) st.front8 ty_one2 rfl rfl rfl (by first | decide | omega) rfl rfl ?_
      intro w st
      refine WL.fin hK165 (fun _ _ h => h) ?_
      -- region 8
      refine WC.region ?_
      -- R8.0 19 := disk.go:272 move
      refine WL.v (by first | exact r_move (v := .int _ _) rfl | exact r_move rfl) rfl rfl rfl ?_
      -- R8.1 20 := disk.go:272 binOp
      refine WL.v (by exact r_add (r := ((i + 1 : Nat) : Int)) rfl rfl ((wi64 (by omega) (by omega)).trans (by omega))) rfl rfl rfl ?_
      -- R8.2 5 := disk.go:272 assign
      refine WL.v (by first | exact r_assign (v := .int _ _) rfl | exact r_assign rfl) rfl rfl rfl ?_
      have st := st_nrm (L' := dC m (setX { popD D' with eb := eb', pc := stP D'.pc p.1 k p.2 } 7 (IntKind.i64.wrap (D'.sx 7 + 1)))) rfl st
      rw [ebD]
      refine WL.next hK1 (fun _ _ h => h) (setX { popD D' with eb := eb', pc := stP D'.pc p.1 k p.2 } 7 (IntKind.i64.wrap (D'.sx 7 + 1)), stP pc p.1 k p.2, pl, i + 1) ⟨hr2.setX (by decide), ebD, eXK, hcr, by show i + 1 + pl.length = _; omega, st⟩ (Nat.lt_succ_self _) (by repeat (first | exact sub_nil _ | refine sub_cons rfl rfl ?_))
    · rw [if_neg ht] at hcr
      by_cases hkp : keepB s.bs i = true
      · rw [if_pos hkp] at hcr
        have hkb := hkp
        refine WC.seq fun K169 hK169 => ?_
        refine WC.seq fun K170 hK170 => ?_
        -- region 7
        refine WC.region ?_
        -- R7.0 14 := disk.go:272 move
        refine WL.v (by first | exact r_move (v := .pointer _) rfl | exact r_move rfl) rfl rfl rfl ?_
        -- R7.1 15 := disk.go:272 nilCheck
        refine WL.v (by exact r_nilCheck rfl) rfl rfl rfl ?_
        -- R7.2 16 := disk.go:272 fieldAddr
        refine WL.v (by exact r_field ty_fld97_2 rfl) rfl rfl rfl ?_
        -- R7.3 17 := disk.go:272 call
        refine WL.call (r_call ty_call49 rfl) rfl rfl rfl (len_ok (by omega) (by omega) st) ?_
        rintro _ w ⟨rfl, st⟩
        -- R7.4 18 := disk.go:272 binOp
        refine WL.v (by exact r_gtr rfl rfl (decide_eq_true (by omega))) rfl rfl rfl ?_
        refine WL.fin hK170 (fun _ _ h => h) ?_
        refine WC.condT rfl rfl ?_
        refine WC.skipF hK169 (fun _ _ h => h) ?_
        refine WC.seq fun K171 hK171 => ?_
        refine WC.block ?_
        refine WC.seq fun K172 hK172 => ?_
        -- region 9
        refine WC.region ?_
        -- R9.0 22 := disk.go:273 move
        refine WL.v (by first | exact r_move (v := .pointer _) rfl | exact r_move rfl) rfl rfl rfl ?_
        -- R9.1 23 := disk.go:273 nilCheck
        refine WL.v (by exact r_nilCheck rfl) rfl rfl rfl ?_
        -- R9.2 24 := disk.go:273 fieldAddr
        refine WL.v (by exact r_field ty_fld97_2 rfl) rfl rfl rfl ?_
        -- R9.3 25 := disk.go:273 call
        refine WL.call (r_call ty_call56 rfl) rfl rfl rfl (pop_ok b (by omega) (by omega) (by omega) hht hb (by rw [hss]; omega) (by rw [hss]; exact hpN) st) ?_
        rintro _ w ⟨rfl, st⟩
        rw [hss]
        unfold datV
        rw [← hox, ← hcx]
        -- R9.4 21 := disk.go:273 move
        refine WL.v (by first | exact r_move (v := .tuple _) rfl | exact r_move rfl) rfl rfl rfl ?_
        -- R9.5 26 := disk.go:273 extract
        refine WL.v (by first | exact r_extract (v := .int _ _) rfl rfl | exact r_extract rfl rfl) rfl rfl rfl ?_
        -- R9.6 27 := disk.go:273 extract
        refine WL.v (by first | exact r_extract (v := .slice _ _ _) rfl rfl | exact r_extract rfl rfl) rfl rfl rfl ?_
        -- R9.7 6 := disk.go:273 assign
        refine WL.v (by first | exact r_assign (v := .int _ _) rfl | exact r_assign rfl) rfl rfl rfl ?_
        -- R9.8 7 := disk.go:273 assign
        refine WL.v (by first | exact r_assign (v := .slice _ _ _) rfl | exact r_assign rfl) rfl rfl rfl ?_
        refine WL.fin hK172 (fun _ _ h => h) ?_
        refine WC.block ?_
        refine WC.seq fun K173 hK173 => ?_
        -- region 11
        refine WC.region ?_
        -- R11.0 38 := disk.go:275 move
        refine WL.v (by first | exact r_move (v := .int _ _) rfl | exact r_move rfl) rfl rfl rfl ?_
        -- R11.1 39 := disk.go:275 fieldAddr
        refine WL.v (by exact r_field ty_fld31_1 rfl) rfl rfl rfl ?_
        -- R11.2 40 := disk.go:275 load
        refine WL.v (by exact r_load1 ty_one2 rfl (st.cell (mem_in (D := popD D') (by rw [hX]; exact List.mem_cons_self)) (by decide))) rfl rfl rfl ?_
        -- R11.3 41 := disk.go:275 binOp
        refine WL.v (by first | exact r_eql rfl rfl (decide_eq_true (by omega)) | exact r_eql rfl rfl (decide_eq_false (by omega)) | exact r_eql rfl rfl rfl) rfl rfl rfl ?_
        -- R11.4 37 := disk.go:275 assign
        refine WL.v (by first | exact r_assign (v := .bool _) rfl | exact r_assign rfl) rfl rfl rfl ?_
        refine WL.fin hK173 (fun _ _ h => h) ?_
        refine WC.condF rfl rfl ?_
        refine WC.seq fun K174 hK174 => ?_
        -- region 14
        refine WC.region ?_
        -- R14.0 60 := disk.go:278 fieldAddr
        refine WL.v (by exact r_field ty_fld31_0 rfl) rfl rfl rfl ?_
        -- R14.1 61 := disk.go:278 load
        refine WL.v (by exact r_load1 ty_one29 rfl (st.cell (mem_in (D := popD D') (by rw [hX]; exact List.mem_cons_self)) (by decide))) rfl rfl rfl ?_
        -- R14.2 62 := disk.go:278 move
        refine WL.v (by first | exact r_move (v := .int _ _) rfl | exact r_move rfl) rfl rfl rfl ?_
        -- R14.3 63 := disk.go:278 call
        refine WL.call (r_call ty_call71 rfl) rfl rfl rfl (keeps_ok s i hs hl (by omega) (fun w' st' => hrd _ w' (fun x hx => sub_XK (D := popD D') (by show x ∈ D'.XK; rw [eXK]; exact hx)) st') st) ?_
        rintro _ w ⟨rfl, st⟩
        rw [hkb]
        -- R14.4 59 := disk.go:278 assign
        refine WL.v (by first | exact r_assign (v := .bool _) rfl | exact r_assign rfl) rfl rfl rfl ?_
        refine WL.fin hK174 (fun _ _ h => h) ?_
        refine WC.condT rfl rfl ?_
        refine WC.seq fun K175 hK175 => ?_
        -- region 15
        refine WC.region ?_
        -- R15.0 64 := disk.go:279 move
        refine WL.v (by first | exact r_move (v := .pointer _) rfl | exact r_move rfl) rfl rfl rfl ?_
        -- R15.1 65 := disk.go:279 nilCheck
        refine WL.v (by exact r_nilCheck rfl) rfl rfl rfl ?_
        -- R15.2 66 := disk.go:279 fieldAddr
        refine WL.v (by exact r_field ty_fld97_1 rfl) rfl rfl rfl ?_
        -- R15.3 67 := disk.go:279 move
        refine WL.v (by first | exact r_move (v := .int _ _) rfl | exact r_move rfl) rfl rfl rfl ?_
        -- R15.4 68 := disk.go:279 move
        refine WL.v (by first | exact r_move (v := .slice _ _ _) rfl | exact r_move rfl) rfl rfl rfl ?_
        -- R15.5 69 := disk.go:279 call
        refine WL.call (r_call ty_call57 rfl) rfl rfl rfl (store_ok (D := popD D') p.1 512 cx b ox p.2 (by show p.1 < D'.sectors; rw [hsec]; exact hps) (by show D'.sectors ≤ _; omega) (Nat.le_refl _) hr1.ze (hsrc 512 (Nat.le_refl _)) st) ?_
        rintro _ w ⟨eb', hz', st⟩
        have hr2 := hr1.store hpr hz'
        refine WL.fin hK175 (fun _ _ h => h) ?_
        -- region 16
        refine WC.region ?_
        -- R16.0 70 := disk.go:280 move
        refine WL.v (by first | exact r_move (v := .pointer _) rfl | exact r_move rfl) rfl rfl rfl ?_
        -- R16.1 71 := disk.go:280 nilCheck
        refine WL.v (by exact r_nilCheck rfl) rfl rfl rfl ?_
        -- R16.2 72 := disk.go:280 fieldAddr
        refine WL.v (by exact r_field ty_fld97_7 rfl) rfl rfl rfl ?_
        -- R16.3 73 := disk.go:280 fieldAddr
        refine WL.v (by exact r_field ty_fld67_5 rfl) rfl rfl rfl ?_
        -- R16.4 74 := disk.go:280 load
        refine WL.v (by exact r_load1 ty_one2 rfl (by first | assumption | exact st.c0 (by first | decide | omega) | exact st.c1 (by first | decide | omega) | exact st.c2 (by first | decide | omega) | exact st.c3 (by first | decide | omega) | exact st.c4 (by first | decide | omega) | exact st.c5 (by first | decide | omega) | exact st.c6 (by first | decide | omega) | exact st.c7 (by first | decide | omega) | exact st.c8 (by first | decide | omega))) rfl rfl rfl ?_
        -- R16.5 75 := disk.go:280 binOp
        refine WL.v (by first | exact r_add rfl rfl (wi64 (by omega) (by omega)) | exact r_add rfl rfl rfl) rfl rfl rfl ?_
        -- R16.6 76 := disk.go:280 nilCheck
        refine WL.v (by exact r_nilCheck rfl) rfl rfl rfl ?_
        -- R16.7 77 := disk.go:280 fieldAddr
        refine WL.v (by exact r_field ty_fld97_7 rfl) rfl rfl rfl ?_
        -- R16.8 78 := disk.go:280 fieldAddr
        refine WL.v (by exact r_field ty_fld67_5 rfl) rfl rfl rfl ?_
        -- R16.9 None := disk.go:280 store
        first | refine WL.store (v := .int _ _) st ty_one2 rfl rfl rfl (by first | decide | omega) rfl rfl ?_ | refine WL.store (v := _) st ty_one2 rfl rfl rfl (by first | decide | omega) rfl rfl ?_ | refine WL.store (v := .int _ _) st.front1 ty_one2 rfl rfl rfl (by first | decide | omega) rfl rfl ?_ | refine WL.store (v := _) st.front1 ty_one2 rfl rfl rfl (by first | decide | omega) rfl rfl ?_ | refine WL.store (v := .int _ _) st.front2 ty_one2 rfl rfl rfl (by first | decide | omega) rfl rfl ?_ | refine WL.store (v := _) st.front2 ty_one2 rfl rfl rfl (by first | decide | omega) rfl rfl ?_ | refine WL.store (v := .int _ _) st.front3 ty_one2 rfl rfl rfl (by first | decide | omega) rfl rfl ?_ | refine WL.store (v := _) st.front3 ty_one2 rfl rfl rfl (by first | decide | omega) rfl rfl ?_ | refine WL.store (v := .int _ _) st.front4 ty_one2 rfl rfl rfl (by first | decide | omega) rfl rfl ?_ | refine WL.store (v := _) st.front4 ty_one2 rfl rfl rfl (by first | decide | omega) rfl rfl ?_ | refine WL.store (v := .int _ _) st.front5 ty_one2 rfl rfl rfl (by first | decide | omega) rfl rfl ?_ | refine WL.store (v := _) st.front5 ty_one2 rfl rfl rfl (by first | decide | omega) rfl rfl ?_ | refine WL.store (v := .int _ _) st.front6 ty_one2 rfl rfl rfl (by first | decide | omega) rfl rfl ?_ | refine WL.store (v := _) st.front6 ty_one2 rfl rfl rfl (by first | decide | omega) rfl rfl ?_ | refine WL.store (v := .int _ _) st.front7 ty_one2 rfl rfl rfl (by first | decide | omega) rfl rfl ?_ | refine WL.store (v := _) st.front7 ty_one2 rfl rfl rfl (by first | decide | omega) rfl rfl ?_ | refine WL.store (v := .int _ _) st.front8 ty_one2 rfl rfl rfl (by first | decide | omega) rfl rfl ?_ | refine WL.store (v := _) st.front8 ty_one2 rfl rfl rfl (by first | decide | omega) rfl rfl ?_
        intro w st
        refine WL.fin hK171 (fun _ _ h => h) ?_
        -- region 8
        refine WC.region ?_
        -- R8.0 19 := disk.go:272 move
        refine WL.v (by first | exact r_move (v := .int _ _) rfl | exact r_move rfl) rfl rfl rfl ?_
        -- R8.1 20 := disk.go:272 binOp
        refine WL.v (by exact r_add (r := ((i + 1 : Nat) : Int)) rfl rfl ((wi64 (by omega) (by omega)).trans (by omega))) rfl rfl rfl ?_
        -- R8.2 5 := disk.go:272 assign
        refine WL.v (by first | exact r_assign (v := .int _ _) rfl | exact r_assign rfl) rfl rfl rfl ?_
        have st := st_nrm (L' := dC m (setX { popD D' with eb := eb', pc := stP D'.pc p.1 512 p.2 } 5 (IntKind.i64.wrap (D'.sx 5 + 1)))) rfl st
        rw [ebD]
        refine WL.next hK1 (fun _ _ h => h) (setX { popD D' with eb := eb', pc := stP D'.pc p.1 512 p.2 } 5 (IntKind.i64.wrap (D'.sx 5 + 1)), stP pc p.1 512 p.2, pl, i + 1) ⟨hr2.setX (by decide), ebD, eXK, hcr, by show i + 1 + pl.length = _; omega, st⟩ (Nat.lt_succ_self _) (by repeat (first | exact sub_nil _ | refine sub_cons rfl rfl ?_))
      · rw [if_neg hkp] at hcr
        have hkp : keepB s.bs i = false := by simpa using hkp
        have hkb := hkp
        refine WC.seq fun K176 hK176 => ?_
        refine WC.seq fun K177 hK177 => ?_
        -- region 7
        refine WC.region ?_
        -- R7.0 14 := disk.go:272 move
        refine WL.v (by first | exact r_move (v := .pointer _) rfl | exact r_move rfl) rfl rfl rfl ?_
        -- R7.1 15 := disk.go:272 nilCheck
        refine WL.v (by exact r_nilCheck rfl) rfl rfl rfl ?_
        -- R7.2 16 := disk.go:272 fieldAddr
        refine WL.v (by exact r_field ty_fld97_2 rfl) rfl rfl rfl ?_
        -- R7.3 17 := disk.go:272 call
        refine WL.call (r_call ty_call49 rfl) rfl rfl rfl (len_ok (by omega) (by omega) st) ?_
        rintro _ w ⟨rfl, st⟩
        -- R7.4 18 := disk.go:272 binOp
        refine WL.v (by exact r_gtr rfl rfl (decide_eq_true (by omega))) rfl rfl rfl ?_
        refine WL.fin hK177 (fun _ _ h => h) ?_
        refine WC.condT rfl rfl ?_
        refine WC.skipF hK176 (fun _ _ h => h) ?_
        refine WC.seq fun K178 hK178 => ?_
        refine WC.block ?_
        refine WC.seq fun K179 hK179 => ?_
        -- region 9
        refine WC.region ?_
        -- R9.0 22 := disk.go:273 move
        refine WL.v (by first | exact r_move (v := .pointer _) rfl | exact r_move rfl) rfl rfl rfl ?_
        -- R9.1 23 := disk.go:273 nilCheck
        refine WL.v (by exact r_nilCheck rfl) rfl rfl rfl ?_
        -- R9.2 24 := disk.go:273 fieldAddr
        refine WL.v (by exact r_field ty_fld97_2 rfl) rfl rfl rfl ?_
        -- R9.3 25 := disk.go:273 call
        refine WL.call (r_call ty_call56 rfl) rfl rfl rfl (pop_ok b (by omega) (by omega) (by omega) hht hb (by rw [hss]; omega) (by rw [hss]; exact hpN) st) ?_
        rintro _ w ⟨rfl, st⟩
        rw [hss]
        unfold datV
        rw [← hox, ← hcx]
        -- R9.4 21 := disk.go:273 move
        refine WL.v (by first | exact r_move (v := .tuple _) rfl | exact r_move rfl) rfl rfl rfl ?_
        -- R9.5 26 := disk.go:273 extract
        refine WL.v (by first | exact r_extract (v := .int _ _) rfl rfl | exact r_extract rfl rfl) rfl rfl rfl ?_
        -- R9.6 27 := disk.go:273 extract
        refine WL.v (by first | exact r_extract (v := .slice _ _ _) rfl rfl | exact r_extract rfl rfl) rfl rfl rfl ?_
        -- R9.7 6 := disk.go:273 assign
        refine WL.v (by first | exact r_assign (v := .int _ _) rfl | exact r_assign rfl) rfl rfl rfl ?_
        -- R9.8 7 := disk.go:273 assign
        refine WL.v (by first | exact r_assign (v := .slice _ _ _) rfl | exact r_assign rfl) rfl rfl rfl ?_
        refine WL.fin hK179 (fun _ _ h => h) ?_
        refine WC.block ?_
        refine WC.seq fun K180 hK180 => ?_
        -- region 11
        refine WC.region ?_
        -- R11.0 38 := disk.go:275 move
        refine WL.v (by first | exact r_move (v := .int _ _) rfl | exact r_move rfl) rfl rfl rfl ?_
        -- R11.1 39 := disk.go:275 fieldAddr
        refine WL.v (by exact r_field ty_fld31_1 rfl) rfl rfl rfl ?_
        -- R11.2 40 := disk.go:275 load
        refine WL.v (by exact r_load1 ty_one2 rfl (st.cell (mem_in (D := popD D') (by rw [hX]; exact List.mem_cons_self)) (by decide))) rfl rfl rfl ?_
        -- R11.3 41 := disk.go:275 binOp
        refine WL.v (by first | exact r_eql rfl rfl (decide_eq_true (by omega)) | exact r_eql rfl rfl (decide_eq_false (by omega)) | exact r_eql rfl rfl rfl) rfl rfl rfl ?_
        -- R11.4 37 := disk.go:275 assign
        refine WL.v (by first | exact r_assign (v := .bool _) rfl | exact r_assign rfl) rfl rfl rfl ?_
        refine WL.fin hK180 (fun _ _ h => h) ?_
        refine WC.condF rfl rfl ?_
        refine WC.seq fun K181 hK181 => ?_
        -- region 14
        refine WC.region ?_
        -- R14.0 60 := disk.go:278 fieldAddr
        refine WL.v (by exact r_field ty_fld31_0 rfl) rfl rfl rfl ?_
        -- R14.1 61 := disk.go:278 load
        refine WL.v (by exact r_load1 ty_one29 rfl (st.cell (mem_in (D := popD D') (by rw [hX]; exact List.mem_cons_self)) (by decide))) rfl rfl rfl ?_
        -- R14.2 62 := disk.go:278 move
        refine WL.v (by first | exact r_move (v := .int _ _) rfl | exact r_move rfl) rfl rfl rfl ?_
        -- R14.3 63 := disk.go:278 call
        refine WL.call (r_call ty_call71 rfl) rfl rfl rfl (keeps_ok s i hs hl (by omega) (fun w' st' => hrd _ w' (fun x hx => sub_XK (D := popD D') (by show x ∈ D'.XK; rw [eXK]; exact hx)) st') st) ?_
        rintro _ w ⟨rfl, st⟩
        rw [hkb]
        -- R14.4 59 := disk.go:278 assign
        refine WL.v (by first | exact r_assign (v := .bool _) rfl | exact r_assign rfl) rfl rfl rfl ?_
        refine WL.fin hK181 (fun _ _ h => h) ?_
        refine WC.condF rfl rfl ?_
        -- region 10
        refine WC.region ?_
        -- R10.0 28 := disk.go:282 move
        refine WL.v (by first | exact r_move (v := .pointer _) rfl | exact r_move rfl) rfl rfl rfl ?_
        -- R10.1 29 := disk.go:282 nilCheck
        refine WL.v (by exact r_nilCheck rfl) rfl rfl rfl ?_
        -- R10.2 30 := disk.go:282 fieldAddr
        refine WL.v (by exact r_field ty_fld97_7 rfl) rfl rfl rfl ?_
        -- R10.3 31 := disk.go:282 fieldAddr
        refine WL.v (by exact r_field ty_fld67_6 rfl) rfl rfl rfl ?_
        -- R10.4 32 := disk.go:282 load
        refine WL.v (by exact r_load1 ty_one2 rfl (by first | assumption | exact st.c0 (by first | decide | omega) | exact st.c1 (by first | decide | omega) | exact st.c2 (by first | decide | omega) | exact st.c3 (by first | decide | omega) | exact st.c4 (by first | decide | omega) | exact st.c5 (by first | decide | omega) | exact st.c6 (by first | decide | omega) | exact st.c7 (by first | decide | omega) | exact st.c8 (by first | decide | omega))) rfl rfl rfl ?_
        -- R10.5 33 := disk.go:282 binOp
        refine WL.v (by first | exact r_add rfl rfl (wi64 (by omega) (by omega)) | exact r_add rfl rfl rfl) rfl rfl rfl ?_
        -- R10.6 34 := disk.go:282 nilCheck
        refine WL.v (by exact r_nilCheck rfl) rfl rfl rfl ?_
        -- R10.7 35 := disk.go:282 fieldAddr
        refine WL.v (by exact r_field ty_fld97_7 rfl) rfl rfl rfl ?_
        -- R10.8 36 := disk.go:282 fieldAddr
        refine WL.v (by exact r_field ty_fld67_6 rfl) rfl rfl rfl ?_
        -- R10.9 None := disk.go:282 store
        first | refine WL.store (v := .int _ _) st ty_one2 rfl rfl rfl (by first | decide | omega) rfl rfl ?_ | refine WL.store (v := _) st ty_one2 rfl rfl rfl (by first | decide | omega) rfl rfl ?_ | refine WL.store (v := .int _ _) st.front1 ty_one2 rfl rfl rfl (by first | decide | omega) rfl rfl ?_ | refine WL.store (v := _) st.front1 ty_one2 rfl rfl rfl (by first | decide | omega) rfl rfl ?_ | refine WL.store (v := .int _ _) st.front2 ty_one2 rfl rfl rfl (by first | decide | omega) rfl rfl ?_ | refine WL.store (v := _) st.front2 ty_one2 rfl rfl rfl (by first | decide | omega) rfl rfl ?_ | refine WL.store (v := .int _ _) st.front3 ty_one2 rfl rfl rfl (by first | decide | omega) rfl rfl ?_ | refine WL.store (v := _) st.front3 ty_one2 rfl rfl rfl (by first | decide | omega) rfl rfl ?_ | refine WL.store (v := .int _ _) st.front4 ty_one2 rfl rfl rfl (by first | decide | omega) rfl rfl ?_ | refine WL.store (v := _) st.front4 ty_one2 rfl rfl rfl (by first | decide | omega) rfl rfl ?_ | refine WL.store (v := .int _ _) st.front5 ty_one2 rfl rfl rfl (by first | decide | omega) rfl rfl ?_ | refine WL.store (v := _) st.front5 ty_one2 rfl rfl rfl (by first | decide | omega) rfl rfl ?_ | refine WL.store (v := .int _ _) st.front6 ty_one2 rfl rfl rfl (by first | decide | omega) rfl rfl ?_ | refine WL.store (v := _) st.front6 ty_one2 rfl rfl rfl (by first | decide | omega) rfl rfl ?_ | refine WL.store (v := .int _ _) st.front7 ty_one2 rfl rfl rfl (by first | decide | omega) rfl rfl ?_ | refine WL.store (v := _) st.front7 ty_one2 rfl rfl rfl (by first | decide | omega) rfl rfl ?_ | refine WL.store (v := .int _ _) st.front8 ty_one2 rfl rfl rfl (by first | decide | omega) rfl rfl ?_ | refine WL.store (v := _) st.front8 ty_one2 rfl rfl rfl (by first | decide | omega) rfl rfl ?_
        intro w st
        refine WL.fin hK178 (fun _ _ h => h) ?_
        -- region 8
        refine WC.region ?_
        -- R8.0 19 := disk.go:272 move
        refine WL.v (by first | exact r_move (v := .int _ _) rfl | exact r_move rfl) rfl rfl rfl ?_
        -- R8.1 20 := disk.go:272 binOp
        refine WL.v (by exact r_add (r := ((i + 1 : Nat) : Int)) rfl rfl ((wi64 (by omega) (by omega)).trans (by omega))) rfl rfl rfl ?_
        -- R8.2 5 := disk.go:272 assign
        refine WL.v (by first | exact r_assign (v := .int _ _) rfl | exact r_assign rfl) rfl rfl rfl ?_
        have st := st_nrm (L' := dC m (setX (popD D') 6 (IntKind.i64.wrap (D'.sx 6 + 1)))) rfl st
        rw [ebD]
        refine WL.next hK1 (fun _ _ h => h) (setX (popD D') 6 (IntKind.i64.wrap (D'.sx 6 + 1)), pc, pl, i + 1) ⟨hr1.setX (by decide), ebD, eXK, hcr, by show i + 1 + pl.length = _; omega, st⟩ (Nat.lt_succ_self _) (by repeat (first | exact sub_nil _ | refine sub_cons rfl rfl ?_))
end Go.Proofs.Qxb6500837aDoor

