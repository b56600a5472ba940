import Derived.Test.Qxb6500837aDoorD10
set_option linter.unusedVariables false
set_option linter.unusedSimpArgs false
set_option maxRecDepth 20000
namespace Go.Proofs.Qxb6500837aDoor
open Go.RowKit Go.E1 Go.Disk
variable {w0 : World} {L l : List HI} {w : World} {D : DK} {m : Int} {P : PD} {q : Obj → Prop}

theorem st_inq {x : HI} (st : S0 w0 (x :: DIq q D m L) w) : S0 w0 (DIq q D m (x :: L)) w := st.perm di_front.symm
theorem st_outq {x : HI} (st : S0 w0 (DIq q D m (x :: L)) w) : S0 w0 (x :: DIq q D m L) w := st.perm di_front
theorem st_r3 {x y a b c : HI} (st : S0 w0 (x :: y :: a :: b :: c :: l) w) : S0 w0 (x :: a :: b :: c :: y :: l) w := st.perm (.cons _ (List.perm_middle (l₁ := [a, b, c]) (a := y) (l₂ := l)).symm)
theorem st_r3' {x y a b c : HI} (st : S0 w0 (x :: a :: b :: c :: y :: l) w) : S0 w0 (x :: y :: a :: b :: c :: l) w := st.perm (.cons _ (List.perm_middle (l₁ := [a, b, c]) (a := y) (l₂ := l)))

theorem born_inj {es : Array MapEntry} {x y : MapEntry} {clock : Nat} (hs : Go.MapKept.Stamped es clock) (hx : x ∈ es.toList) (hy : y ∈ es.toList) (h : x.born = y.born) : x = y := by
  have a := find_born x es.toList hs.2.1 hx
  have b := find_born y es.toList hs.2.1 hy
  rw [h, b] at a
  exact (Option.some.inj a).symm

theorem settle_range {l : List (Nat × (Nat → Int))} : ∀ {pc : Nat → Nat → Int}, (∀ s j, 0 ≤ pc s j ∧ pc s j < 256) → (∀ p, p ∈ l → ∀ j, 0 ≤ p.2 j ∧ p.2 j < 256) → ∀ s j, 0 ≤ settle pc l s j ∧ settle pc l s j < 256 := by
  induction l with
  | nil => exact fun h _ => h
  | cons p l ih => exact fun h1 h2 => ih (stP_range h1 (h2 p List.mem_cons_self)) fun p hp => h2 p (List.mem_cons_of_mem _ hp)

def seenK (es : Array MapEntry) (seen : Array Nat) (s : Nat) : Prop := ∃ x, x ∈ es.toList ∧ x.key = .int .i64 (s : Nat) ∧ seen.contains x.born = true

set_option maxHeartbeats 32000000 in
theorem sync_ok (h : Rep D P) (st : S0 w0 (DI D 0 L) w) :
    Calls Tryd.prog 39 #[.pointer (some ⟨D.bD, 0, none⟩)] w (Ret fun v w' => ∃ D' l1, D'.bD = D.bD ∧ Rep D' (syncP P).1 ∧ EV (syncP P).2 v l1 ∧ S0 w0 (l1 ++ DI D' 0 L) w') := by
  by_cases hdn : P.down = true
  · skip
    refine enterD [.pointer (some ⟨D.bD, 0, none⟩)] Tryd.func39 rfl Tryd.ntmps39 rfl ?_
    show WC _ _ _ 57 [] [(0, .pointer (some ⟨D.bD, 0, none⟩))] _
    refine WC.seqD fun K290 hK290 => ?_
    -- region 0
    refine WC.region ?_
    -- R0.0 2 := disk.go:156 assign
    refine WL.v (by first | exact r_assign (v := .nilIface) rfl | exact r_assign (v := .iface _ _) rfl | exact r_assign rfl) rfl rfl rfl ?_
    refine WL.fin (hK290 _) (fun _ _ h => h) ?_
    refine WC.seqD fun K291 hK291 => ?_
    -- region 1
    refine WC.region ?_
    -- R1.0 7 := disk.go:157 move
    refine WL.v (by first | exact r_move (v := .pointer _) rfl | exact r_move rfl) rfl rfl rfl ?_
    -- R1.1 8 := disk.go:157 nilCheck
    refine WL.v (by exact r_nilCheck rfl) rfl rfl rfl ?_
    -- R1.2 9 := disk.go:157 fieldAddr
    refine WL.v (by exact r_field ty_fld97_0 rfl) rfl rfl rfl ?_
    -- R1.3 10 := disk.go:157 call
    refine WL.lock Tryd.muLib ty_call47 (st) rfl (by decide) rfl rfl rfl rfl ?_
    intro w st
    refine WL.fin (hK291 _) (fun _ _ h => h) ?_
    refine WC.seqD fun K292 hK292 => ?_
    -- region 2
    refine WC.region ?_
    -- R2.0 11 := disk.go:158 move
    refine WL.v (by first | exact r_move (v := .pointer _) rfl | exact r_move rfl) rfl rfl rfl ?_
    -- R2.1 12 := disk.go:158 nilCheck
    refine WL.v (by exact r_nilCheck rfl) rfl rfl rfl ?_
    -- R2.2 13 := disk.go:158 fieldAddr
    refine WL.v (by exact r_field ty_fld97_0 rfl) rfl rfl rfl ?_
    -- R2.3 None := disk.go:158 defer
    refine WL.defer rfl rfl rfl ?_
    refine WL.fin (hK292 _) (fun _ _ h => h) ?_
    refine WC.seqD fun K293 hK293 => ?_
    refine WC.seqD fun K294 hK294 => ?_
    -- region 3
    refine WC.region ?_
    -- R3.0 14 := disk.go:159 move
    refine WL.v (by first | exact r_move (v := .pointer _) rfl | exact r_move rfl) rfl rfl rfl ?_
    -- R3.1 15 := disk.go:159 nilCheck
    refine WL.v (by exact r_nilCheck rfl) rfl rfl rfl ?_
    -- R3.2 16 := disk.go:159 fieldAddr
    refine WL.v (by exact r_field ty_fld97_3 rfl) rfl rfl rfl ?_
    -- R3.3 17 := disk.go:159 load
    have st := st_nrm (L' := dC 1 D) rfl st
    refine WL.v (v := .bool true) (by exact r_load1 ty_one4 rfl ((st.c0 (by decide)).trans (show (some (Value.bool D.down) : Option Value) = _ by rw [h.down, hdn]))) rfl rfl rfl ?_
    refine WL.fin (hK294 _) (fun _ _ h => h) ?_
    refine WC.condT rfl rfl ?_
    refine WC.seqD fun K295 hK295 => ?_
    -- region 4
    refine WC.region ?_
    -- R4.0 18 := disk.go:160 call
    refine WL.call (r_call ty_call50 rfl) rfl rfl rfl (refuse_ok _ _ _ st) ?_
    rintro _ w ⟨be, rfl, st⟩
    -- R4.1 2 := disk.go:160 assign
    refine WL.v (by first | exact r_assign (v := .nilIface) rfl | exact r_assign (v := .iface _ _) rfl | exact r_assign rfl) rfl rfl rfl ?_
    refine WL.fin (hK295 _) (fun _ _ h => h) ?_
    refine WC.retD1 Tryd.muLib ty_call48 Tryd.results39 (fun _ _ h => h) rfl (st.front1) (by decide) rfl ?_
    intro w st
    have st := st_nrm (L' := dC 0 D) rfl st
    have e : syncP P = (P, 3) := by unfold syncP; rw [if_pos hdn]
    rw [e]
    exact ⟨_, rfl, D, _, rfl, h, EV.e3, st.front1⟩
  have e : syncP P = ({ P with pc := settle P.pc P.pend, pend := [] }, 0) := by unfold syncP; rw [if_neg hdn]
  rw [e]
  refine enterD [.pointer (some ⟨D.bD, 0, none⟩)] Tryd.func39 rfl Tryd.ntmps39 rfl ?_
  show WC _ _ _ 57 [] [(0, .pointer (some ⟨D.bD, 0, none⟩))] _
  refine WC.seqD fun K296 hK296 => ?_
  -- region 0
  refine WC.region ?_
  -- R0.0 2 := disk.go:156 assign
  refine WL.v (by first | exact r_assign (v := .nilIface) rfl | exact r_assign (v := .iface _ _) rfl | exact r_assign rfl) rfl rfl rfl ?_
  refine WL.fin (hK296 _) (fun _ _ h => h) ?_
  refine WC.seqD fun K297 hK297 => ?_
  -- region 1
  refine WC.region ?_
  -- R1.0 7 := disk.go:157 move
  refine WL.v (by first | exact r_move (v := .pointer _) rfl | exact r_move rfl) rfl rfl rfl ?_
  -- R1.1 8 := disk.go:157 nilCheck
  refine WL.v (by exact r_nilCheck rfl) rfl rfl rfl ?_
  -- R1.2 9 := disk.go:157 fieldAddr
  refine WL.v (by exact r_field ty_fld97_0 rfl) rfl rfl rfl ?_
  -- R1.3 10 := disk.go:157 call
  refine WL.lock Tryd.muLib ty_call47 (st) rfl (by decide) rfl rfl rfl rfl ?_
  intro w st
  refine WL.fin (hK297 _) (fun _ _ h => h) ?_
  refine WC.seqD fun K298 hK298 => ?_
  -- region 2
  refine WC.region ?_
  -- R2.0 11 := disk.go:158 move
  refine WL.v (by first | exact r_move (v := .pointer _) rfl | exact r_move rfl) rfl rfl rfl ?_
  -- R2.1 12 := disk.go:158 nilCheck
  refine WL.v (by exact r_nilCheck rfl) rfl rfl rfl ?_
  -- R2.2 13 := disk.go:158 fieldAddr
  refine WL.v (by exact r_field ty_fld97_0 rfl) rfl rfl rfl ?_
  -- R2.3 None := disk.go:158 defer
  refine WL.defer rfl rfl rfl ?_
  refine WL.fin (hK298 _) (fun _ _ h => h) ?_
  refine WC.seqD fun K299 hK299 => ?_
  refine WC.seqD fun K300 hK300 => ?_
  -- region 3
  refine WC.region ?_
  -- R3.0 14 := disk.go:159 move
  refine WL.v (by first | exact r_move (v := .pointer _) rfl | exact r_move rfl) rfl rfl rfl ?_
  -- R3.1 15 := disk.go:159 nilCheck
  refine WL.v (by exact r_nilCheck rfl) rfl rfl rfl ?_
  -- R3.2 16 := disk.go:159 fieldAddr
  refine WL.v (by exact r_field ty_fld97_3 rfl) rfl rfl rfl ?_
  -- R3.3 17 := disk.go:159 load
  have st := st_nrm (L' := dC 1 D) rfl st
  refine WL.v (v := .bool false) (by exact r_load1 ty_one4 rfl ((st.c0 (by decide)).trans (show (some (Value.bool D.down) : Option Value) = _ by rw [h.down]; simp [hdn]))) rfl rfl rfl ?_
  refine WL.fin (hK300 _) (fun _ _ h => h) ?_
  refine WC.condF rfl rfl ?_
  refine WC.skipF (hK299 _) (fun _ _ h => h) ?_
  refine WC.seqD fun K301 hK301 => ?_
  refine WC.seqD fun K302 hK302 => ?_
  -- region 5
  refine WC.region ?_
  -- R5.0 19 := disk.go:162 move
  refine WL.v (by first | exact r_move (v := .pointer _) rfl | exact r_move rfl) rfl rfl rfl ?_
  -- R5.1 20 := disk.go:162 nilCheck
  refine WL.v (by exact r_nilCheck rfl) rfl rfl rfl ?_
  -- R5.2 21 := disk.go:162 fieldAddr
  refine WL.v (by exact r_field ty_fld97_2 rfl) rfl rfl rfl ?_
  -- R5.3 22 := disk.go:162 fieldAddr
  refine WL.v (by exact r_field ty_fld95_4 rfl) rfl rfl rfl ?_
  -- R5.4 23 := disk.go:162 load
  refine WL.v (by exact r_load1 ty_one93 rfl (by first | assumption | exact st.c0 (by first | decide | omega) | exact st.c1 (by first | decide | omega) | exact st.c2 (by first | decide | omega) | exact st.c3 (by first | decide | omega) | exact st.c4 (by first | decide | omega) | exact st.c5 (by first | decide | omega) | exact st.c6 (by first | decide | omega) | exact st.c7 (by first | decide | omega) | exact st.c8 (by first | decide | omega))) rfl rfl rfl ?_
  -- R5.5 24 := disk.go:162 range
  refine WL.range st.front3 ty_mp93 rfl rfl rfl rfl ?_
  intro es clock rb w hE st
  refine WL.fin (hK302 _) (fun _ _ h => h) ?_
  refine WC.block ?_
  have hs2 := h.s2; have hsec := h.sec; have hlim := h.l1; have hlim2 := h.l2; have hl3 := h.lim; have hhd := h.hd; have htl := h.tl; have hwr' := h.wr; have hple := h.ple
  refine WC.loop (ι := (Nat → Option Nat) × (Nat → Nat → Int) × Array Nat) (fun i => [(0, .pointer (some ⟨D.bD, 0, none⟩)), (24, .pointer (some ⟨rb, 0, none⟩))])
    (fun i w' => ZE { D with eb := i.1, pc := i.2.1 } ∧ (∀ s, (seenK es i.2.2 s → ∀ j, i.2.1 s j = settle P.pc P.pend s j) ∧ (¬ seenK es i.2.2 s → ∀ j, i.2.1 s j = P.pc s j)) ∧ S0 w0 ((rb, Is (.mapIter (some D.bM) clock i.2.2 clock)) :: (D.bM, Is (.map es clock)) :: (D.bD, Row 97 23 (nth (dC 1 D))) :: (D.bX, Row 29 D.nE (exF i.1)) :: (D.bS, Row 128 D.nS (slF D.sb)) :: DX { D with eb := i.1, pc := i.2.1 } L) w') (fun i => unseen es i.2.2) (D.eb, D.pc, #[]) ⟨h.ze, fun s => ⟨fun hk => by obtain ⟨x, _, _, hc⟩ := hk; simp at hc, fun _ j => by show D.pc s j = _; rw [h.pc]⟩, st⟩ ?_ ?_
  · skip
    repeat (first | exact sub_nil _ | refine sub_cons rfl rfl ?_)
  rintro ⟨eb', pc', seen⟩ w ⟨hz, hpc, st⟩ K1 hK1
  dsimp only at hz hpc st ⊢
  rcases run_mnext (P := Tryd.prog) (ty := 0) hE st with ⟨hall, hr⟩ | ⟨x, hx, hseen, w1, hr, st1⟩
  · have hT : pc' = settle P.pc P.pend := by
      funext s j
      rcases hN : D.N (s : Int) with _ | sq
      · rw [h.seen_none hN]
        refine (hpc s).2 ?_ j
        rintro ⟨x, hx, hk, _⟩
        have := (hE.holds x hx).2
        rw [hk] at this
        have : nV D.N (s : Int) = some x.val := this
        unfold nV at this
        rw [hN] at this
        cases this
      · refine (hpc s).1 ?_ j
        obtain ⟨x, hx, hk⟩ := hE.all (.int .i64 (s : Nat)) (.int .i64 (sq : Nat)) (by show nV D.N (s : Int) = _; unfold nV; rw [hN]; rfl)
        exact ⟨x, hx, hk, hall x hx⟩
    have st : S0 w0 (DI { D with eb := eb', pc := pc' } 1 L) w := ((st_r3 st).drop.front3.impc fun o ho => hE.mapV ho).back3
    have hr0 : Rep { D with eb := eb', pc := pc' } { P with pc := settle P.pc P.pend } := { h with pc := hT, pcr := settle_range h.pcr fun p hp => (h.psec p hp).2, ze := hz }
    refine WC.seqD fun K303 hK303 => ?_
    -- region 6
    refine WC.region ?_
    -- R6.0 25 := disk.go:162 next
    refine WL.v (v := .tuple #[.bool false]) (w' := w) (r_next rfl hr) rfl rfl rfl ?_
    -- R6.1 26 := disk.go:162 extract
    refine WL.v (by first | exact r_extract (v := .bool _) rfl rfl | exact r_extract rfl rfl) rfl rfl rfl ?_
    refine WL.fin (hK303 _) (fun _ _ h => h) ?_
    refine WC.seqD fun K304 hK304 => ?_
    refine WC.condF rfl rfl ?_
    refine WC.exitF (hK301 _) (fun _ _ h => h) ?_
    refine WC.seqD fun K305 hK305 => ?_
    -- region 10
    refine WC.region ?_
    -- R10.0 44 := disk.go:166 move
    refine WL.v (by first | exact r_move (v := .pointer _) rfl | exact r_move rfl) rfl rfl rfl ?_
    -- R10.1 45 := disk.go:166 nilCheck
    refine WL.v (by exact r_nilCheck rfl) rfl rfl rfl ?_
    -- R10.2 46 := disk.go:166 fieldAddr
    refine WL.v (by exact r_field ty_fld97_2 rfl) rfl rfl rfl ?_
    -- R10.3 47 := disk.go:166 call
    refine WL.call (r_call ty_call63 rfl) rfl rfl rfl (drop_ok (D := { D with eb := eb', pc := pc' }) st) ?_
    rintro _ w st
    refine WL.fin (hK305 _) (fun _ _ h => h) ?_
    refine WC.seqD fun K306 hK306 => ?_
    -- region 11
    refine WC.region ?_
    -- R11.0 48 := disk.go:167 move
    refine WL.v (by first | exact r_move (v := .pointer _) rfl | exact r_move rfl) rfl rfl rfl ?_
    -- R11.1 49 := disk.go:167 nilCheck
    refine WL.v (by exact r_nilCheck rfl) rfl rfl rfl ?_
    -- R11.2 50 := disk.go:167 fieldAddr
    refine WL.v (by exact r_field ty_fld97_7 rfl) rfl rfl rfl ?_
    -- R11.3 51 := disk.go:167 fieldAddr
    refine WL.v (by exact r_field ty_fld67_2 rfl) rfl rfl rfl ?_
    -- R11.4 52 := disk.go:167 load
    refine WL.v (by exact r_load1 ty_one2 rfl (by first | assumption | exact st.c0 (by first | decide | omega) | exact st.c1 (by first | decide | omega) | exact st.c2 (by first | decide | omega) | exact st.c3 (by first | decide | omega) | exact st.c4 (by first | decide | omega) | exact st.c5 (by first | decide | omega) | exact st.c6 (by first | decide | omega) | exact st.c7 (by first | decide | omega) | exact st.c8 (by first | decide | omega))) rfl rfl rfl ?_
    -- R11.5 53 := disk.go:167 binOp
    refine WL.v (by first | exact r_add rfl rfl (wi64 (by omega) (by omega)) | exact r_add rfl rfl rfl) rfl rfl rfl ?_
    -- R11.6 54 := disk.go:167 nilCheck
    refine WL.v (by exact r_nilCheck rfl) rfl rfl rfl ?_
    -- R11.7 55 := disk.go:167 fieldAddr
    refine WL.v (by exact r_field ty_fld97_7 rfl) rfl rfl rfl ?_
    -- R11.8 56 := disk.go:167 fieldAddr
    refine WL.v (by exact r_field ty_fld67_2 rfl) rfl rfl rfl ?_
    -- R11.9 None := disk.go:167 store
    first | refine WL.store (v := .int _ _) st ty_one2 rfl rfl rfl (by first | decide | omega) rfl rfl ?_ | refine WL.store (v := _) st ty_one2 rfl rfl rfl (by first | decide | omega) rfl rfl ?_ | refine WL.store (v := .int _ _) st.front1 ty_one2 rfl rfl rfl (by first | decide | omega) rfl rfl ?_ | refine WL.store (v := _) st.front1 ty_one2 rfl rfl rfl (by first | decide | omega) rfl rfl ?_ | refine WL.store (v := .int _ _) st.front2 ty_one2 rfl rfl rfl (by first | decide | omega) rfl rfl ?_ | refine WL.store (v := _) st.front2 ty_one2 rfl rfl rfl (by first | decide | omega) rfl rfl ?_ | refine WL.store (v := .int _ _) st.front3 ty_one2 rfl rfl rfl (by first | decide | omega) rfl rfl ?_ | refine WL.store (v := _) st.front3 ty_one2 rfl rfl rfl (by first | decide | omega) rfl rfl ?_ | refine WL.store (v := .int _ _) st.front4 ty_one2 rfl rfl rfl (by first | decide | omega) rfl rfl ?_ | refine WL.store (v := _) st.front4 ty_one2 rfl rfl rfl (by first | decide | omega) rfl rfl ?_ | refine WL.store (v := .int _ _) st.front5 ty_one2 rfl rfl rfl (by first | decide | omega) rfl rfl ?_ | refine WL.store (v := _) st.front5 ty_one2 rfl rfl rfl (by first | decide | omega) rfl rfl ?_ | refine WL.store (v := .int _ _) st.front6 ty_one2 rfl rfl rfl (by first | decide | omega) rfl rfl ?_ | refine WL.store (v := _) st.front6 ty_one2 rfl rfl rfl (by first | decide | omega) rfl rfl ?_ | refine WL.store (v := .int _ _) st.front7 ty_one2 rfl rfl rfl (by first | decide | omega) rfl rfl ?_ | refine WL.store (v := _) st.front7 ty_one2 rfl rfl rfl (by first | decide | omega) rfl rfl ?_ | refine WL.store (v := .int _ _) st.front8 ty_one2 rfl rfl rfl (by first | decide | omega) rfl rfl ?_ | refine WL.store (v := _) st.front8 ty_one2 rfl rfl rfl (by first | decide | omega) rfl rfl ?_
    intro w st
    refine WL.fin (hK306 _) (fun _ _ h => h) ?_
    refine WC.seqD fun K307 hK307 => ?_
    -- region 12
    refine WC.region ?_
    -- R12.0 2 := disk.go:168 assign
    refine WL.v (by first | exact r_assign (v := .nilIface) rfl | exact r_assign (v := .iface _ _) rfl | exact r_assign rfl) rfl rfl rfl ?_
    refine WL.fin (hK307 _) (fun _ _ h => h) ?_
    refine WC.retD1 Tryd.muLib ty_call48 Tryd.results39 (fun _ _ h => h) rfl (st) (by decide) rfl ?_
    intro w st
    have st := st_nrm (L' := dC 0 (setX (dropD { D with eb := eb', pc := pc' }) 2 (IntKind.i64.wrap (D.sx 2 + 1)))) rfl st
    exact ⟨_, rfl, setX (dropD { D with eb := eb', pc := pc' }) 2 (IntKind.i64.wrap (D.sx 2 + 1)), [], rfl, hr0.drop.setX (by decide), EV.ok, st⟩
  · obtain ⟨sn, sq, hxk, hxv, hN⟩ : ∃ sn sq : Nat, x.key = .int .i64 (sn : Nat) ∧ x.val = .int .i64 (sq : Nat) ∧ D.N (sn : Int) = some sq := by
      have hv := (hE.holds x hx).2
      unfold gOf at hv
      split at hv
      · rename_i s' hk
        unfold nV at hv
        cases hN : D.N s' with
        | none => rw [hN] at hv; cases hv
        | some sq =>
          rw [hN] at hv
          have hN' := hN
          rw [h.N] at hN
          obtain ⟨_, _, p, _, hp⟩ := newest_spec hN
          exact ⟨p.1, sq, by rw [hk, hp], (Option.some.inj hv).symm, by rw [hp]; exact hN'⟩
      · cases hv
    have hsn : sn < P.sec := by
      have hN' := hN
      rw [h.N] at hN'
      obtain ⟨_, _, p, hp1, hp2⟩ := newest_spec hN'
      have := (h.psec p (List.mem_of_getElem? hp1)).1
      omega
    obtain ⟨hq1, hq2, hq3⟩ := h.seen_some hN
    obtain ⟨b, hb⟩ := Option.ne_none_iff_exists'.1 hq2
    obtain ⟨ox, hox⟩ : ∃ ox, ox = 32 + sq % D.limit % 32 * 512 := ⟨_, rfl⟩
    obtain ⟨cx, hcx⟩ : ∃ cx, cx = 16384 - sq % D.limit % 32 * 512 := ⟨_, rfl⟩
    have hsrc : ∀ (l : List HI) (w' : World), (∀ x, x ∈ gather D.nS (slI D.sb D.ss D.sd) → x ∈ l) → S0 w0 l w' → ∀ j, j < 512 → w'.cell? ⟨b, ox + j, none⟩ = some (.int .u8 (D.sd (sq % D.limit) j)) := fun l w' hsub st j hj => by
      rw [hox]
      exact src_slab (by omega) hb l w' hsub st j (by omega)
    refine WC.seqD fun K308 hK308 => ?_
    -- region 6
    refine WC.region ?_
    -- R6.0 25 := disk.go:162 next
    refine WL.v (v := .tuple #[.bool true, x.key, x.val]) (w' := w1) (r_next rfl hr) rfl rfl rfl ?_
    have st := st1
    -- R6.1 26 := disk.go:162 extract
    refine WL.v (by first | exact r_extract (v := .bool _) rfl rfl | exact r_extract rfl rfl) rfl rfl rfl ?_
    refine WL.fin (hK308 _) (fun _ _ h => h) ?_
    refine WC.seqD fun K309 hK309 => ?_
    refine WC.condT rfl rfl ?_
    refine WC.skipF (hK309 _) (fun _ _ h => h) ?_
    refine WC.block ?_
    refine WC.seqD fun K310 hK310 => ?_
    -- region 7
    refine WC.region ?_
    -- R7.0 27 := disk.go:162 entry
    refine WL.v (by exact r_mentry hE hx st rfl) rfl rfl rfl ?_
    -- R7.1 28 := disk.go:162 extract
    refine WL.v (v := .int .i64 (sn : Nat)) (r_extract rfl (congrArg some hxk)) rfl rfl rfl ?_
    -- R7.2 29 := disk.go:162 extract
    refine WL.v (v := .int .i64 (sq : Nat)) (r_extract rfl (congrArg some hxv)) rfl rfl rfl ?_
    -- R7.3 3 := disk.go:162 assign
    refine WL.v (by first | exact r_assign (v := .int _ _) rfl | exact r_assign rfl) rfl rfl rfl ?_
    -- R7.4 4 := disk.go:162 assign
    refine WL.v (by first | exact r_assign (v := .int _ _) rfl | exact r_assign rfl) rfl rfl rfl ?_
    refine WL.fin (hK310 _) (fun _ _ h => h) ?_
    refine WC.seqD fun K311 hK311 => ?_
    -- region 8
    refine WC.region ?_
    -- R8.0 31 := disk.go:163 move
    refine WL.v (by first | exact r_move (v := .pointer _) rfl | exact r_move rfl) rfl rfl rfl ?_
    -- R8.1 32 := disk.go:163 nilCheck
    refine WL.v (by exact r_nilCheck rfl) rfl rfl rfl ?_
    -- R8.2 33 := disk.go:163 fieldAddr
    refine WL.v (by exact r_field ty_fld97_2 rfl) rfl rfl rfl ?_
    -- R8.3 34 := disk.go:163 move
    refine WL.v (by first | exact r_move (v := .int _ _) rfl | exact r_move rfl) rfl rfl rfl ?_
    -- R8.4 35 := disk.go:163 call
    have st : S0 w0 (DIq (Is (.map es clock)) { D with eb := eb', pc := pc' } 1 ((rb, Is (.mapIter (some D.bM) clock (seen.push x.born) clock)) :: L)) w1 := st_inq (st_r3 st)
    refine WL.call (r_call ty_call62 rfl) rfl rfl rfl (at_ok (D := { D with eb := eb', pc := pc' }) sq b (by show 1 ≤ D.limit; omega) (by show D.limit ≤ _; omega) hq1 hb st) ?_
    rintro _ w ⟨rfl, st⟩
    dsimp only
    rw [← hox, ← hcx]
    -- R8.5 30 := disk.go:163 move
    refine WL.v (by first | exact r_move (v := .tuple _) rfl | exact r_move rfl) rfl rfl rfl ?_
    -- R8.6 36 := disk.go:163 extract
    refine WL.v (by first | exact r_extract (v := .int _ _) rfl rfl | exact r_extract rfl rfl) rfl rfl rfl ?_
    -- R8.7 37 := disk.go:163 extract
    refine WL.v (by first | exact r_extract (v := .slice _ _ _) rfl rfl | exact r_extract rfl rfl) rfl rfl rfl ?_
    -- R8.8 5 := disk.go:163 assign
    refine WL.v (by first | exact r_assign (v := .int _ _) rfl | exact r_assign rfl) rfl rfl rfl ?_
    -- R8.9 6 := disk.go:163 assign
    refine WL.v (by first | exact r_assign (v := .slice _ _ _) rfl | exact r_assign rfl) rfl rfl rfl ?_
    refine WL.fin (hK311 _) (fun _ _ h => h) ?_
    -- region 9
    refine WC.region ?_
    -- R9.0 38 := disk.go:164 move
    refine WL.v (by first | exact r_move (v := .pointer _) rfl | exact r_move rfl) rfl rfl rfl ?_
    -- R9.1 39 := disk.go:164 nilCheck
    refine WL.v (by exact r_nilCheck rfl) rfl rfl rfl ?_
    -- R9.2 40 := disk.go:164 fieldAddr
    refine WL.v (by exact r_field ty_fld97_1 rfl) rfl rfl rfl ?_
    -- R9.3 41 := disk.go:164 move
    refine WL.v (by first | exact r_move (v := .int _ _) rfl | exact r_move rfl) rfl rfl rfl ?_
    -- R9.4 42 := disk.go:164 move
    refine WL.v (by first | exact r_move (v := .slice _ _ _) rfl | exact r_move rfl) rfl rfl rfl ?_
    -- R9.5 43 := disk.go:164 call
    refine WL.call (r_call ty_call57 rfl) rfl rfl rfl (store_ok (D := { D with eb := eb', pc := pc' }) sn 512 cx b ox (D.sd (sq % D.limit)) (by show sn < D.sectors; omega) (by show D.sectors ≤ _; omega) (Nat.le_refl _) hz hsrc st) ?_
    rintro _ w ⟨eb2, hz2, st⟩
    have st := st_r3' (st_outq st)
    refine WL.next hK1 (fun _ _ h => h) (eb2, stP pc' sn 512 (D.sd (sq % D.limit)), seen.push x.born) ⟨hz2, ?_, st⟩ (unseen_push hx hseen) (by repeat (first | exact sub_nil _ | refine sub_cons rfl rfl ?_))
    have hcont : ∀ y : MapEntry, (seen.push x.born).contains y.born = true ↔ (seen.contains y.born = true ∨ y.born = x.born) := fun y => by
      simp only [Array.contains_iff_mem, Array.mem_push]
    have hk1 : ∀ s, s ≠ sn → (seenK es (seen.push x.born) s ↔ seenK es seen s) := fun s hs => by
      refine ⟨?_, ?_⟩
      · rintro ⟨y, hy, hk, hc⟩
        rcases (hcont y).1 hc with hc | hc
        · exact ⟨y, hy, hk, hc⟩
        · have := born_inj hE.stamped hy hx hc
          subst this
          rw [hxk] at hk
          have : (sn : Int) = (s : Int) := by injection hk
          omega
      · rintro ⟨y, hy, hk, hc⟩
        exact ⟨y, hy, hk, (hcont y).2 (.inl hc)⟩
    intro s
    by_cases hs : s = sn
    · subst hs
      have hk : seenK es (seen.push x.born) s := ⟨x, hx, hxk, (hcont x).2 (.inr rfl)⟩
      refine ⟨fun _ j => ?_, fun hn => absurd hk hn⟩
      show stP pc' s 512 (D.sd (sq % D.limit)) s j = _
      unfold stP
      by_cases hj : j < 512
      · rw [if_pos ⟨rfl, hj⟩, hq3 j hj]
      · rw [if_neg (fun h => hj h.2)]
        have e1 : settle P.pc P.pend s j = P.pc s j := by
          rw [settle_newest s j (h := D.hd), ← h.N, hN]
          exact if_neg hj
        by_cases hk2 : seenK es seen s
        · exact (hpc s).1 hk2 j
        · rw [(hpc s).2 hk2 j, e1]
    · have e2 : ∀ j, stP pc' sn 512 (D.sd (sq % D.limit)) s j = pc' s j := fun j => by unfold stP; rw [if_neg (fun h => hs h.1)]
      refine ⟨fun hk j => ?_, fun hk j => ?_⟩
      · show stP pc' sn 512 (D.sd (sq % D.limit)) s j = _
        rw [e2]; exact (hpc s).1 ((hk1 s hs).1 hk) j
      · show stP pc' sn 512 (D.sd (sq % D.limit)) s j = _
        rw [e2]; exact (hpc s).2 (fun h => hk ((hk1 s hs).2 h)) j
end Go.Proofs.Qxb6500837aDoor

