import Derived.Test.Qxb6500835aFmtWF
set_option linter.unusedVariables false
set_option linter.unusedSimpArgs false
namespace Go.Proofs.Qxb6500835aFmt
open Go.RowKit Go.E1 Go.Conv Go.Extern.Stop Go.Stop Go.Extern

/-- What the terms' texts are asked to be. -/
structure TermsOk (F : Interp) (Tm : Nat → ByteArray) : Prop where
  txt : ∀ t, t ≤ 65536 → FmtStop.textOf (F "fmt.Sprintf" (fReading (t : Nat)) 0) = Tm t
  size : ∀ t, t ≤ 65536 → (Tm t).size ≤ 1000
  ne : ∀ t, t ≤ 65536 → ((Tm t).toList == (ByteArray.mk #[]).toList) = false
  inc : ∀ t, 0 < t → t ≤ 65536 → Op.bytesLess (Tm (t - 1)).toList (Tm t).toList = true
  inj : ∀ t u, t ≤ 65536 → u ≤ 65536 → Tm t = Tm u → t = u

/-- A state of the law's loop over the script. -/
structure TopI where
  i : Nat
  F : Nat → Value
  fv : Value
  FI : List HI
  m : Nat
  xv : Value
  XI : List HI
  xf : Nat → Value
  src : Nat → Nat
  G : Value → Option Value

/-- The index made so far. -/
def IxIn (n m : Nat) (xf : Nat → Value) (src : Nat → Nat) (Tm : Nat → ByteArray) (la : Nat → Option Addr) (ln lcp : Nat → Nat) (X : Nat → Nat → Pr) : Prop :=
  ∀ t, t < m → src t < n ∧ 1 ≤ ln (src t) ∧ OKL (ln (src t)) (X (src t)) ∧ xf (t * 2) = .string (Tm t) ∧ xf (t * 2 + 1) = .slice (la (src t)) (ln (src t)) (lcp (src t))

theorem IxIn.more {n m i : Nat} {xf xf' : Nat → Value} {src : Nat → Nat} {Tm : Nat → ByteArray} {la : Nat → Option Addr} {ln lcp : Nat → Nat} {X : Nat → Nat → Pr} (h : IxIn n m xf src Tm la ln lcp X) (hi : i < n) (h1 : 1 ≤ ln i) (hok : OKL (ln i) (X i))
    (hold : ∀ k, k < m * 2 → xf' k = xf k) (hn0 : xf' (m * 2) = .string (Tm m)) (hn1 : xf' (m * 2 + 1) = .slice (la i) (ln i) (lcp i)) : IxIn n (m + 1) xf' (fun t => if t = m then i else src t) Tm la ln lcp X := by
  intro t ht
  by_cases htm : t = m
  · subst htm; simp only [if_pos rfl]; exact ⟨hi, h1, hok, hn0, hn1⟩
  · simp only [if_neg htm]
    obtain ⟨a1, a2, a3, a4, a5⟩ := h t (by omega)
    exact ⟨a1, a2, a3, by rw [hold _ (by omega)]; exact a4, by rw [hold _ (by omega)]; exact a5⟩

def K3 (Tm : Nat → ByteArray) (X : Nat → Nat → Pr) (src : Nat → Nat) : Nat × Nat → Value := fun x => kv3 (Tm x.1) (X (src x.1) x.2)

set_option maxHeartbeats 16000000 in
theorem keeps_ok (F : Interp) (Tm : Nat → ByteArray) (hT : TermsOk F Tm) (a : Option Addr) (sb so n c : Nat) (C : Nat → List Value) (la : Nat → Option Addr) (ln lcp lb lo : Nat → Nat) (X : Nat → Nat → Pr) (V : Nat → Nat → Nat) {w : World} (hF : F.answers w.tape)
    (hc : n ≤ 140737488355328) (ha : 0 < n → a = some ⟨sb, so, none⟩) (hs : Scr w sb so n C) (hL : Lists w n C la ln lcp lb lo X V) :
    Calls Tryf.prog 3 #[.slice a n c] w (Ret fun v w' => v = .bool true ∧ St w (fun _ => False) [] w') := by
  have st := St.init w (fun _ => False)
  obtain ⟨w0, hw0⟩ : ∃ w0, w0 = w := ⟨w, rfl⟩
  have st : St w0 (fun _ => False) [] w := by rw [hw0]; exact st
  have hF : F.answers w0.tape := by rw [hw0]; exact hF
  have hs : Scr w0 sb so n C := by rw [hw0]; exact hs
  have hL : Lists w0 n C la ln lcp lb lo X V := by rw [hw0]; exact hL
  have goal : Calls Tryf.prog 3 #[.slice a n c] w (Ret fun v w' => v = .bool true ∧ St w0 (fun _ => False) [] w') := by
    clear hw0
    refine enter [.slice a n c] Tryf.func3 rfl Tryf.ntmps3 rfl ?_
    show WC _ _ _ 238 [] [(0, .slice a n c)] _
    refine WC.seq fun K354 hK354 => ?_
    -- region 0
    refine WC.region ?_
    -- R0.0 2 := law.go:80 assign
    refine WL.v (by first | exact r_assign (v := .bool _) rfl | exact r_assign rfl) rfl rfl rfl ?_
    refine WL.fin hK354 (fun _ _ h => h) ?_
    refine WC.seq fun K355 hK355 => ?_
    refine WC.seq fun K356 hK356 => ?_
    -- region 1
    refine WC.region ?_
    -- R1.0 36 := law.go:81 move
    refine WL.v (by first | exact r_move (v := .slice _ _ _) rfl | exact r_move rfl) rfl rfl rfl ?_
    -- R1.1 37 := law.go:81 call
    refine WL.call (r_call ty_call4 rfl) rfl rfl rfl (zzSmall1_ok a sb so n c C ln hc ha hs (fun i hi => ⟨_, _, hL.val i hi⟩) st) ?_
    rintro _ w ⟨t, rfl, ht, st⟩
    -- R1.2 38 := law.go:81 unOp
    refine WL.v (by first | exact r_notT rfl | exact r_notF rfl | exact r_not rfl) rfl rfl rfl ?_
    refine WL.fin hK356 (fun _ _ h => h) ?_
    rcases t with _ | _
    · skip
      refine WC.condT rfl rfl ?_
      refine WC.seq fun K357 hK357 => ?_
      -- region 2
      refine WC.region ?_
      -- R2.0 2 := law.go:82 assign
      refine WL.v (by first | exact r_assign (v := .bool _) rfl | exact r_assign rfl) rfl rfl rfl ?_
      refine WL.fin hK357 (fun _ _ h => h) ?_
      refine WC.ret1 Tryf.results3 (fun _ _ h => h) rfl ?_
      exact ⟨_, rfl, rfl, st⟩
    obtain ⟨hn, hlen⟩ := ht rfl
    refine WC.condF rfl rfl ?_
    refine WC.skipF hK355 (fun _ _ h => h) ?_
    refine WC.seq fun K358 hK358 => ?_
    -- region 3
    refine WC.region ?_
    -- R3.0 3 := law.go:85 alloc
    refine WL.alloc (m := 513) st ty_conv0 (rep_len 512 _ _) rfl rfl ?_
    intro cb w st
    refine WL.fin hK358 (fun _ _ h => h) ?_
    refine WC.seq fun K359 hK359 => ?_
    -- region 4
    refine WC.region ?_
    -- R4.0 4 := law.go:86 assign
    refine WL.v (by first | exact r_assign (v := .slice _ _ _) rfl | exact r_assign rfl) rfl rfl rfl ?_
    refine WL.fin hK359 (fun _ _ h => h) ?_
    refine WC.seq fun K360 hK360 => ?_
    -- region 5
    refine WC.region ?_
    -- R5.0 39 := law.go:87 makeMap
    refine WL.mkmap (keyGood Tryf.prog 60) st rfl rfl ?_
    intro b39 w st
    -- R5.1 5 := law.go:87 assign
    refine WL.v (by first | exact r_assign (v := .map _) rfl | exact r_assign rfl) rfl rfl rfl ?_
    refine WL.fin hK360 (fun _ _ h => h) ?_
    refine WC.seq fun K361 hK361 => ?_
    refine WC.seq fun K362 hK362 => ?_
    -- region 6
    refine WC.region ?_
    -- R6.0 40 := law.go:88 move
    refine WL.v (by first | exact r_move (v := .slice _ _ _) rfl | exact r_move rfl) rfl rfl rfl ?_
    -- R6.1 41 := law.go:88 call
    refine WL.v (by exact r_len ty_usl22 rfl) rfl rfl rfl ?_
    -- R6.2 42 := law.go:88 move
    refine WL.v (by first | exact r_move (v := .int _ _) rfl | exact r_move rfl) rfl rfl rfl ?_
    refine WL.fin hK362 (fun _ _ h => h) ?_
    refine WC.block ?_
    refine WC.loop (ι := TopI) (fun z => [(3, .pointer (some ⟨cb, 0, none⟩)), (4, z.xv), (5, .map (some b39)), (40, .slice a n c), (41, .int .i64 (n : Nat)), (42, .int .i64 (z.i : Nat))])
      (fun z w' => St w0 (fun _ => False) ((cb, Row 27 513 z.F) :: (z.FI ++ ((b39, MapV (keyGood Tryf.prog 60) z.G) :: z.XI))) w' ∧ z.i ≤ n ∧ ConvF z.F z.fv ∧ FewOk z.fv z.FI ∧ OwnSl 58 2 z.xv z.m z.XI z.xf ∧ z.m ≤ z.i ∧
        IxIn n z.m z.xf z.src Tm la ln lcp X ∧ Ins z.G (K3 Tm X z.src) (fun x => x.1 < z.m ∧ x.2 < ln (z.src x.1))) (fun z => n - z.i)
      ⟨0, _, .slice none 0 0, [], 0, .slice none 0 0, [], (fun _ => .nilFunc), (fun _ => 0), (fun _ => none)⟩
      ⟨st.front1, Nat.zero_le _, conv0, .inl ⟨rfl, rfl⟩, OwnSl.nil _ _ _, Nat.le_refl _, fun t ht => absurd ht (Nat.not_lt_zero _), (Ins.empty _).congr fun x => by simp⟩ ?_ ?_
    · skip
      repeat (first | exact sub_nil _ | refine sub_cons rfl rfl ?_)
    rintro ⟨i, Fc, fv, FI, m, xv, XI, xf, src, G⟩ w ⟨st, hi, hFc, hfew, hX, hm, hix, hins⟩ K1 hK1
    simp only at st hi hFc hfew hX hm hix hins hK1 ⊢
    obtain ⟨xa, xcap, xb, rfl, hxa, hxr⟩ := hX.form
    by_cases hlt : i < n
    · obtain rfl := ha (by omega)
      have hval := hL.val i hlt
      obtain ⟨ai, hae⟩ : ∃ ai, ai = la i := ⟨_, rfl⟩
      have hai : 0 < ln i → ai = some ⟨lb i, lo i, none⟩ := fun h => hae.trans (hL.adr i hlt h)
      rw [← hae] at hval
      have hlN := hlen i hlt
      have hlat := hL.at_ i hlt
      refine WC.seq fun K363 hK363 => ?_
      -- region 7
      refine WC.region ?_
      -- R7.0 43 := law.go:88 binOp
      refine WL.v (by first | exact r_lss rfl rfl (decide_eq_true (by omega)) | exact r_lss rfl rfl (decide_eq_false (by omega)) | exact r_lss rfl rfl rfl) rfl rfl rfl ?_
      refine WL.fin hK363 (fun _ _ h => h) ?_
      refine WC.seq fun K364 hK364 => ?_
      refine WC.condT rfl rfl ?_
      refine WC.skipF hK364 (fun _ _ h => h) ?_
      refine WC.seq fun K365 hK365 => ?_
      refine WC.block ?_
      refine WC.seq fun K366 hK366 => ?_
      -- region 8
      refine WC.region ?_
      -- R8.0 44 := law.go:88 indexAddr
      refine WL.v (by exact r_indexS ty_sl22 rfl rfl rfl (by omega)) rfl rfl rfl ?_
      -- R8.1 45 := law.go:88 load
      refine WL.v (by exact r_loadL (vs := [_, _, _, _, _, _, _, _, _, _, _, _, _, _, _, _]) ty_agg43 rfl ⟨(st.old (fun h => h) (hs.cell i hlt 0 (by omega))), (st.old (fun h => h) (hs.cell i hlt 1 (by omega))), (st.old (fun h => h) (hs.cell i hlt 2 (by omega))), (st.old (fun h => h) (hs.cell i hlt 3 (by omega))), (st.old (fun h => h) (hs.cell i hlt 4 (by omega))), (st.old (fun h => h) (hs.cell i hlt 5 (by omega))), (st.old (fun h => h) (hs.cell i hlt 6 (by omega))), (st.old (fun h => h) (hs.cell i hlt 7 (by omega))), (st.old (fun h => h) (hs.cell i hlt 8 (by omega))), (st.old (fun h => h) (hs.cell i hlt 9 (by omega))), (st.old (fun h => h) (hs.cell i hlt 10 (by omega))), (st.old (fun h => h) (hs.cell i hlt 11 (by omega))), (st.old (fun h => h) (hs.cell i hlt 12 (by omega))), (st.old (fun h => h) (hs.cell i hlt 13 (by omega))), (st.old (fun h => h) (hs.cell i hlt 14 (by omega))), (st.old (fun h => h) (hs.cell i hlt 15 (by omega))), trivial⟩) rfl rfl rfl ?_
      -- R8.2 7 := law.go:88 alloc
      refine WL.alloc st ty_zero43 rfl rfl rfl ?_
      intro b7 w st
      -- R8.3 None := law.go:88 store
      refine WL.storeW (m := 16) (vs := [_, _, _, _, _, _, _, _, _, _, _, _, _, _, _, _]) st ty_agg43 rfl rfl (op_one (hs.rd i hlt)) rfl rfl rfl ?_
      intro w st
      refine WL.fin hK366 (fun _ _ h => h) ?_
      refine WC.seq fun K367 hK367 => ?_
      -- region 9
      refine WC.region ?_
      -- R9.0 46 := law.go:89 fieldAddr
      refine WL.v (by exact r_field ty_fld43_9 rfl) rfl rfl rfl ?_
      -- R9.1 47 := law.go:89 load
      refine WL.v (by exact r_load1 ty_one25 rfl ((st.c0 (by decide)).trans (congrArg some hval))) rfl rfl rfl ?_
      -- R9.2 8 := law.go:89 assign
      refine WL.v (by first | exact r_assign (v := .slice _ _ _) rfl | exact r_assign rfl) rfl rfl rfl ?_
      refine WL.fin hK367 (fun _ _ h => h) ?_
      refine WC.seq fun K368 hK368 => ?_
      -- region 10
      refine WC.region ?_
      -- R10.0 9 := law.go:90 assign
      refine WL.v (by first | exact r_assign (v := .bool _) rfl | exact r_assign rfl) rfl rfl rfl ?_
      refine WL.fin hK368 (fun _ _ h => h) ?_
      refine WC.seq fun K369 hK369 => ?_
      refine WC.seq fun K370 hK370 => ?_
      -- region 11
      refine WC.region ?_
      -- R11.0 48 := law.go:91 move
      refine WL.v (by first | exact r_move (v := .slice _ _ _) rfl | exact r_move rfl) rfl rfl rfl ?_
      -- R11.1 49 := law.go:91 call
      refine WL.v (by exact r_len ty_usl25 rfl) rfl rfl rfl ?_
      -- R11.2 50 := law.go:91 move
      refine WL.v (by first | exact r_move (v := .int _ _) rfl | exact r_move rfl) rfl rfl rfl ?_
      refine WL.fin hK370 (fun _ _ h => h) ?_
      refine WC.block ?_
      refine WC.loop (ι := Nat × Bool) (fun z => [(8, .slice ai (ln i) (lcp i)), (9, .bool z.2), (48, .slice ai (ln i) (lcp i)), (49, .int .i64 (ln i : Nat)), (50, .int .i64 (z.1 : Nat)), (3, .pointer (some ⟨cb, 0, none⟩)), (4, .slice xa m xcap), (5, .map (some b39)), (40, .slice (some ⟨sb, so, none⟩) n c), (41, .int .i64 (n : Nat)), (42, .int .i64 (i : Nat))])
        (fun z w' => St w0 (fun _ => False) ((cb, Row 27 513 Fc) :: (FI ++ ((b39, MapV (keyGood Tryf.prog 60) G) :: XI))) w' ∧ z.1 ≤ ln i ∧ (z.2 = true ↔ OKL z.1 (X i))) (fun z => ln i - z.1) (0, true)
        ⟨st.drop, Nat.zero_le _, ⟨fun _ j hj => absurd hj (Nat.not_lt_zero _), fun _ => rfl⟩⟩ ?_ ?_
      · skip
        repeat (first | exact sub_nil _ | refine sub_cons rfl rfl ?_)
      rintro ⟨k, g⟩ w ⟨st, hk, hg⟩ K2 hK2
      simp only at st hk hg hK2 ⊢
      by_cases hkl : k < ln i
      · obtain rfl := hai (by omega)
        have hlk := hlat k hkl
        have hbad : ∀ (P : Prop), ¬ P → (P ↔ (false = true)) := fun P h => ⟨fun p => absurd p h, fun h => by cases h⟩
        by_cases hz : (X i k).2 = 0
        · skip
          refine WC.seq fun K371 hK371 => ?_
          -- region 12
          refine WC.region ?_
          -- R12.0 51 := law.go:91 binOp
          refine WL.v (by first | exact r_lss rfl rfl (decide_eq_true (by omega)) | exact r_lss rfl rfl (decide_eq_false (by omega)) | exact r_lss rfl rfl rfl) rfl rfl rfl ?_
          refine WL.fin hK371 (fun _ _ h => h) ?_
          refine WC.seq fun K372 hK372 => ?_
          refine WC.condT rfl rfl ?_
          refine WC.skipF hK372 (fun _ _ h => h) ?_
          refine WC.seq fun K373 hK373 => ?_
          refine WC.block ?_
          refine WC.seq fun K374 hK374 => ?_
          -- region 13
          refine WC.region ?_
          -- R13.0 52 := law.go:91 move
          refine WL.v (by first | exact r_move (v := .int _ _) rfl | exact r_move rfl) rfl rfl rfl ?_
          -- R13.1 53 := law.go:91 indexAddr
          refine WL.v (by exact r_indexS ty_sl25 rfl rfl rfl (by omega)) rfl rfl rfl ?_
          -- R13.2 54 := law.go:91 load
          refine WL.v (by exact r_loadL (vs := [_, _]) ty_agg46 rfl ⟨(st.old (fun h => h) hlk.1), (st.old (fun h => h) hlk.2), trivial⟩) rfl rfl rfl ?_
          -- R13.3 11 := law.go:91 alloc
          refine WL.alloc st ty_zero46 rfl rfl rfl ?_
          intro b11 w st
          -- R13.4 10 := law.go:91 assign
          refine WL.v (by first | exact r_assign (v := .int _ _) rfl | exact r_assign rfl) rfl rfl rfl ?_
          -- R13.5 None := law.go:91 store
          first | refine WL.storeW (vs := [_, _]) st ty_agg46 rfl rfl rfl rfl rfl rfl ?_ | refine WL.storeL (vs := [_, _]) st ty_agg46 rfl rfl rfl rfl (by first | decide | omega) rfl rfl ?_ | refine WL.storeW (vs := [_, _]) st.front1 ty_agg46 rfl rfl rfl rfl rfl rfl ?_ | refine WL.storeL (vs := [_, _]) st.front1 ty_agg46 rfl rfl rfl rfl (by first | decide | omega) rfl rfl ?_ | refine WL.storeW (vs := [_, _]) st.front2 ty_agg46 rfl rfl rfl rfl rfl rfl ?_ | refine WL.storeL (vs := [_, _]) st.front2 ty_agg46 rfl rfl rfl rfl (by first | decide | omega) rfl rfl ?_ | refine WL.storeW (vs := [_, _]) st.front3 ty_agg46 rfl rfl rfl rfl rfl rfl ?_ | refine WL.storeL (vs := [_, _]) st.front3 ty_agg46 rfl rfl rfl rfl (by first | decide | omega) rfl rfl ?_ | refine WL.storeW (vs := [_, _]) st.front4 ty_agg46 rfl rfl rfl rfl rfl rfl ?_ | refine WL.storeL (vs := [_, _]) st.front4 ty_agg46 rfl rfl rfl rfl (by first | decide | omega) rfl rfl ?_ | refine WL.storeW (vs := [_, _]) st.front5 ty_agg46 rfl rfl rfl rfl rfl rfl ?_ | refine WL.storeL (vs := [_, _]) st.front5 ty_agg46 rfl rfl rfl rfl (by first | decide | omega) rfl rfl ?_ | refine WL.storeW (vs := [_, _]) st.front6 ty_agg46 rfl rfl rfl rfl rfl rfl ?_ | refine WL.storeL (vs := [_, _]) st.front6 ty_agg46 rfl rfl rfl rfl (by first | decide | omega) rfl rfl ?_ | refine WL.storeW (vs := [_, _]) st.front7 ty_agg46 rfl rfl rfl rfl rfl rfl ?_ | refine WL.storeL (vs := [_, _]) st.front7 ty_agg46 rfl rfl rfl rfl (by first | decide | omega) rfl rfl ?_ | refine WL.storeW (vs := [_, _]) st.front8 ty_agg46 rfl rfl rfl rfl rfl rfl ?_ | refine WL.storeL (vs := [_, _]) st.front8 ty_agg46 rfl rfl rfl rfl (by first | decide | omega) rfl rfl ?_
          intro w st
          refine WL.fin hK374 (fun _ _ h => h) ?_
          refine WC.seq fun K375 hK375 => ?_
          -- region 14 (draws)
          refine WC.quietS st ty_mixed (by kernel_rfl) fun Kq hKq => ?_
          -- R14.0 55 := law.go:92 fieldAddr
          refine QL.v (fun w st => by exact r_field ty_fld46_1 rfl) rfl rfl rfl ?_
          -- R14.1 56 := law.go:92 load
          refine QL.v (fun w st => by exact r_load1 ty_one5 rfl (by first | assumption | exact st.c0 (by first | decide | omega) | exact st.c1 (by first | decide | omega) | exact st.c2 (by first | decide | omega) | exact st.c3 (by first | decide | omega) | exact st.c4 (by first | decide | omega) | exact st.c5 (by first | decide | omega) | exact st.c6 (by first | decide | omega) | exact st.c7 (by first | decide | omega) | exact st.c8 (by first | decide | omega))) rfl rfl rfl ?_
          -- R14.2 57 := law.go:92 binOp
          refine QL.v (fun w st => by first | exact r_eql rfl rfl (decide_eq_true (by omega)) | exact r_eql rfl rfl (decide_eq_false (by omega)) | exact r_eql rfl rfl rfl) rfl rfl rfl ?_
          -- R14.3 58 := law.go:92 move
          refine QL.v (fun w st => by first | exact r_move (v := .bool _) rfl | exact r_move rfl) rfl rfl rfl ?_
          -- R14.4 59 := law.go:92 move
          refine QL.no rfl rfl ?_
          -- R14.5 60 := law.go:92 binOp
          refine QL.no rfl rfl ?_
          -- R14.6 61 := law.go:92 move
          refine QL.no rfl rfl ?_
          -- R14.7 62 := law.go:92 move
          refine QL.no rfl rfl ?_
          -- R14.8 63 := law.go:92 move
          refine QL.no rfl rfl ?_
          -- R14.9 64 := law.go:92 binOp
          refine QL.no rfl rfl ?_
          -- R14.10 65 := law.go:92 indexAddr
          refine QL.no rfl rfl ?_
          -- R14.11 66 := law.go:92 fieldAddr
          refine QL.no rfl rfl ?_
          -- R14.12 67 := law.go:92 load
          refine QL.no rfl rfl ?_
          -- R14.13 68 := law.go:92 fieldAddr
          refine QL.no rfl rfl ?_
          -- R14.14 69 := law.go:92 load
          refine QL.no rfl rfl ?_
          -- R14.15 70 := law.go:92 binOp
          refine QL.no rfl rfl ?_
          -- R14.16 71 := law.go:92 pick
          refine QL.no rfl rfl ?_
          -- R14.17 72 := law.go:92 pick
          refine QL.v (fun w st => by first | exact r_pickT (v := .bool _) rfl rfl | exact r_pickF (v := .bool _) rfl rfl) rfl rfl rfl ?_
          refine QL.wl hKq fun w st => ?_
          refine WL.fin hK375 (fun _ _ h => h) ?_
          refine WC.condT rfl rfl ?_
          -- region 15
          refine WC.region ?_
          -- R15.0 9 := law.go:93 assign
          refine WL.v (by first | exact r_assign (v := .bool _) rfl | exact r_assign rfl) rfl rfl rfl ?_
          refine WL.fin hK373 (fun _ _ h => h) ?_
          -- region 16
          refine WC.region ?_
          -- R16.0 73 := law.go:91 binOp
          refine WL.v (by first | exact r_add rfl rfl (wi64 (by omega) (by omega)) | exact r_add rfl rfl rfl) rfl rfl rfl ?_
          -- R16.1 50 := law.go:91 move
          refine WL.v (by first | exact r_move (v := .int _ _) rfl | exact r_move rfl) rfl rfl rfl ?_
          refine WL.next hK2 (fun _ _ h => h) (k + 1, false) ⟨st.drop, by show k + 1 ≤ ln i; omega, (hbad _ fun h => (h k (by show k < k + 1; omega)).1 hz).symm⟩ (by show ln i - (k + 1) < ln i - k; omega) (by repeat (first | exact sub_nil _ | refine sub_cons rfl rfl ?_))
        · skip
          by_cases hk0 : 0 < k
          · skip
            by_cases hge : (X i k).1 ≤ (X i (k - 1)).1
            · skip
              refine WC.seq fun K376 hK376 => ?_
              -- region 12
              refine WC.region ?_
              -- R12.0 51 := law.go:91 binOp
              refine WL.v (by first | exact r_lss rfl rfl (decide_eq_true (by omega)) | exact r_lss rfl rfl (decide_eq_false (by omega)) | exact r_lss rfl rfl rfl) rfl rfl rfl ?_
              refine WL.fin hK376 (fun _ _ h => h) ?_
              refine WC.seq fun K377 hK377 => ?_
              refine WC.condT rfl rfl ?_
              refine WC.skipF hK377 (fun _ _ h => h) ?_
              refine WC.seq fun K378 hK378 => ?_
              refine WC.block ?_
              refine WC.seq fun K379 hK379 => ?_
              -- region 13
              refine WC.region ?_
              -- R13.0 52 := law.go:91 move
              refine WL.v (by first | exact r_move (v := .int _ _) rfl | exact r_move rfl) rfl rfl rfl ?_
              -- R13.1 53 := law.go:91 indexAddr
              refine WL.v (by exact r_indexS ty_sl25 rfl rfl rfl (by omega)) rfl rfl rfl ?_
              -- R13.2 54 := law.go:91 load
              refine WL.v (by exact r_loadL (vs := [_, _]) ty_agg46 rfl ⟨(st.old (fun h => h) hlk.1), (st.old (fun h => h) hlk.2), trivial⟩) rfl rfl rfl ?_
              -- R13.3 11 := law.go:91 alloc
              refine WL.alloc st ty_zero46 rfl rfl rfl ?_
              intro b11 w st
              -- R13.4 10 := law.go:91 assign
              refine WL.v (by first | exact r_assign (v := .int _ _) rfl | exact r_assign rfl) rfl rfl rfl ?_
              -- R13.5 None := law.go:91 store
              first | refine WL.storeW (vs := [_, _]) st ty_agg46 rfl rfl rfl rfl rfl rfl ?_ | refine WL.storeL (vs := [_, _]) st ty_agg46 rfl rfl rfl rfl (by first | decide | omega) rfl rfl ?_ | refine WL.storeW (vs := [_, _]) st.front1 ty_agg46 rfl rfl rfl rfl rfl rfl ?_ | refine WL.storeL (vs := [_, _]) st.front1 ty_agg46 rfl rfl rfl rfl (by first | decide | omega) rfl rfl ?_ | refine WL.storeW (vs := [_, _]) st.front2 ty_agg46 rfl rfl rfl rfl rfl rfl ?_ | refine WL.storeL (vs := [_, _]) st.front2 ty_agg46 rfl rfl rfl rfl (by first | decide | omega) rfl rfl ?_ | refine WL.storeW (vs := [_, _]) st.front3 ty_agg46 rfl rfl rfl rfl rfl rfl ?_ | refine WL.storeL (vs := [_, _]) st.front3 ty_agg46 rfl rfl rfl rfl (by first | decide | omega) rfl rfl ?_ | refine WL.storeW (vs := [_, _]) st.front4 ty_agg46 rfl rfl rfl rfl rfl rfl ?_ | refine WL.storeL (vs := [_, _]) st.front4 ty_agg46 rfl rfl rfl rfl (by first | decide | omega) rfl rfl ?_ | refine WL.storeW (vs := [_, _]) st.front5 ty_agg46 rfl rfl rfl rfl rfl rfl ?_ | refine WL.storeL (vs := [_, _]) st.front5 ty_agg46 rfl rfl rfl rfl (by first | decide | omega) rfl rfl ?_ | refine WL.storeW (vs := [_, _]) st.front6 ty_agg46 rfl rfl rfl rfl rfl rfl ?_ | refine WL.storeL (vs := [_, _]) st.front6 ty_agg46 rfl rfl rfl rfl (by first | decide | omega) rfl rfl ?_ | refine WL.storeW (vs := [_, _]) st.front7 ty_agg46 rfl rfl rfl rfl rfl rfl ?_ | refine WL.storeL (vs := [_, _]) st.front7 ty_agg46 rfl rfl rfl rfl (by first | decide | omega) rfl rfl ?_ | refine WL.storeW (vs := [_, _]) st.front8 ty_agg46 rfl rfl rfl rfl rfl rfl ?_ | refine WL.storeL (vs := [_, _]) st.front8 ty_agg46 rfl rfl rfl rfl (by first | decide | omega) rfl rfl ?_
              intro w st
              refine WL.fin hK379 (fun _ _ h => h) ?_
              refine WC.seq fun K380 hK380 => ?_
              -- region 14 (draws)
              refine WC.quietS st ty_mixed (by kernel_rfl) fun Kq hKq => ?_
              -- R14.0 55 := law.go:92 fieldAddr
              refine QL.v (fun w st => by exact r_field ty_fld46_1 rfl) rfl rfl rfl ?_
              -- R14.1 56 := law.go:92 load
              refine QL.v (fun w st => by exact r_load1 ty_one5 rfl (by first | assumption | exact st.c0 (by first | decide | omega) | exact st.c1 (by first | decide | omega) | exact st.c2 (by first | decide | omega) | exact st.c3 (by first | decide | omega) | exact st.c4 (by first | decide | omega) | exact st.c5 (by first | decide | omega) | exact st.c6 (by first | decide | omega) | exact st.c7 (by first | decide | omega) | exact st.c8 (by first | decide | omega))) rfl rfl rfl ?_
              -- R14.2 57 := law.go:92 binOp
              refine QL.v (fun w st => by first | exact r_eql rfl rfl (decide_eq_true (by omega)) | exact r_eql rfl rfl (decide_eq_false (by omega)) | exact r_eql rfl rfl rfl) rfl rfl rfl ?_
              -- R14.3 58 := law.go:92 move
              refine QL.v (fun w st => by first | exact r_move (v := .bool _) rfl | exact r_move rfl) rfl rfl rfl ?_
              -- R14.4 59 := law.go:92 move
              refine QL.v (fun w st => by first | exact r_move (v := .int _ _) rfl | exact r_move rfl) rfl rfl rfl ?_
              -- R14.5 60 := law.go:92 binOp
              refine QL.v (fun w st => by first | exact r_gtr rfl rfl (decide_eq_true (by omega)) | exact r_gtr rfl rfl (decide_eq_false (by omega)) | exact r_gtr rfl rfl rfl) rfl rfl rfl ?_
              -- R14.6 61 := law.go:92 move
              refine QL.v (fun w st => by first | exact r_move (v := .bool _) rfl | exact r_move rfl) rfl rfl rfl ?_
              -- R14.7 62 := law.go:92 move
              refine QL.v (fun w st => by first | exact r_move (v := .slice _ _ _) rfl | exact r_move rfl) rfl rfl rfl ?_
              -- R14.8 63 := law.go:92 move
              refine QL.v (fun w st => by first | exact r_move (v := .int _ _) rfl | exact r_move rfl) rfl rfl rfl ?_
              -- R14.9 64 := law.go:92 binOp
              refine QL.v (fun w st => by first | exact r_sub rfl rfl (wi64 (by omega) (by omega)) | exact r_sub rfl rfl rfl) rfl rfl rfl ?_
              -- R14.10 65 := law.go:92 indexAddr
              refine QL.v (fun w st => by exact r_indexS (j := k - 1) ty_sl25 rfl rfl (by omega) (by omega)) rfl rfl rfl ?_
              -- R14.11 66 := law.go:92 fieldAddr
              refine QL.v (fun w st => by exact r_field ty_fld46_0 rfl) rfl rfl rfl ?_
              -- R14.12 67 := law.go:92 load
              refine QL.v (fun w st => by exact r_load1 ty_one44 rfl (st.old (fun h => h) (hlat (k - 1) (by omega)).1)) rfl rfl rfl ?_
              -- R14.13 68 := law.go:92 fieldAddr
              refine QL.v (fun w st => by exact r_field ty_fld46_0 rfl) rfl rfl rfl ?_
              -- R14.14 69 := law.go:92 load
              refine QL.v (fun w st => by exact r_load1 ty_one44 rfl (by first | assumption | exact st.c0 (by first | decide | omega) | exact st.c1 (by first | decide | omega) | exact st.c2 (by first | decide | omega) | exact st.c3 (by first | decide | omega) | exact st.c4 (by first | decide | omega) | exact st.c5 (by first | decide | omega) | exact st.c6 (by first | decide | omega) | exact st.c7 (by first | decide | omega) | exact st.c8 (by first | decide | omega))) rfl rfl rfl ?_
              -- R14.15 70 := law.go:92 binOp
              refine QL.v (fun w st => by first | exact r_geq rfl rfl (decide_eq_true (by omega)) | exact r_geq rfl rfl (decide_eq_false (by omega)) | exact r_geq rfl rfl rfl) rfl rfl rfl ?_
              -- R14.16 71 := law.go:92 pick
              refine QL.v (fun w st => by first | exact r_pickT (v := .bool _) rfl rfl | exact r_pickF (v := .bool _) rfl rfl) rfl rfl rfl ?_
              -- R14.17 72 := law.go:92 pick
              refine QL.v (fun w st => by first | exact r_pickT (v := .bool _) rfl rfl | exact r_pickF (v := .bool _) rfl rfl) rfl rfl rfl ?_
              refine QL.wl hKq fun w st => ?_
              refine WL.fin hK380 (fun _ _ h => h) ?_
              refine WC.condT rfl rfl ?_
              -- region 15
              refine WC.region ?_
              -- R15.0 9 := law.go:93 assign
              refine WL.v (by first | exact r_assign (v := .bool _) rfl | exact r_assign rfl) rfl rfl rfl ?_
              refine WL.fin hK378 (fun _ _ h => h) ?_
              -- region 16
              refine WC.region ?_
              -- R16.0 73 := law.go:91 binOp
              refine WL.v (by first | exact r_add rfl rfl (wi64 (by omega) (by omega)) | exact r_add rfl rfl rfl) rfl rfl rfl ?_
              -- R16.1 50 := law.go:91 move
              refine WL.v (by first | exact r_move (v := .int _ _) rfl | exact r_move rfl) rfl rfl rfl ?_
              refine WL.next hK2 (fun _ _ h => h) (k + 1, false) ⟨st.drop, by show k + 1 ≤ ln i; omega, (hbad _ fun h => by have := (h k (by show k < k + 1; omega)).2 hk0; omega).symm⟩ (by show ln i - (k + 1) < ln i - k; omega) (by repeat (first | exact sub_nil _ | refine sub_cons rfl rfl ?_))
            · skip
              refine WC.seq fun K381 hK381 => ?_
              -- region 12
              refine WC.region ?_
              -- R12.0 51 := law.go:91 binOp
              refine WL.v (by first | exact r_lss rfl rfl (decide_eq_true (by omega)) | exact r_lss rfl rfl (decide_eq_false (by omega)) | exact r_lss rfl rfl rfl) rfl rfl rfl ?_
              refine WL.fin hK381 (fun _ _ h => h) ?_
              refine WC.seq fun K382 hK382 => ?_
              refine WC.condT rfl rfl ?_
              refine WC.skipF hK382 (fun _ _ h => h) ?_
              refine WC.seq fun K383 hK383 => ?_
              refine WC.block ?_
              refine WC.seq fun K384 hK384 => ?_
              -- region 13
              refine WC.region ?_
              -- R13.0 52 := law.go:91 move
              refine WL.v (by first | exact r_move (v := .int _ _) rfl | exact r_move rfl) rfl rfl rfl ?_
              -- R13.1 53 := law.go:91 indexAddr
              refine WL.v (by exact r_indexS ty_sl25 rfl rfl rfl (by omega)) rfl rfl rfl ?_
              -- R13.2 54 := law.go:91 load
              refine WL.v (by exact r_loadL (vs := [_, _]) ty_agg46 rfl ⟨(st.old (fun h => h) hlk.1), (st.old (fun h => h) hlk.2), trivial⟩) rfl rfl rfl ?_
              -- R13.3 11 := law.go:91 alloc
              refine WL.alloc st ty_zero46 rfl rfl rfl ?_
              intro b11 w st
              -- R13.4 10 := law.go:91 assign
              refine WL.v (by first | exact r_assign (v := .int _ _) rfl | exact r_assign rfl) rfl rfl rfl ?_
              -- R13.5 None := law.go:91 store
              first | refine WL.storeW (vs := [_, _]) st ty_agg46 rfl rfl rfl rfl rfl rfl ?_ | refine WL.storeL (vs := [_, _]) st ty_agg46 rfl rfl rfl rfl (by first | decide | omega) rfl rfl ?_ | refine WL.storeW (vs := [_, _]) st.front1 ty_agg46 rfl rfl rfl rfl rfl rfl ?_ | refine WL.storeL (vs := [_, _]) st.front1 ty_agg46 rfl rfl rfl rfl (by first | decide | omega) rfl rfl ?_ | refine WL.storeW (vs := [_, _]) st.front2 ty_agg46 rfl rfl rfl rfl rfl rfl ?_ | refine WL.storeL (vs := [_, _]) st.front2 ty_agg46 rfl rfl rfl rfl (by first | decide | omega) rfl rfl ?_ | refine WL.storeW (vs := [_, _]) st.front3 ty_agg46 rfl rfl rfl rfl rfl rfl ?_ | refine WL.storeL (vs := [_, _]) st.front3 ty_agg46 rfl rfl rfl rfl (by first | decide | omega) rfl rfl ?_ | refine WL.storeW (vs := [_, _]) st.front4 ty_agg46 rfl rfl rfl rfl rfl rfl ?_ | refine WL.storeL (vs := [_, _]) st.front4 ty_agg46 rfl rfl rfl rfl (by first | decide | omega) rfl rfl ?_ | refine WL.storeW (vs := [_, _]) st.front5 ty_agg46 rfl rfl rfl rfl rfl rfl ?_ | refine WL.storeL (vs := [_, _]) st.front5 ty_agg46 rfl rfl rfl rfl (by first | decide | omega) rfl rfl ?_ | refine WL.storeW (vs := [_, _]) st.front6 ty_agg46 rfl rfl rfl rfl rfl rfl ?_ | refine WL.storeL (vs := [_, _]) st.front6 ty_agg46 rfl rfl rfl rfl (by first | decide | omega) rfl rfl ?_ | refine WL.storeW (vs := [_, _]) st.front7 ty_agg46 rfl rfl rfl rfl rfl rfl ?_ | refine WL.storeL (vs := [_, _]) st.front7 ty_agg46 rfl rfl rfl rfl (by first | decide | omega) rfl rfl ?_ | refine WL.storeW (vs := [_, _]) st.front8 ty_agg46 rfl rfl rfl rfl rfl rfl ?_ | refine WL.storeL (vs := [_, _]) st.front8 ty_agg46 rfl rfl rfl rfl (by first | decide | omega) rfl rfl ?_
              intro w st
              refine WL.fin hK384 (fun _ _ h => h) ?_
              refine WC.seq fun K385 hK385 => ?_
              -- region 14 (draws)
              refine WC.quietS st ty_mixed (by kernel_rfl) fun Kq hKq => ?_
              -- R14.0 55 := law.go:92 fieldAddr
              refine QL.v (fun w st => by exact r_field ty_fld46_1 rfl) rfl rfl rfl ?_
              -- R14.1 56 := law.go:92 load
              refine QL.v (fun w st => by exact r_load1 ty_one5 rfl (by first | assumption | exact st.c0 (by first | decide | omega) | exact st.c1 (by first | decide | omega) | exact st.c2 (by first | decide | omega) | exact st.c3 (by first | decide | omega) | exact st.c4 (by first | decide | omega) | exact st.c5 (by first | decide | omega) | exact st.c6 (by first | decide | omega) | exact st.c7 (by first | decide | omega) | exact st.c8 (by first | decide | omega))) rfl rfl rfl ?_
              -- R14.2 57 := law.go:92 binOp
              refine QL.v (fun w st => by first | exact r_eql rfl rfl (decide_eq_true (by omega)) | exact r_eql rfl rfl (decide_eq_false (by omega)) | exact r_eql rfl rfl rfl) rfl rfl rfl ?_
              -- R14.3 58 := law.go:92 move
              refine QL.v (fun w st => by first | exact r_move (v := .bool _) rfl | exact r_move rfl) rfl rfl rfl ?_
              -- R14.4 59 := law.go:92 move
              refine QL.v (fun w st => by first | exact r_move (v := .int _ _) rfl | exact r_move rfl) rfl rfl rfl ?_
              -- R14.5 60 := law.go:92 binOp
              refine QL.v (fun w st => by first | exact r_gtr rfl rfl (decide_eq_true (by omega)) | exact r_gtr rfl rfl (decide_eq_false (by omega)) | exact r_gtr rfl rfl rfl) rfl rfl rfl ?_
              -- R14.6 61 := law.go:92 move
              refine QL.v (fun w st => by first | exact r_move (v := .bool _) rfl | exact r_move rfl) rfl rfl rfl ?_
              -- R14.7 62 := law.go:92 move
              refine QL.v (fun w st => by first | exact r_move (v := .slice _ _ _) rfl | exact r_move rfl) rfl rfl rfl ?_
              -- R14.8 63 := law.go:92 move
              refine QL.v (fun w st => by first | exact r_move (v := .int _ _) rfl | exact r_move rfl) rfl rfl rfl ?_
              -- R14.9 64 := law.go:92 binOp
              refine QL.v (fun w st => by first | exact r_sub rfl rfl (wi64 (by omega) (by omega)) | exact r_sub rfl rfl rfl) rfl rfl rfl ?_
              -- R14.10 65 := law.go:92 indexAddr
              refine QL.v (fun w st => by exact r_indexS (j := k - 1) ty_sl25 rfl rfl (by omega) (by omega)) rfl rfl rfl ?_
              -- R14.11 66 := law.go:92 fieldAddr
              refine QL.v (fun w st => by exact r_field ty_fld46_0 rfl) rfl rfl rfl ?_
              -- R14.12 67 := law.go:92 load
              refine QL.v (fun w st => by exact r_load1 ty_one44 rfl (st.old (fun h => h) (hlat (k - 1) (by omega)).1)) rfl rfl rfl ?_
              -- R14.13 68 := law.go:92 fieldAddr
              refine QL.v (fun w st => by exact r_field ty_fld46_0 rfl) rfl rfl rfl ?_
              -- R14.14 69 := law.go:92 load
              refine QL.v (fun w st => by exact r_load1 ty_one44 rfl (by first | assumption | exact st.c0 (by first | decide | omega) | exact st.c1 (by first | decide | omega) | exact st.c2 (by first | decide | omega) | exact st.c3 (by first | decide | omega) | exact st.c4 (by first | decide | omega) | exact st.c5 (by first | decide | omega) | exact st.c6 (by first | decide | omega) | exact st.c7 (by first | decide | omega) | exact st.c8 (by first | decide | omega))) rfl rfl rfl ?_
              -- R14.15 70 := law.go:92 binOp
              refine QL.v (fun w st => by first | exact r_geq rfl rfl (decide_eq_true (by omega)) | exact r_geq rfl rfl (decide_eq_false (by omega)) | exact r_geq rfl rfl rfl) rfl rfl rfl ?_
              -- R14.16 71 := law.go:92 pick
              refine QL.v (fun w st => by first | exact r_pickT (v := .bool _) rfl rfl | exact r_pickF (v := .bool _) rfl rfl) rfl rfl rfl ?_
              -- R14.17 72 := law.go:92 pick
              refine QL.v (fun w st => by first | exact r_pickT (v := .bool _) rfl rfl | exact r_pickF (v := .bool _) rfl rfl) rfl rfl rfl ?_
              refine QL.wl hKq fun w st => ?_
              refine WL.fin hK385 (fun _ _ h => h) ?_
              refine WC.condF rfl rfl ?_
              refine WC.skipF hK383 (fun _ _ h => h) ?_
              -- region 16
              refine WC.region ?_
              -- R16.0 73 := law.go:91 binOp
              refine WL.v (by first | exact r_add rfl rfl (wi64 (by omega) (by omega)) | exact r_add rfl rfl rfl) rfl rfl rfl ?_
              -- R16.1 50 := law.go:91 move
              refine WL.v (by first | exact r_move (v := .int _ _) rfl | exact r_move rfl) rfl rfl rfl ?_
              refine WL.next hK2 (fun _ _ h => h) (k + 1, g) ⟨st.drop, by show k + 1 ≤ ln i; omega, hg.trans ⟨fun h j hj => ?_, fun h j hj => h j (by show j < k + 1; omega)⟩⟩ (by show ln i - (k + 1) < ln i - k; omega) (by repeat (first | exact sub_nil _ | refine sub_cons rfl rfl ?_))
              by_cases hjk : j = k
              · subst hjk; exact ⟨hz, fun _ => by omega⟩
              · exact h j (by simp only at hj; omega)
          · skip
            refine WC.seq fun K386 hK386 => ?_
            -- region 12
            refine WC.region ?_
            -- R12.0 51 := law.go:91 binOp
            refine WL.v (by first | exact r_lss rfl rfl (decide_eq_true (by omega)) | exact r_lss rfl rfl (decide_eq_false (by omega)) | exact r_lss rfl rfl rfl) rfl rfl rfl ?_
            refine WL.fin hK386 (fun _ _ h => h) ?_
            refine WC.seq fun K387 hK387 => ?_
            refine WC.condT rfl rfl ?_
            refine WC.skipF hK387 (fun _ _ h => h) ?_
            refine WC.seq fun K388 hK388 => ?_
            refine WC.block ?_
            refine WC.seq fun K389 hK389 => ?_
            -- region 13
            refine WC.region ?_
            -- R13.0 52 := law.go:91 move
            refine WL.v (by first | exact r_move (v := .int _ _) rfl | exact r_move rfl) rfl rfl rfl ?_
            -- R13.1 53 := law.go:91 indexAddr
            refine WL.v (by exact r_indexS ty_sl25 rfl rfl rfl (by omega)) rfl rfl rfl ?_
            -- R13.2 54 := law.go:91 load
            refine WL.v (by exact r_loadL (vs := [_, _]) ty_agg46 rfl ⟨(st.old (fun h => h) hlk.1), (st.old (fun h => h) hlk.2), trivial⟩) rfl rfl rfl ?_
            -- R13.3 11 := law.go:91 alloc
            refine WL.alloc st ty_zero46 rfl rfl rfl ?_
            intro b11 w st
            -- R13.4 10 := law.go:91 assign
            refine WL.v (by first | exact r_assign (v := .int _ _) rfl | exact r_assign rfl) rfl rfl rfl ?_
            -- R13.5 None := law.go:91 store
            first | refine WL.storeW (vs := [_, _]) st ty_agg46 rfl rfl rfl rfl rfl rfl ?_ | refine WL.storeL (vs := [_, _]) st ty_agg46 rfl rfl rfl rfl (by first | decide | omega) rfl rfl ?_ | refine WL.storeW (vs := [_, _]) st.front1 ty_agg46 rfl rfl rfl rfl rfl rfl ?_ | refine WL.storeL (vs := [_, _]) st.front1 ty_agg46 rfl rfl rfl rfl (by first | decide | omega) rfl rfl ?_ | refine WL.storeW (vs := [_, _]) st.front2 ty_agg46 rfl rfl rfl rfl rfl rfl ?_ | refine WL.storeL (vs := [_, _]) st.front2 ty_agg46 rfl rfl rfl rfl (by first | decide | omega) rfl rfl ?_ | refine WL.storeW (vs := [_, _]) st.front3 ty_agg46 rfl rfl rfl rfl rfl rfl ?_ | refine WL.storeL (vs := [_, _]) st.front3 ty_agg46 rfl rfl rfl rfl (by first | decide | omega) rfl rfl ?_ | refine WL.storeW (vs := [_, _]) st.front4 ty_agg46 rfl rfl rfl rfl rfl rfl ?_ | refine WL.storeL (vs := [_, _]) st.front4 ty_agg46 rfl rfl rfl rfl (by first | decide | omega) rfl rfl ?_ | refine WL.storeW (vs := [_, _]) st.front5 ty_agg46 rfl rfl rfl rfl rfl rfl ?_ | refine WL.storeL (vs := [_, _]) st.front5 ty_agg46 rfl rfl rfl rfl (by first | decide | omega) rfl rfl ?_ | refine WL.storeW (vs := [_, _]) st.front6 ty_agg46 rfl rfl rfl rfl rfl rfl ?_ | refine WL.storeL (vs := [_, _]) st.front6 ty_agg46 rfl rfl rfl rfl (by first | decide | omega) rfl rfl ?_ | refine WL.storeW (vs := [_, _]) st.front7 ty_agg46 rfl rfl rfl rfl rfl rfl ?_ | refine WL.storeL (vs := [_, _]) st.front7 ty_agg46 rfl rfl rfl rfl (by first | decide | omega) rfl rfl ?_ | refine WL.storeW (vs := [_, _]) st.front8 ty_agg46 rfl rfl rfl rfl rfl rfl ?_ | refine WL.storeL (vs := [_, _]) st.front8 ty_agg46 rfl rfl rfl rfl (by first | decide | omega) rfl rfl ?_
            intro w st
            refine WL.fin hK389 (fun _ _ h => h) ?_
            refine WC.seq fun K390 hK390 => ?_
            -- region 14 (draws)
            refine WC.quietS st ty_mixed (by kernel_rfl) fun Kq hKq => ?_
            -- R14.0 55 := law.go:92 fieldAddr
            refine QL.v (fun w st => by exact r_field ty_fld46_1 rfl) rfl rfl rfl ?_
            -- R14.1 56 := law.go:92 load
            refine QL.v (fun w st => by exact r_load1 ty_one5 rfl (by first | assumption | exact st.c0 (by first | decide | omega) | exact st.c1 (by first | decide | omega) | exact st.c2 (by first | decide | omega) | exact st.c3 (by first | decide | omega) | exact st.c4 (by first | decide | omega) | exact st.c5 (by first | decide | omega) | exact st.c6 (by first | decide | omega) | exact st.c7 (by first | decide | omega) | exact st.c8 (by first | decide | omega))) rfl rfl rfl ?_
            -- R14.2 57 := law.go:92 binOp
            refine QL.v (fun w st => by first | exact r_eql rfl rfl (decide_eq_true (by omega)) | exact r_eql rfl rfl (decide_eq_false (by omega)) | exact r_eql rfl rfl rfl) rfl rfl rfl ?_
            -- R14.3 58 := law.go:92 move
            refine QL.v (fun w st => by first | exact r_move (v := .bool _) rfl | exact r_move rfl) rfl rfl rfl ?_
            -- R14.4 59 := law.go:92 move
            refine QL.v (fun w st => by first | exact r_move (v := .int _ _) rfl | exact r_move rfl) rfl rfl rfl ?_
            -- R14.5 60 := law.go:92 binOp
            refine QL.v (fun w st => by first | exact r_gtr rfl rfl (decide_eq_true (by omega)) | exact r_gtr rfl rfl (decide_eq_false (by omega)) | exact r_gtr rfl rfl rfl) rfl rfl rfl ?_
            -- R14.6 61 := law.go:92 move
            refine QL.v (fun w st => by first | exact r_move (v := .bool _) rfl | exact r_move rfl) rfl rfl rfl ?_
            -- R14.7 62 := law.go:92 move
            refine QL.no rfl rfl ?_
            -- R14.8 63 := law.go:92 move
            refine QL.no rfl rfl ?_
            -- R14.9 64 := law.go:92 binOp
            refine QL.no rfl rfl ?_
            -- R14.10 65 := law.go:92 indexAddr
            refine QL.no rfl rfl ?_
            -- R14.11 66 := law.go:92 fieldAddr
            refine QL.no rfl rfl ?_
            -- R14.12 67 := law.go:92 load
            refine QL.no rfl rfl ?_
            -- R14.13 68 := law.go:92 fieldAddr
            refine QL.no rfl rfl ?_
            -- R14.14 69 := law.go:92 load
            refine QL.no rfl rfl ?_
            -- R14.15 70 := law.go:92 binOp
            refine QL.no rfl rfl ?_
            -- R14.16 71 := law.go:92 pick
            refine QL.v (fun w st => by first | exact r_pickT (v := .bool _) rfl rfl | exact r_pickF (v := .bool _) rfl rfl) rfl rfl rfl ?_
            -- R14.17 72 := law.go:92 pick
            refine QL.v (fun w st => by first | exact r_pickT (v := .bool _) rfl rfl | exact r_pickF (v := .bool _) rfl rfl) rfl rfl rfl ?_
            refine QL.wl hKq fun w st => ?_
            refine WL.fin hK390 (fun _ _ h => h) ?_
            refine WC.condF rfl rfl ?_
            refine WC.skipF hK388 (fun _ _ h => h) ?_
            -- region 16
            refine WC.region ?_
            -- R16.0 73 := law.go:91 binOp
            refine WL.v (by first | exact r_add rfl rfl (wi64 (by omega) (by omega)) | exact r_add rfl rfl rfl) rfl rfl rfl ?_
            -- R16.1 50 := law.go:91 move
            refine WL.v (by first | exact r_move (v := .int _ _) rfl | exact r_move rfl) rfl rfl rfl ?_
            refine WL.next hK2 (fun _ _ h => h) (k + 1, g) ⟨st.drop, by show k + 1 ≤ ln i; omega, hg.trans ⟨fun h j hj => ?_, fun h j hj => h j (by show j < k + 1; omega)⟩⟩ (by show ln i - (k + 1) < ln i - k; omega) (by repeat (first | exact sub_nil _ | refine sub_cons rfl rfl ?_))
            by_cases hjk : j = k
            · subst hjk; exact ⟨hz, fun h => by omega⟩
            · exact h j (by simp only at hj; omega)
      · obtain rfl : k = ln i := by omega
        refine WC.seq fun K391 hK391 => ?_
        -- region 12
        refine WC.region ?_
        -- R12.0 51 := law.go:91 binOp
        refine WL.v (by first | exact r_lss rfl rfl (decide_eq_true (by omega)) | exact r_lss rfl rfl (decide_eq_false (by omega)) | exact r_lss rfl rfl rfl) rfl rfl rfl ?_
        refine WL.fin hK391 (fun _ _ h => h) ?_
        refine WC.seq fun K392 hK392 => ?_
        refine WC.condF rfl rfl ?_
        refine WC.exitF hK369 (fun _ _ h => h) ?_
        refine WC.seq fun K393 hK393 => ?_
        -- region 17
        refine WC.region ?_
        -- R17.0 75 := law.go:96 move
        refine WL.v (by first | exact r_move (v := .slice _ _ _) rfl | exact r_move rfl) rfl rfl rfl ?_
        -- R17.1 76 := law.go:96 call
        refine WL.call (r_call ty_call5 rfl) rfl rfl rfl (convert_ok cb (lb i) (lo i) (ln i) (lcp i) ai (X i) (V i) Fc fv FI hlN hai (hL.impc i hlt) (hL.doc i hlt) (fun its w' s k hk => ⟨s.old (fun h => h) (hlat k hk).1, s.old (fun h => h) (hlat k hk).2⟩) hFc hfew st) ?_
        intro v w hv
        obtain ⟨gv, er, rfl, hv2⟩ := conv_split hFc hfew hv
        clear hv
        -- R17.2 74 := law.go:96 move
        refine WL.v (by first | exact r_move (v := .tuple _) rfl | exact r_move rfl) rfl rfl rfl ?_
        -- R17.3 77 := law.go:96 extract
        refine WL.v (by first | exact r_extract (v := .slice _ _ _) rfl rfl | exact r_extract rfl rfl) rfl rfl rfl ?_
        -- R17.4 78 := law.go:96 extract
        refine WL.v (by first | exact r_extract (v := .nilIface) rfl rfl | exact r_extract (v := .iface _ _) rfl rfl | exact r_extract rfl rfl) rfl rfl rfl ?_
        -- R17.5 12 := law.go:96 assign
        refine WL.v (by first | exact r_assign (v := .slice _ _ _) rfl | exact r_assign rfl) rfl rfl rfl ?_
        -- R17.6 13 := law.go:96 assign
        refine WL.v (by first | exact r_assign (v := .nilIface) rfl | exact r_assign (v := .iface _ _) rfl | exact r_assign rfl) rfl rfl rfl ?_
        refine WL.fin hK393 (fun _ _ h => h) ?_
        rcases hv2 with ⟨hno, ⟨eb, rfl⟩, st⟩ | ⟨hok, rfl, ga, gb, gc, q, S, A, its, F2, fv2, FI2, rfl, hga, hO, hGI, hF2, hfew2, st⟩
        · obtain rfl : g = false := by
            cases g
            · rfl
            · exact absurd (hg.1 rfl) hno
          refine WC.seq fun K394 hK394 => ?_
          refine WC.seq fun K395 hK395 => ?_
          -- region 18
          refine WC.region ?_
          -- R18.0 79 := law.go:97 move
          refine WL.v (by first | exact r_move (v := .nilIface) rfl | exact r_move (v := .iface _ _) rfl | exact r_move rfl) rfl rfl rfl ?_
          -- R18.1 80 := law.go:97 binOp
          refine WL.v (by first | exact r_nil_eql ty_ifc48 rfl | exact r_some_eql ty_ifc48 rfl) rfl rfl rfl ?_
          -- R18.2 81 := law.go:97 move
          refine WL.v (by first | exact r_move (v := .bool _) rfl | exact r_move rfl) rfl rfl rfl ?_
          -- R18.3 82 := law.go:97 binOp
          refine WL.v (by exact r_bneq ty_bool4 rfl rfl rfl) rfl rfl rfl ?_
          refine WL.fin hK395 (fun _ _ h => h) ?_
          refine WC.condF rfl rfl ?_
          refine WC.skipF hK394 (fun _ _ h => h) ?_
          refine WC.seq fun K396 hK396 => ?_
          refine WC.seq fun K397 hK397 => ?_
          -- region 20
          refine WC.region ?_
          -- R20.0 83 := law.go:100 move
          refine WL.v (by first | exact r_move (v := .bool _) rfl | exact r_move rfl) rfl rfl rfl ?_
          -- R20.1 84 := law.go:100 unOp
          refine WL.v (by first | exact r_notT rfl | exact r_notF rfl | exact r_not rfl) rfl rfl rfl ?_
          refine WL.fin hK397 (fun _ _ h => h) ?_
          refine WC.condT rfl rfl ?_
          refine WC.exitF hK365 (fun _ _ h => h) ?_
          -- region 51
          refine WC.region ?_
          -- R51.0 166 := law.go:88 binOp
          refine WL.v (by first | exact r_add rfl rfl (wi64 (by omega) (by omega)) | exact r_add rfl rfl rfl) rfl rfl rfl ?_
          -- R51.1 42 := law.go:88 move
          refine WL.v (by first | exact r_move (v := .int _ _) rfl | exact r_move rfl) rfl rfl rfl ?_
          refine WL.next hK1 (fun _ _ h => h) ⟨i + 1, Fc, fv, FI, m, .slice xa m xcap, XI, xf, src, G⟩ ⟨st, by show i + 1 ≤ n; omega, hFc, hfew, hX, by show m ≤ i + 1; omega, hix, hins⟩ (by show n - (i + 1) < n - i; omega) (by repeat (first | exact sub_nil _ | refine sub_cons rfl rfl ?_))
        obtain rfl : g = true := hg.2 hok
        have hsub0 : its ⊆ ((cb, Row 27 513 F2) :: (FI2 ++ (its ++ ((b39, MapV (keyGood Tryf.prog 60) G) :: XI)))) := fun x hx => by simp [hx]
        generalize hR : ((cb, Row 27 513 F2) :: (FI2 ++ (its ++ ((b39, MapV (keyGood Tryf.prog 60) G) :: XI)))) = R at st hsub0
        obtain ⟨db, dcf, hGA⟩ := hGI
        have hql := Out.q_le hO
        have hAin := perm_inj hO.perm hok.inj
        have hdl : ∀ t, t < q → 0 < S (t + 1) - S t ∧ S (t + 1) - S t ≤ 1000000000 := fun t ht => by
          have h1 := hO.lt t ht
          have h2 := S_le hO.lt (t + 1) q (by omega) (Nat.le_refl _)
          rw [hO.sq] at h2; omega
        have hdoc : ∀ t, t < q → ∀ j, 0 < j → j < S (t + 1) - S t → (A (S t + (j - 1))).1 < (A (S t + j)).1 := fun t ht j h0 hj => by
          have := hO.rise t ht (S t + (j - 1)) (by omega) (by omega)
          rwa [show S t + (j - 1) + 1 = S t + j by omega] at this
        refine WC.seq fun K398 hK398 => ?_
        refine WC.seq fun K399 hK399 => ?_
        -- region 18
        refine WC.region ?_
        -- R18.0 79 := law.go:97 move
        refine WL.v (by first | exact r_move (v := .nilIface) rfl | exact r_move (v := .iface _ _) rfl | exact r_move rfl) rfl rfl rfl ?_
        -- R18.1 80 := law.go:97 binOp
        refine WL.v (by first | exact r_nil_eql ty_ifc48 rfl | exact r_some_eql ty_ifc48 rfl) rfl rfl rfl ?_
        -- R18.2 81 := law.go:97 move
        refine WL.v (by first | exact r_move (v := .bool _) rfl | exact r_move rfl) rfl rfl rfl ?_
        -- R18.3 82 := law.go:97 binOp
        refine WL.v (by exact r_bneq ty_bool4 rfl rfl rfl) rfl rfl rfl ?_
        refine WL.fin hK399 (fun _ _ h => h) ?_
        refine WC.condF rfl rfl ?_
        refine WC.skipF hK398 (fun _ _ h => h) ?_
        refine WC.seq fun K400 hK400 => ?_
        refine WC.seq fun K401 hK401 => ?_
        -- region 20
        refine WC.region ?_
        -- R20.0 83 := law.go:100 move
        refine WL.v (by first | exact r_move (v := .bool _) rfl | exact r_move rfl) rfl rfl rfl ?_
        -- R20.1 84 := law.go:100 unOp
        refine WL.v (by first | exact r_notT rfl | exact r_notF rfl | exact r_not rfl) rfl rfl rfl ?_
        refine WL.fin hK401 (fun _ _ h => h) ?_
        refine WC.condF rfl rfl ?_
        refine WC.skipF hK400 (fun _ _ h => h) ?_
        refine WC.seq fun K402 hK402 => ?_
        -- region 21
        refine WC.region ?_
        -- R21.0 85 := law.go:103 makeMap
        refine WL.mkmap (keyGood Tryf.prog 46) st rfl rfl ?_
        intro b85 w st
        -- R21.1 14 := law.go:103 assign
        refine WL.v (by first | exact r_assign (v := .map _) rfl | exact r_assign rfl) rfl rfl rfl ?_
        refine WL.fin hK402 (fun _ _ h => h) ?_
        refine WC.seq fun K403 hK403 => ?_
        refine WC.seq fun K404 hK404 => ?_
        -- region 22
        refine WC.region ?_
        -- R22.0 86 := law.go:104 move
        refine WL.v (by first | exact r_move (v := .slice _ _ _) rfl | exact r_move rfl) rfl rfl rfl ?_
        -- R22.1 87 := law.go:104 call
        refine WL.v (by exact r_len ty_usl25 rfl) rfl rfl rfl ?_
        -- R22.2 88 := law.go:104 move
        refine WL.v (by first | exact r_move (v := .int _ _) rfl | exact r_move rfl) rfl rfl rfl ?_
        refine WL.fin hK404 (fun _ _ h => h) ?_
        refine WC.block ?_
        refine WC.loop (ι := Nat × (Value → Option Value)) (fun z => [(8, .slice ai (ln i) (lcp i)), (12, .slice ga q gc), (14, .map (some b85)), (86, .slice ai (ln i) (lcp i)), (87, .int .i64 (ln i : Nat)), (88, .int .i64 (z.1 : Nat)), (3, .pointer (some ⟨cb, 0, none⟩)), (4, .slice xa m xcap), (5, .map (some b39)), (40, .slice (some ⟨sb, so, none⟩) n c), (41, .int .i64 (n : Nat)), (42, .int .i64 (i : Nat))])
          (fun z w' => St w0 (fun _ => False) ((b85, MapV (keyGood Tryf.prog 46) z.2) :: R) w' ∧ z.1 ≤ ln i ∧ Ins z.2 (fun j => kv (X i j)) (fun j => j < z.1)) (fun z => ln i - z.1) (0, _)
          ⟨st, Nat.zero_le _, (Ins.empty _).congr fun x => by simp⟩ ?_ ?_
        · skip
          repeat (first | exact sub_nil _ | refine sub_cons rfl rfl ?_)
        rintro ⟨k, G2⟩ w ⟨st, hk2, hin2⟩ KA hKA
        simp only at st hk2 hin2 hKA ⊢
        by_cases hkl2 : k < ln i
        · obtain rfl := hai (by omega)
          have hlk := hlat k hkl2
          have hd := hL.doc i hlt k hkl2
          have hv' := hL.impc i hlt k hkl2
          have hkg : keyGood Tryf.prog 46 (kv (X i k)) := kv_good hd.1 hd.2 hv'.1 hv'.2
          have hne : ∀ j, j < k → kv (X i j) ≠ kv (X i k) := fun j hj he => by have := hok.inj j k (by omega) hkl2 (kv_inj he); omega
          have hfr : (G2 (kv (X i k))).getD (.int .i64 0) = .int .i64 0 := hin2.fresh hne
          refine WC.seq fun K405 hK405 => ?_
          -- region 23
          refine WC.region ?_
          -- R23.0 89 := law.go:104 binOp
          refine WL.v (by first | exact r_lss rfl rfl (decide_eq_true (by omega)) | exact r_lss rfl rfl (decide_eq_false (by omega)) | exact r_lss rfl rfl rfl) rfl rfl rfl ?_
          refine WL.fin hK405 (fun _ _ h => h) ?_
          refine WC.seq fun K406 hK406 => ?_
          refine WC.condT rfl rfl ?_
          refine WC.skipF hK406 (fun _ _ h => h) ?_
          refine WC.seq fun K407 hK407 => ?_
          refine WC.block ?_
          refine WC.seq fun K408 hK408 => ?_
          -- region 24
          refine WC.region ?_
          -- R24.0 90 := law.go:104 indexAddr
          refine WL.v (by exact r_indexS ty_sl25 rfl rfl rfl (by omega)) rfl rfl rfl ?_
          -- R24.1 91 := law.go:104 load
          refine WL.v (by exact r_loadL (vs := [_, _]) ty_agg46 rfl ⟨(st.old (fun h => h) hlk.1), (st.old (fun h => h) hlk.2), trivial⟩) rfl rfl rfl ?_
          -- R24.2 16 := law.go:104 alloc
          refine WL.alloc st ty_zero46 rfl rfl rfl ?_
          intro b16 w st
          -- R24.3 None := law.go:104 store
          first | refine WL.storeW (vs := [_, _]) st ty_agg46 rfl rfl rfl rfl rfl rfl ?_ | refine WL.storeL (vs := [_, _]) st ty_agg46 rfl rfl rfl rfl (by first | decide | omega) rfl rfl ?_ | refine WL.storeW (vs := [_, _]) st.front1 ty_agg46 rfl rfl rfl rfl rfl rfl ?_ | refine WL.storeL (vs := [_, _]) st.front1 ty_agg46 rfl rfl rfl rfl (by first | decide | omega) rfl rfl ?_ | refine WL.storeW (vs := [_, _]) st.front2 ty_agg46 rfl rfl rfl rfl rfl rfl ?_ | refine WL.storeL (vs := [_, _]) st.front2 ty_agg46 rfl rfl rfl rfl (by first | decide | omega) rfl rfl ?_ | refine WL.storeW (vs := [_, _]) st.front3 ty_agg46 rfl rfl rfl rfl rfl rfl ?_ | refine WL.storeL (vs := [_, _]) st.front3 ty_agg46 rfl rfl rfl rfl (by first | decide | omega) rfl rfl ?_ | refine WL.storeW (vs := [_, _]) st.front4 ty_agg46 rfl rfl rfl rfl rfl rfl ?_ | refine WL.storeL (vs := [_, _]) st.front4 ty_agg46 rfl rfl rfl rfl (by first | decide | omega) rfl rfl ?_ | refine WL.storeW (vs := [_, _]) st.front5 ty_agg46 rfl rfl rfl rfl rfl rfl ?_ | refine WL.storeL (vs := [_, _]) st.front5 ty_agg46 rfl rfl rfl rfl (by first | decide | omega) rfl rfl ?_ | refine WL.storeW (vs := [_, _]) st.front6 ty_agg46 rfl rfl rfl rfl rfl rfl ?_ | refine WL.storeL (vs := [_, _]) st.front6 ty_agg46 rfl rfl rfl rfl (by first | decide | omega) rfl rfl ?_ | refine WL.storeW (vs := [_, _]) st.front7 ty_agg46 rfl rfl rfl rfl rfl rfl ?_ | refine WL.storeL (vs := [_, _]) st.front7 ty_agg46 rfl rfl rfl rfl (by first | decide | omega) rfl rfl ?_ | refine WL.storeW (vs := [_, _]) st.front8 ty_agg46 rfl rfl rfl rfl rfl rfl ?_ | refine WL.storeL (vs := [_, _]) st.front8 ty_agg46 rfl rfl rfl rfl (by first | decide | omega) rfl rfl ?_
          intro w st
          refine WL.fin hK408 (fun _ _ h => h) ?_
          -- region 25 (draws)
          have st := st.front1
          refine WC.heldM (kv (X i k)) (.int .i64 0) (.int .i64 0) [6] [0, 1, 2, 3] [4, 5, 6] st hfr ty_mixed (by kernel_rfl) fun w st Kq hKq => ?_
          -- R25.0 92 := law.go:105 move
          refine HL.v (fun w hS => by obtain ⟨G', st, hG⟩ := hS; first | exact r_move (v := .map _) rfl | exact r_move rfl) rfl rfl rfl ?_
          -- R25.1 93 := law.go:105 load
          refine HL.v (fun w hS => by obtain ⟨G', st, hG⟩ := hS; exact r_loadL (vs := [_, _]) ty_agg46 rfl ⟨(by first | assumption | exact st.c0 (by first | decide | omega) | exact st.c1 (by first | decide | omega) | exact st.c2 (by first | decide | omega) | exact st.c3 (by first | decide | omega) | exact st.c4 (by first | decide | omega) | exact st.c5 (by first | decide | omega) | exact st.c6 (by first | decide | omega) | exact st.c7 (by first | decide | omega) | exact st.c8 (by first | decide | omega)), (by first | assumption | exact st.c0 (by first | decide | omega) | exact st.c1 (by first | decide | omega) | exact st.c2 (by first | decide | omega) | exact st.c3 (by first | decide | omega) | exact st.c4 (by first | decide | omega) | exact st.c5 (by first | decide | omega) | exact st.c6 (by first | decide | omega) | exact st.c7 (by first | decide | omega) | exact st.c8 (by first | decide | omega)), trivial⟩) rfl rfl rfl ?_
          -- R25.2 94 := law.go:105 lookup
          refine HL.v (fun w hS => by obtain ⟨G', st, hG⟩ := hS; exact r_look ty_kb46 ty_mp51 ty_z13 rfl rfl st (by simp) hkg hG) rfl rfl rfl ?_
          -- R25.3 95 := law.go:105 binOp
          refine HL.v (fun w hS => by obtain ⟨G', st, hG⟩ := hS; exact r_add (r := 1) rfl rfl (by rw [wi64 (by omega) (by omega)]; rfl)) rfl rfl rfl ?_
          refine HL.fin hKq ?_
          refine TL.at ?_
          refine WL.mapEntry (key := kv (X i k)) ty_kb46 st ty_mp51 ty_z13 rfl rfl hkg rfl rfl rfl ?_
          intro v0 stp w G1 hS1 st hE
          refine TL.nxt ⟨_, st, by rw [hS1.1]; exact hfr⟩ ?_
          refine TL.at ?_
          -- R25.5 97 := law.go:105 extract
          refine WL.v (by first | exact r_extract (v := .int _ _) rfl rfl | exact r_extract rfl rfl) rfl rfl rfl ?_
          refine TL.nxt ⟨_, st, by rw [hS1.1]; exact hfr⟩ ?_
          refine TL.at ?_
          refine WL.entryStore hE rfl rfl rfl rfl rfl ?_
          intro Gn w hS st
          refine TL.nxt' rfl ?_
          refine TL.wl ?_
          refine WL.fin hK407 (fun _ _ h => h) ?_
          -- region 26
          refine WC.region ?_
          -- R26.0 98 := law.go:104 binOp
          refine WL.v (by first | exact r_add rfl rfl (wi64 (by omega) (by omega)) | exact r_add rfl rfl rfl) rfl rfl rfl ?_
          -- R26.1 88 := law.go:104 move
          refine WL.v (by first | exact r_move (v := .int _ _) rfl | exact r_move rfl) rfl rfl rfl ?_
          refine WL.next hKA (fun _ _ h => h) (k + 1, Gn) ⟨st.drop1, by show k + 1 ≤ ln i; omega, hin2.set hne hS (fun x => by show x < k + 1 ↔ x < k ∨ x = k; omega)⟩ (by show ln i - (k + 1) < ln i - k; omega) (by repeat (first | exact sub_nil _ | refine sub_cons rfl rfl ?_))
        obtain rfl : k = ln i := by omega
        have hout0 : Outs G2 (fun p => kv (A p)) (fun p => p < ln i) (fun p => p < S 0) := (hin2.outs (fun p hp => by
            obtain ⟨j, hj, he⟩ := perm_of hO.perm hp
            exact ⟨j, hj, by rw [he]⟩) (fun j hj => by
            obtain ⟨p, hp, he⟩ := perm_of hO.perm.symm hj
            exact ⟨p, hp, by rw [he]⟩)).congr fun x => by rw [hO.s0]; simp
        refine WC.seq fun K409 hK409 => ?_
        -- region 23
        refine WC.region ?_
        -- R23.0 89 := law.go:104 binOp
        refine WL.v (by first | exact r_lss rfl rfl (decide_eq_true (by omega)) | exact r_lss rfl rfl (decide_eq_false (by omega)) | exact r_lss rfl rfl rfl) rfl rfl rfl ?_
        refine WL.fin hK409 (fun _ _ h => h) ?_
        refine WC.seq fun K410 hK410 => ?_
        refine WC.condF rfl rfl ?_
        refine WC.exitF hK403 (fun _ _ h => h) ?_
        refine WC.seq fun K411 hK411 => ?_
        refine WC.seq fun K412 hK412 => ?_
        -- region 27
        refine WC.region ?_
        -- R27.0 99 := law.go:107 move
        refine WL.v (by first | exact r_move (v := .slice _ _ _) rfl | exact r_move rfl) rfl rfl rfl ?_
        -- R27.1 100 := law.go:107 call
        refine WL.call (r_call ty_call6 rfl) rfl rfl rfl (impactOrdered_ok ga gb 0 q gc (fun t => (A (S t)).2) (fun _ => db) S (fun t => S (t + 1) - S t) dcf (fun t j => (A (S t + j)).1) (by omega) hdl hga
          (fun its' w' s => hGA _ w' s (fun x hx => by simp [hsub0 hx])) (fun t ht h0 => hO.fall t h0 ht) hdoc st) ?_
        rintro _ w ⟨rfl, st⟩
        -- R27.2 101 := law.go:107 unOp
        refine WL.v (by first | exact r_notT rfl | exact r_notF rfl | exact r_not rfl) rfl rfl rfl ?_
        refine WL.fin hK412 (fun _ _ h => h) ?_
        refine WC.condF rfl rfl ?_
        refine WC.skipF hK411 (fun _ _ h => h) ?_
        refine WC.seq fun K413 hK413 => ?_
        refine WC.seq fun K414 hK414 => ?_
        -- region 29
        refine WC.region ?_
        -- R29.0 102 := law.go:110 move
        refine WL.v (by first | exact r_move (v := .slice _ _ _) rfl | exact r_move rfl) rfl rfl rfl ?_
        -- R29.1 103 := law.go:110 call
        refine WL.v (by exact r_len ty_usl39 rfl) rfl rfl rfl ?_
        -- R29.2 104 := law.go:110 move
        refine WL.v (by first | exact r_move (v := .int _ _) rfl | exact r_move rfl) rfl rfl rfl ?_
        refine WL.fin hK414 (fun _ _ h => h) ?_
        refine WC.block ?_
        refine WC.loop (ι := Nat × (Value → Option Value)) (fun z => [(8, .slice ai (ln i) (lcp i)), (14, .map (some b85)), (102, .slice ga q gc), (103, .int .i64 (q : Nat)), (104, .int .i64 (z.1 : Nat)), (3, .pointer (some ⟨cb, 0, none⟩)), (4, .slice xa m xcap), (5, .map (some b39)), (40, .slice (some ⟨sb, so, none⟩) n c), (41, .int .i64 (n : Nat)), (42, .int .i64 (i : Nat))])
          (fun z w' => St w0 (fun _ => False) ((b85, MapV (keyGood Tryf.prog 46) z.2) :: R) w' ∧ z.1 ≤ q ∧ Outs z.2 (fun p => kv (A p)) (fun p => p < ln i) (fun p => p < S z.1)) (fun z => q - z.1) (0, G2) ⟨st, Nat.zero_le _, hout0⟩ ?_ ?_
        · skip
          repeat (first | exact sub_nil _ | refine sub_cons rfl rfl ?_)
        clear hin2 hout0
        rintro ⟨gI, G2⟩ w ⟨st, hgq, hout⟩ KG hKG
        simp only at st hgq hout hKG ⊢
        by_cases hgl : gI < q
        · obtain rfl := hga (by omega)
          have hg1 : ∀ l w', St w0 (fun _ => False) l w' → its ⊆ l → w'.cell? ⟨gb, 0 + gI * 2, none⟩ = some (.int .u8 (A (S gI)).2) := fun l w' s h => (hGA l w' s h gI hgl).1
          have hg2 : ∀ l w', St w0 (fun _ => False) l w' → its ⊆ l → w'.cell? ⟨gb, 0 + gI * 2 + 1, none⟩ = some (.slice (some ⟨db, S gI, none⟩) (S (gI + 1) - S gI) (dcf gI)) := fun l w' s h => (hGA l w' s h gI hgl).2.1
          have hg3 : ∀ l w', St w0 (fun _ => False) l w' → its ⊆ l → ∀ j, j < S (gI + 1) - S gI → w'.cell? ⟨db, S gI + j * 1, none⟩ = some (.int .u32 (A (S gI + j)).1) := fun l w' s h => (hGA l w' s h gI hgl).2.2
          have hlt1 := hO.lt gI hgl
          have hle1 := S_le hO.lt (gI + 1) q (by omega) (Nat.le_refl _)
          rw [hO.sq] at hle1
          refine WC.seq fun K415 hK415 => ?_
          -- region 30
          refine WC.region ?_
          -- R30.0 105 := law.go:110 binOp
          refine WL.v (by first | exact r_lss rfl rfl (decide_eq_true (by omega)) | exact r_lss rfl rfl (decide_eq_false (by omega)) | exact r_lss rfl rfl rfl) rfl rfl rfl ?_
          refine WL.fin hK415 (fun _ _ h => h) ?_
          refine WC.seq fun K416 hK416 => ?_
          refine WC.condT rfl rfl ?_
          refine WC.skipF hK416 (fun _ _ h => h) ?_
          refine WC.seq fun K417 hK417 => ?_
          refine WC.block ?_
          refine WC.seq fun K418 hK418 => ?_
          -- region 31
          refine WC.region ?_
          -- R31.0 106 := law.go:110 indexAddr
          refine WL.v (by exact r_indexS ty_sl39 rfl rfl rfl (by omega)) rfl rfl rfl ?_
          -- R31.1 107 := law.go:110 load
          refine WL.v (by exact r_loadL (vs := [_, _]) ty_agg55 rfl ⟨(hg1 _ _ st (fun x hx => by simp [hsub0 hx])), (hg2 _ _ st (fun x hx => by simp [hsub0 hx])), trivial⟩) rfl rfl rfl ?_
          -- R31.2 18 := law.go:110 alloc
          refine WL.alloc st ty_zero55 rfl rfl rfl ?_
          intro b18 w st
          -- R31.3 None := law.go:110 store
          first | refine WL.storeW (vs := [_, _]) st ty_agg55 rfl rfl rfl rfl rfl rfl ?_ | refine WL.storeL (vs := [_, _]) st ty_agg55 rfl rfl rfl rfl (by first | decide | omega) rfl rfl ?_ | refine WL.storeW (vs := [_, _]) st.front1 ty_agg55 rfl rfl rfl rfl rfl rfl ?_ | refine WL.storeL (vs := [_, _]) st.front1 ty_agg55 rfl rfl rfl rfl (by first | decide | omega) rfl rfl ?_ | refine WL.storeW (vs := [_, _]) st.front2 ty_agg55 rfl rfl rfl rfl rfl rfl ?_ | refine WL.storeL (vs := [_, _]) st.front2 ty_agg55 rfl rfl rfl rfl (by first | decide | omega) rfl rfl ?_ | refine WL.storeW (vs := [_, _]) st.front3 ty_agg55 rfl rfl rfl rfl rfl rfl ?_ | refine WL.storeL (vs := [_, _]) st.front3 ty_agg55 rfl rfl rfl rfl (by first | decide | omega) rfl rfl ?_ | refine WL.storeW (vs := [_, _]) st.front4 ty_agg55 rfl rfl rfl rfl rfl rfl ?_ | refine WL.storeL (vs := [_, _]) st.front4 ty_agg55 rfl rfl rfl rfl (by first | decide | omega) rfl rfl ?_ | refine WL.storeW (vs := [_, _]) st.front5 ty_agg55 rfl rfl rfl rfl rfl rfl ?_ | refine WL.storeL (vs := [_, _]) st.front5 ty_agg55 rfl rfl rfl rfl (by first | decide | omega) rfl rfl ?_ | refine WL.storeW (vs := [_, _]) st.front6 ty_agg55 rfl rfl rfl rfl rfl rfl ?_ | refine WL.storeL (vs := [_, _]) st.front6 ty_agg55 rfl rfl rfl rfl (by first | decide | omega) rfl rfl ?_ | refine WL.storeW (vs := [_, _]) st.front7 ty_agg55 rfl rfl rfl rfl rfl rfl ?_ | refine WL.storeL (vs := [_, _]) st.front7 ty_agg55 rfl rfl rfl rfl (by first | decide | omega) rfl rfl ?_ | refine WL.storeW (vs := [_, _]) st.front8 ty_agg55 rfl rfl rfl rfl rfl rfl ?_ | refine WL.storeL (vs := [_, _]) st.front8 ty_agg55 rfl rfl rfl rfl (by first | decide | omega) rfl rfl ?_
          intro w st
          refine WL.fin hK418 (fun _ _ h => h) ?_
          refine WC.seq fun K419 hK419 => ?_
          -- region 32
          refine WC.region ?_
          -- R32.0 108 := law.go:111 fieldAddr
          refine WL.v (by exact r_field ty_fld55_1 rfl) rfl rfl rfl ?_
          -- R32.1 109 := law.go:111 load
          refine WL.v (by exact r_load1 ty_one53 rfl (by first | assumption | exact st.c0 (by first | decide | omega) | exact st.c1 (by first | decide | omega) | exact st.c2 (by first | decide | omega) | exact st.c3 (by first | decide | omega) | exact st.c4 (by first | decide | omega) | exact st.c5 (by first | decide | omega) | exact st.c6 (by first | decide | omega) | exact st.c7 (by first | decide | omega) | exact st.c8 (by first | decide | omega))) rfl rfl rfl ?_
          -- R32.2 110 := law.go:111 call
          refine WL.v (by exact r_len ty_usl53 rfl) rfl rfl rfl ?_
          -- R32.3 111 := law.go:111 move
          refine WL.v (by first | exact r_move (v := .int _ _) rfl | exact r_move rfl) rfl rfl rfl ?_
          refine WL.fin hK419 (fun _ _ h => h) ?_
          refine WC.block ?_
          refine WC.loop (ι := Nat × (Value → Option Value)) (fun z => [(8, .slice ai (ln i) (lcp i)), (14, .map (some b85)), (18, .pointer (some ⟨b18, 0, none⟩)), (102, .slice (some ⟨gb, 0, none⟩) q gc), (103, .int .i64 (q : Nat)), (104, .int .i64 (gI : Nat)),
              (109, .slice (some ⟨db, S gI, none⟩) (S (gI + 1) - S gI) (dcf gI)), (110, .int .i64 ((S (gI + 1) - S gI : Nat) : Int)), (111, .int .i64 (z.1 : Nat)), (3, .pointer (some ⟨cb, 0, none⟩)), (4, .slice xa m xcap), (5, .map (some b39)), (40, .slice (some ⟨sb, so, none⟩) n c), (41, .int .i64 (n : Nat)), (42, .int .i64 (i : Nat))])
            (fun z w' => St w0 (fun _ => False) ((b18, Row 55 2 (nth [.int .u8 (A (S gI)).2, .slice (some ⟨db, S gI, none⟩) (S (gI + 1) - S gI) (dcf gI)])) :: (b85, MapV (keyGood Tryf.prog 46) z.2) :: R) w' ∧ z.1 ≤ S (gI + 1) - S gI ∧
              Outs z.2 (fun p => kv (A p)) (fun p => p < ln i) (fun p => p < S gI + z.1)) (fun z => S (gI + 1) - S gI - z.1) (0, G2) ⟨st, Nat.zero_le _, hout⟩ ?_ ?_
          · skip
            repeat (first | exact sub_nil _ | refine sub_cons rfl rfl ?_)
          clear hout
          rintro ⟨j, G2⟩ w ⟨st, hj, hout⟩ KH hKH
          simp only at st hj hout hKH ⊢
          by_cases hjl : j < S (gI + 1) - S gI
          · have hp : S gI + j < ln i := by omega
            have hsame : (A (S gI + j)).2 = (A (S gI)).2 := hO.same gI hgl (S gI + j) (by omega) (by omega)
            obtain ⟨jx, hjx, hex⟩ := perm_of hO.perm hp
            have hkg : keyGood Tryf.prog 46 (kv (A (S gI + j))) := by
              rw [hex]
              exact kv_good (hL.doc i hlt jx hjx).1 (hL.doc i hlt jx hjx).2 (hL.impc i hlt jx hjx).1 (hL.impc i hlt jx hjx).2
            have hkey : (Value.agg #[.int .u32 (A (S gI + j)).1, .int .u8 (A (S gI)).2]) = kv (A (S gI + j)) := by unfold kv; rw [hsame]
            rw [← hkey] at hkg
            have hat : (G2 (.agg #[.int .u32 (A (S gI + j)).1, .int .u8 (A (S gI)).2])).getD (.int .i64 0) = .int .i64 1 := by rw [hkey]; exact hout.at_ (K := fun p => kv (A p)) (x0 := S gI + j) hp (by omega)
            refine WC.seq fun K420 hK420 => ?_
            -- region 33
            refine WC.region ?_
            -- R33.0 112 := law.go:111 binOp
            refine WL.v (by first | exact r_lss rfl rfl (decide_eq_true (by omega)) | exact r_lss rfl rfl (decide_eq_false (by omega)) | exact r_lss rfl rfl rfl) rfl rfl rfl ?_
            refine WL.fin hK420 (fun _ _ h => h) ?_
            refine WC.seq fun K421 hK421 => ?_
            refine WC.condT rfl rfl ?_
            refine WC.skipF hK421 (fun _ _ h => h) ?_
            refine WC.seq fun K422 hK422 => ?_
            refine WC.block ?_
            refine WC.seq fun K423 hK423 => ?_
            -- region 34
            refine WC.region ?_
            -- R34.0 113 := law.go:111 indexAddr
            refine WL.v (by exact r_indexS ty_sl53 rfl rfl rfl (by omega)) rfl rfl rfl ?_
            -- R34.1 114 := law.go:111 load
            refine WL.v (by exact r_load1 ty_one44 rfl (hg3 _ _ st (fun x hx => by simp [hsub0 hx]) j hjl)) rfl rfl rfl ?_
            -- R34.2 20 := law.go:111 assign
            refine WL.v (by first | exact r_assign (v := .int _ _) rfl | exact r_assign rfl) rfl rfl rfl ?_
            refine WL.fin hK423 (fun _ _ h => h) ?_
            -- region 35 (draws)
            have st := st.front1
            refine WC.heldM (.agg #[.int .u32 (A (S gI + j)).1, .int .u8 (A (S gI)).2]) (.int .i64 0) (.int .i64 1) [9] [0, 1, 2, 3, 4, 5, 6] [7, 8, 9] st hat ty_mixed (by kernel_rfl) fun w st Kq hKq => ?_
            -- R35.0 115 := law.go:112 move
            refine HL.v (fun w hS => by obtain ⟨G', st, hG⟩ := hS; first | exact r_move (v := .map _) rfl | exact r_move rfl) rfl rfl rfl ?_
            -- R35.1 116 := law.go:112 move
            refine HL.v (fun w hS => by obtain ⟨G', st, hG⟩ := hS; first | exact r_move (v := .int _ _) rfl | exact r_move rfl) rfl rfl rfl ?_
            -- R35.2 117 := law.go:112 fieldAddr
            refine HL.v (fun w hS => by obtain ⟨G', st, hG⟩ := hS; exact r_field ty_fld55_0 rfl) rfl rfl rfl ?_
            -- R35.3 118 := law.go:112 load
            refine HL.v (fun w hS => by obtain ⟨G', st, hG⟩ := hS; exact r_load1 ty_one5 rfl (by first | assumption | exact st.c0 (by first | decide | omega) | exact st.c1 (by first | decide | omega) | exact st.c2 (by first | decide | omega) | exact st.c3 (by first | decide | omega) | exact st.c4 (by first | decide | omega) | exact st.c5 (by first | decide | omega) | exact st.c6 (by first | decide | omega) | exact st.c7 (by first | decide | omega) | exact st.c8 (by first | decide | omega))) rfl rfl rfl ?_
            -- R35.4 119 := law.go:112 build
            refine HL.v (fun w hS => by obtain ⟨G', st, hG⟩ := hS; first | exact r_build (vs := [.int _ _, .int _ _]) ty_pl46 ty_zero46 rfl rfl | exact r_build (vs := [_, _]) ty_pl46 ty_zero46 rfl rfl | exact r_build ty_pl46 ty_zero46 rfl rfl) rfl rfl rfl ?_
            -- R35.5 120 := law.go:112 lookup
            refine HL.v (fun w hS => by obtain ⟨G', st, hG⟩ := hS; exact r_look ty_kb46 ty_mp51 ty_z13 rfl rfl st (by simp) hkg hG) rfl rfl rfl ?_
            -- R35.6 121 := law.go:112 binOp
            refine HL.v (fun w hS => by obtain ⟨G', st, hG⟩ := hS; exact r_sub (r := 0) rfl rfl (by rw [wi64 (by omega) (by omega)]; rfl)) rfl rfl rfl ?_
            refine HL.fin hKq ?_
            refine TL.at ?_
            refine WL.mapEntry (key := .agg #[.int .u32 (A (S gI + j)).1, .int .u8 (A (S gI)).2]) ty_kb46 st ty_mp51 ty_z13 rfl rfl hkg rfl rfl rfl ?_
            intro v0 stp w G1 hS1 st hE
            refine TL.nxt ⟨_, st, by rw [hS1.1]; exact hat⟩ ?_
            refine TL.at ?_
            -- R35.8 123 := law.go:112 extract
            refine WL.v (by first | exact r_extract (v := .int _ _) rfl rfl | exact r_extract rfl rfl) rfl rfl rfl ?_
            refine TL.nxt ⟨_, st, by rw [hS1.1]; exact hat⟩ ?_
            refine TL.at ?_
            refine WL.entryStore hE rfl rfl rfl rfl rfl ?_
            intro Gn w hS st
            refine TL.nxt' rfl ?_
            refine TL.wl ?_
            refine WL.fin hK422 (fun _ _ h => h) ?_
            -- region 36
            refine WC.region ?_
            -- R36.0 124 := law.go:111 binOp
            refine WL.v (by first | exact r_add rfl rfl (wi64 (by omega) (by omega)) | exact r_add rfl rfl rfl) rfl rfl rfl ?_
            -- R36.1 111 := law.go:111 move
            refine WL.v (by first | exact r_move (v := .int _ _) rfl | exact r_move rfl) rfl rfl rfl ?_
            have hS' : SetG G2 (kv (A (S gI + j))) (.int .i64 0) Gn := by rw [← hkey]; exact hS
            refine WL.next hKH (fun _ _ h => h) (j + 1, Gn) ⟨st.front1, by show j + 1 ≤ S (gI + 1) - S gI; omega, hout.set (x0 := S gI + j) hp (fun x hx he => hAin x _ hx hp (kv_inj he)) hS' (fun x hx => by show x < S gI + (j + 1) ↔ x < S gI + j ∨ x = S gI + j; omega)⟩ (by show S (gI + 1) - S gI - (j + 1) < S (gI + 1) - S gI - j; omega) (by repeat (first | exact sub_nil _ | refine sub_cons rfl rfl ?_))
          refine WC.seq fun K424 hK424 => ?_
          -- region 33
          refine WC.region ?_
          -- R33.0 112 := law.go:111 binOp
          refine WL.v (by first | exact r_lss rfl rfl (decide_eq_true (by omega)) | exact r_lss rfl rfl (decide_eq_false (by omega)) | exact r_lss rfl rfl rfl) rfl rfl rfl ?_
          refine WL.fin hK424 (fun _ _ h => h) ?_
          refine WC.seq fun K425 hK425 => ?_
          refine WC.condF rfl rfl ?_
          refine WC.exitF hK417 (fun _ _ h => h) ?_
          -- region 37
          refine WC.region ?_
          -- R37.0 125 := law.go:110 binOp
          refine WL.v (by first | exact r_add rfl rfl (wi64 (by omega) (by omega)) | exact r_add rfl rfl rfl) rfl rfl rfl ?_
          -- R37.1 104 := law.go:110 move
          refine WL.v (by first | exact r_move (v := .int _ _) rfl | exact r_move rfl) rfl rfl rfl ?_
          refine WL.next hKG (fun _ _ h => h) (gI + 1, G2) ⟨st.drop, by show gI + 1 ≤ q; omega, hout.congr fun x => by show x < S gI + j ↔ x < S (gI + 1); omega⟩ (by show q - (gI + 1) < q - gI; omega) (by repeat (first | exact sub_nil _ | refine sub_cons rfl rfl ?_))
        obtain rfl : gI = q := by omega
        refine WC.seq fun K426 hK426 => ?_
        -- region 30
        refine WC.region ?_
        -- R30.0 105 := law.go:110 binOp
        refine WL.v (by first | exact r_lss rfl rfl (decide_eq_true (by omega)) | exact r_lss rfl rfl (decide_eq_false (by omega)) | exact r_lss rfl rfl rfl) rfl rfl rfl ?_
        refine WL.fin hK426 (fun _ _ h => h) ?_
        refine WC.seq fun K427 hK427 => ?_
        refine WC.condF rfl rfl ?_
        refine WC.exitF hK413 (fun _ _ h => h) ?_
        refine WC.seq fun K428 hK428 => ?_
        refine WC.seq fun K429 hK429 => ?_
        -- region 38
        refine WC.region ?_
        -- R38.0 126 := law.go:115 move
        refine WL.v (by first | exact r_move (v := .map _) rfl | exact r_move rfl) rfl rfl rfl ?_
        -- R38.1 127 := law.go:115 range
        refine WL.range st ty_mp51 rfl rfl rfl rfl ?_
        intro es clock rb w hE st
        refine WL.fin hK429 (fun _ _ h => h) ?_
        refine WC.block ?_
        have hz0 : ∀ x, x ∈ es.toList → x.val = .int .i64 0 := fun x hx => hout.done (fun p hp => by rw [hO.sq]; exact hp) (hE.holds x hx).2
        refine WC.loop (ι := Array Nat) (fun seen => [(8, .slice ai (ln i) (lcp i)), (127, .pointer (some ⟨rb, 0, none⟩)), (3, .pointer (some ⟨cb, 0, none⟩)), (4, .slice xa m xcap), (5, .map (some b39)), (40, .slice (some ⟨sb, so, none⟩) n c), (41, .int .i64 (n : Nat)), (42, .int .i64 (i : Nat))]) (fun seen w' => St w0 (fun _ => False) ((rb, Is (.mapIter (some b85) clock seen clock)) :: (b85, Is (.map es clock)) :: R) w') (fun seen => unseen es seen) #[] st ?_ ?_
        · skip
          repeat (first | exact sub_nil _ | refine sub_cons rfl rfl ?_)
        rintro seen w st KR hKR
        rcases run_mnext (P := Tryf.prog) (ty := 0) hE st with ⟨hall, hr⟩ | ⟨x, hx, hseen, w1, hr, st1⟩
        rotate_left
        · skip
          refine WC.seq fun K430 hK430 => ?_
          -- region 39
          refine WC.region ?_
          -- R39.0 128 := law.go:115 next
          refine WL.v (v := .tuple #[.bool true, x.key, x.val]) (w' := w1) (r_next rfl hr) rfl rfl rfl ?_
          have st := st1
          -- R39.1 129 := law.go:115 extract
          refine WL.v (by first | exact r_extract (v := .bool _) rfl rfl | exact r_extract rfl rfl) rfl rfl rfl ?_
          refine WL.fin hK430 (fun _ _ h => h) ?_
          refine WC.seq fun K431 hK431 => ?_
          refine WC.condT rfl rfl ?_
          refine WC.skipF hK431 (fun _ _ h => h) ?_
          refine WC.block ?_
          refine WC.seq fun K432 hK432 => ?_
          -- region 40
          refine WC.region ?_
          -- R40.0 130 := law.go:115 entry
          refine WL.v (by exact r_mentry hE hx st rfl) rfl rfl rfl ?_
          -- R40.1 131 := law.go:115 extract
          refine WL.v (v := .int .i64 0) (r_extract rfl (congrArg some (hz0 x hx))) rfl rfl rfl ?_
          -- R40.2 22 := law.go:115 assign
          refine WL.v (by first | exact r_assign (v := .int _ _) rfl | exact r_assign rfl) rfl rfl rfl ?_
          refine WL.fin hK432 (fun _ _ h => h) ?_
          refine WC.seq fun K433 hK433 => ?_
          -- region 41
          refine WC.region ?_
          -- R41.0 132 := law.go:116 move
          refine WL.v (by first | exact r_move (v := .int _ _) rfl | exact r_move rfl) rfl rfl rfl ?_
          -- R41.1 133 := law.go:116 binOp
          refine WL.v (by first | exact r_neq rfl rfl (decide_eq_true (by omega)) | exact r_neq rfl rfl (decide_eq_false (by omega)) | exact r_neq rfl rfl rfl) rfl rfl rfl ?_
          refine WL.fin hK433 (fun _ _ h => h) ?_
          refine WC.condF rfl rfl ?_
          refine WC.skipN hKR (fun _ _ h => h) (seen.push x.born) st (unseen_push hx hseen) (by repeat (first | exact sub_nil _ | refine sub_cons rfl rfl ?_))
        have st := st.drop.drop
        subst hR
        have st := st_noIts st
        by_cases hpos : ¬ 0 < ln i
        · skip
          refine WC.seq fun K434 hK434 => ?_
          -- region 39
          refine WC.region ?_
          -- R39.0 128 := law.go:115 next
          refine WL.v (v := .tuple #[.bool false]) (w' := w) (r_next rfl hr) rfl rfl rfl ?_
          -- R39.1 129 := law.go:115 extract
          refine WL.v (by first | exact r_extract (v := .bool _) rfl rfl | exact r_extract rfl rfl) rfl rfl rfl ?_
          refine WL.fin hK434 (fun _ _ h => h) ?_
          refine WC.seq fun K435 hK435 => ?_
          refine WC.condF rfl rfl ?_
          refine WC.exitF hK428 (fun _ _ h => h) ?_
          refine WC.seq fun K436 hK436 => ?_
          -- region 43
          refine WC.region ?_
          -- R43.0 134 := law.go:120 move
          refine WL.v (by first | exact r_move (v := .slice _ _ _) rfl | exact r_move rfl) rfl rfl rfl ?_
          -- R43.1 135 := law.go:120 call
          refine WL.v (by exact r_len ty_usl25 rfl) rfl rfl rfl ?_
          -- R43.2 136 := law.go:120 binOp
          refine WL.v (by first | exact r_gtr rfl rfl (decide_eq_true (by omega)) | exact r_gtr rfl rfl (decide_eq_false (by omega)) | exact r_gtr rfl rfl rfl) rfl rfl rfl ?_
          refine WL.fin hK436 (fun _ _ h => h) ?_
          refine WC.condF rfl rfl ?_
          refine WC.skipF hK365 (fun _ _ h => h) ?_
          -- region 51
          refine WC.region ?_
          -- R51.0 166 := law.go:88 binOp
          refine WL.v (by first | exact r_add rfl rfl (wi64 (by omega) (by omega)) | exact r_add rfl rfl rfl) rfl rfl rfl ?_
          -- R51.1 42 := law.go:88 move
          refine WL.v (by first | exact r_move (v := .int _ _) rfl | exact r_move rfl) rfl rfl rfl ?_
          refine WL.next hK1 (fun _ _ h => h) ⟨i + 1, F2, fv2, FI2, m, .slice xa m xcap, XI, xf, src, G⟩ ⟨st, by show i + 1 ≤ n; omega, hF2, hfew2, hX, by show m ≤ i + 1; omega, hix, hins⟩ (by show n - (i + 1) < n - i; omega) (by repeat (first | exact sub_nil _ | refine sub_cons rfl rfl ?_))
        have hsrc0 : ∀ t, t < m → src t = (fun t => if t = m then i else src t) t := fun t ht => by show src t = if t = m then i else src t; rw [if_neg (by omega)]
        have hsrcm : (fun t => if t = m then i else src t) m = i := by show (if m = m then i else src m) = i; rw [if_pos rfl]
        generalize hs2 : (fun t => if t = m then i else src t) = src2 at hsrc0 hsrcm
        have hins2 : Ins G (K3 Tm X src2) (fun x => (x.1 < m ∧ x.2 < ln (src2 x.1)) ∨ (x.1 = m ∧ x.2 < 0)) :=
          (hins.congrK (K' := K3 Tm X src2) fun x hx => by unfold K3; rw [hsrc0 x.1 hx.1]).congr fun x => by
            constructor
            · rintro ⟨h1, h2⟩; rw [hsrc0 x.1 h1] at h2; exact .inl ⟨h1, h2⟩
            · rintro (⟨h1, h2⟩ | ⟨_, h2⟩)
              · rw [← hsrc0 x.1 h1] at h2; exact ⟨h1, h2⟩
              · omega
        refine WC.seq fun K437 hK437 => ?_
        -- region 39
        refine WC.region ?_
        -- R39.0 128 := law.go:115 next
        refine WL.v (v := .tuple #[.bool false]) (w' := w) (r_next rfl hr) rfl rfl rfl ?_
        -- R39.1 129 := law.go:115 extract
        refine WL.v (by first | exact r_extract (v := .bool _) rfl rfl | exact r_extract rfl rfl) rfl rfl rfl ?_
        refine WL.fin hK437 (fun _ _ h => h) ?_
        refine WC.seq fun K438 hK438 => ?_
        refine WC.condF rfl rfl ?_
        refine WC.exitF hK428 (fun _ _ h => h) ?_
        refine WC.seq fun K439 hK439 => ?_
        -- region 43
        refine WC.region ?_
        -- R43.0 134 := law.go:120 move
        refine WL.v (by first | exact r_move (v := .slice _ _ _) rfl | exact r_move rfl) rfl rfl rfl ?_
        -- R43.1 135 := law.go:120 call
        refine WL.v (by exact r_len ty_usl25 rfl) rfl rfl rfl ?_
        -- R43.2 136 := law.go:120 binOp
        refine WL.v (by first | exact r_gtr rfl rfl (decide_eq_true (by omega)) | exact r_gtr rfl rfl (decide_eq_false (by omega)) | exact r_gtr rfl rfl rfl) rfl rfl rfl ?_
        refine WL.fin hK439 (fun _ _ h => h) ?_
        refine WC.condT rfl rfl ?_
        refine WC.seq fun K440 hK440 => ?_
        -- region 44
        refine WC.region ?_
        -- R44.0 137 := law.go:121 move
        refine WL.v (by first | exact r_move (v := .slice _ _ _) rfl | exact r_move rfl) rfl rfl rfl ?_
        -- R44.1 138 := law.go:121 call
        refine WL.v (by exact r_len ty_usl28 rfl) rfl rfl rfl ?_
        -- R44.2 139 := law.go:121 makeInterface
        refine WL.v (by exact r_iface ty_conc3 rfl) rfl rfl rfl ?_
        -- R44.3 140 := law.go:121 buildSlice
        first | refine WL.mkslice (m := 1) (vs := [_]) st ty_sl95 ty_zero20 rfl rfl rfl rfl rfl rfl ?_ | refine WL.mkslice (m := 1) (vs := [_]) st ty_sl95 ty_zero20 rfl rfl rfl rfl rfl rfl ?_ | refine WL.mkslice st ty_sl95 ty_zero20 rfl rfl rfl rfl rfl rfl ?_
        intro b140 w st
        -- R44.4 141 := law.go:121 call
        have hcell : w.cell? ⟨b140, 0, none⟩ = some (.iface 3 (.int .i64 (m : Nat))) := st.c0 (by decide)
        refine WL.v (v := .string (Tm m)) (w' := w.drew) (r_callx rfl ((fm_run F (m : Nat) b140 w (by rw [st.tape]; exact hF) hcell).trans (by rw [hT.txt m (by omega)]))) rfl rfl rfl ?_
        have st := st.drew
        -- R44.5 23 := law.go:121 assign
        refine WL.v (by first | exact r_assign (v := .string _) rfl | exact r_assign rfl) rfl rfl rfl ?_
        refine WL.fin hK440 (fun _ _ h => h) ?_
        refine WC.seq fun K441 hK441 => ?_
        -- region 45
        refine WC.region ?_
        -- R45.0 142 := law.go:122 move
        refine WL.v (by first | exact r_move (v := .slice _ _ _) rfl | exact r_move rfl) rfl rfl rfl ?_
        -- R45.1 143 := law.go:122 move
        refine WL.v (by first | exact r_move (v := .string _) rfl | exact r_move rfl) rfl rfl rfl ?_
        -- R45.2 144 := law.go:122 move
        refine WL.v (by first | exact r_move (v := .slice _ _ _) rfl | exact r_move rfl) rfl rfl rfl ?_
        -- R45.3 145 := law.go:122 build
        refine WL.v (by first | exact r_build (vs := [.string _, .slice _ _ _]) ty_pl58 ty_zero58 rfl rfl | exact r_build (vs := [_, _]) ty_pl58 ty_zero58 rfl rfl | exact r_build ty_pl58 ty_zero58 rfl rfl) rfl rfl rfl ?_
        -- R45.4 146 := law.go:122 buildSlice
        first | refine WL.mkslice (m := 2) (vs := [.string _, .slice _ _ _]) st ty_sl28 ty_zero58 rfl rfl rfl rfl rfl rfl ?_ | refine WL.mkslice (m := 2) (vs := [_, _]) st ty_sl28 ty_zero58 rfl rfl rfl rfl rfl rfl ?_ | refine WL.mkslice st ty_sl28 ty_zero58 rfl rfl rfl rfl rfl rfl ?_
        intro b146 w st
        -- R45.5 147 := law.go:122 call
        have hnw : ∀ j, j < 1 * 2 → w.cell? ⟨b146, 0 + j, none⟩ = some (nth [.string (Tm m), .slice ai (ln i) (lcp i)] (0 + j)) := fun j hj => st.c0 (by omega)
        refine WL.appendO (m := 1) (news := fun j => nth [.string (Tm m), .slice ai (ln i) (lcp i)] (0 + j)) hX (st_toXI st.drop.drop) ty_mk28 ty_zero58 rfl (by omega) rfl rfl (by omega) hnw (fun j hj => ?_) (by omega) (by omega) rfl rfl rfl ?_
        · match j, hj with
          | 0, _ => rfl
          | 1, _ => rfl
        intro xv2 XI2 xf2 w hX2 st hold hnewc
        have st := st_mapF (st_fromXI st)
        -- R45.6 4 := law.go:122 assign
        refine WL.v (by first | exact r_assign (v := .slice _ _ _) rfl | exact r_assign rfl) rfl rfl rfl ?_
        refine WL.fin hK441 (fun _ _ h => h) ?_
        refine WC.seq fun K442 hK442 => ?_
        -- region 46
        refine WC.region ?_
        -- R46.0 148 := law.go:123 move
        refine WL.v (by first | exact r_move (v := .slice _ _ _) rfl | exact r_move rfl) rfl rfl rfl ?_
        -- R46.1 149 := law.go:123 call
        refine WL.v (by exact r_len ty_usl25 rfl) rfl rfl rfl ?_
        -- R46.2 150 := law.go:123 move
        refine WL.v (by first | exact r_move (v := .int _ _) rfl | exact r_move rfl) rfl rfl rfl ?_
        refine WL.fin hK442 (fun _ _ h => h) ?_
        refine WC.block ?_
        have hix2 : IxIn n (m + 1) xf2 src2 Tm la ln lcp X := by
          rw [← hs2]
          exact hix.more hlt (by omega) hok (fun k hk => hold k hk) (hnewc 0 (by omega)) (by rw [← hae]; exact hnewc 1 (by omega))
        refine WC.loop (ι := Nat × (Value → Option Value)) (fun z => [(8, .slice ai (ln i) (lcp i)), (23, .string (Tm m)), (148, .slice ai (ln i) (lcp i)), (149, .int .i64 (ln i : Nat)), (150, .int .i64 (z.1 : Nat)), (3, .pointer (some ⟨cb, 0, none⟩)), (4, xv2), (5, .map (some b39)), (40, .slice (some ⟨sb, so, none⟩) n c), (41, .int .i64 (n : Nat)), (42, .int .i64 (i : Nat))])
          (fun z w' => St w0 (fun _ => False) ((b39, MapV (keyGood Tryf.prog 60) z.2) :: (cb, Row 27 513 F2) :: (FI2 ++ XI2)) w' ∧ z.1 ≤ ln i ∧ Ins z.2 (K3 Tm X src2) (fun x => (x.1 < m ∧ x.2 < ln (src2 x.1)) ∨ (x.1 = m ∧ x.2 < z.1))) (fun z => ln i - z.1) (0, G)
          ⟨st, Nat.zero_le _, hins2⟩ ?_ ?_
        · skip
          repeat (first | exact sub_nil _ | refine sub_cons rfl rfl ?_)
        clear hins2
        rintro ⟨k, G3⟩ w ⟨st, hk3, hin3⟩ KI hKI
        simp only at st hk3 hin3 hKI ⊢
        by_cases hkl3 : k < ln i
        · have stK := st
          obtain rfl := hai (by omega)
          have st := stK
          have hlk := hlat k hkl3
          have hd := hL.doc i hlt k hkl3
          have hv' := hL.impc i hlt k hkl3
          have hkg : keyGood Tryf.prog 60 (kv3 (Tm m) (X i k)) := kv3_good (hT.size m (by omega)) hd.1 hd.2 hv'.1 hv'.2
          have hkk : K3 Tm X src2 (m, k) = kv3 (Tm m) (X i k) := by unfold K3; simp only; rw [hsrcm]
          have hne : ∀ x : Nat × Nat, (x.1 < m ∧ x.2 < ln (src2 x.1)) ∨ (x.1 = m ∧ x.2 < k) → K3 Tm X src2 x ≠ K3 Tm X src2 (m, k) := fun x hx he => by
            rw [hkk] at he
            obtain ⟨h1, h2⟩ := kv3_inj he
            have h3 := hT.inj x.1 m (by omega) (by omega) h1
            rcases hx with hx | hx
            · omega
            · rw [h3, hsrcm] at h2
              have := hok.inj x.2 k (by omega) hkl3 h2
              omega
          have hfr : (G3 (kv3 (Tm m) (X i k))).getD (.int .i64 0) = .int .i64 0 := by rw [← hkk]; exact hin3.fresh hne
          refine WC.seq fun K443 hK443 => ?_
          -- region 47
          refine WC.region ?_
          -- R47.0 151 := law.go:123 binOp
          refine WL.v (by first | exact r_lss rfl rfl (decide_eq_true (by omega)) | exact r_lss rfl rfl (decide_eq_false (by omega)) | exact r_lss rfl rfl rfl) rfl rfl rfl ?_
          refine WL.fin hK443 (fun _ _ h => h) ?_
          refine WC.seq fun K444 hK444 => ?_
          refine WC.condT rfl rfl ?_
          refine WC.skipF hK444 (fun _ _ h => h) ?_
          refine WC.seq fun K445 hK445 => ?_
          refine WC.block ?_
          refine WC.seq fun K446 hK446 => ?_
          -- region 48
          refine WC.region ?_
          -- R48.0 152 := law.go:123 indexAddr
          refine WL.v (by exact r_indexS ty_sl25 rfl rfl rfl (by omega)) rfl rfl rfl ?_
          -- R48.1 153 := law.go:123 load
          refine WL.v (by exact r_loadL (vs := [_, _]) ty_agg46 rfl ⟨(st.old (fun h => h) hlk.1), (st.old (fun h => h) hlk.2), trivial⟩) rfl rfl rfl ?_
          -- R48.2 25 := law.go:123 alloc
          refine WL.alloc st ty_zero46 rfl rfl rfl ?_
          intro b25 w st
          -- R48.3 None := law.go:123 store
          first | refine WL.storeW (vs := [_, _]) st ty_agg46 rfl rfl rfl rfl rfl rfl ?_ | refine WL.storeL (vs := [_, _]) st ty_agg46 rfl rfl rfl rfl (by first | decide | omega) rfl rfl ?_ | refine WL.storeW (vs := [_, _]) st.front1 ty_agg46 rfl rfl rfl rfl rfl rfl ?_ | refine WL.storeL (vs := [_, _]) st.front1 ty_agg46 rfl rfl rfl rfl (by first | decide | omega) rfl rfl ?_ | refine WL.storeW (vs := [_, _]) st.front2 ty_agg46 rfl rfl rfl rfl rfl rfl ?_ | refine WL.storeL (vs := [_, _]) st.front2 ty_agg46 rfl rfl rfl rfl (by first | decide | omega) rfl rfl ?_ | refine WL.storeW (vs := [_, _]) st.front3 ty_agg46 rfl rfl rfl rfl rfl rfl ?_ | refine WL.storeL (vs := [_, _]) st.front3 ty_agg46 rfl rfl rfl rfl (by first | decide | omega) rfl rfl ?_ | refine WL.storeW (vs := [_, _]) st.front4 ty_agg46 rfl rfl rfl rfl rfl rfl ?_ | refine WL.storeL (vs := [_, _]) st.front4 ty_agg46 rfl rfl rfl rfl (by first | decide | omega) rfl rfl ?_ | refine WL.storeW (vs := [_, _]) st.front5 ty_agg46 rfl rfl rfl rfl rfl rfl ?_ | refine WL.storeL (vs := [_, _]) st.front5 ty_agg46 rfl rfl rfl rfl (by first | decide | omega) rfl rfl ?_ | refine WL.storeW (vs := [_, _]) st.front6 ty_agg46 rfl rfl rfl rfl rfl rfl ?_ | refine WL.storeL (vs := [_, _]) st.front6 ty_agg46 rfl rfl rfl rfl (by first | decide | omega) rfl rfl ?_ | refine WL.storeW (vs := [_, _]) st.front7 ty_agg46 rfl rfl rfl rfl rfl rfl ?_ | refine WL.storeL (vs := [_, _]) st.front7 ty_agg46 rfl rfl rfl rfl (by first | decide | omega) rfl rfl ?_ | refine WL.storeW (vs := [_, _]) st.front8 ty_agg46 rfl rfl rfl rfl rfl rfl ?_ | refine WL.storeL (vs := [_, _]) st.front8 ty_agg46 rfl rfl rfl rfl (by first | decide | omega) rfl rfl ?_
          intro w st
          refine WL.fin hK446 (fun _ _ h => h) ?_
          -- region 49 (draws)
          have st := st.front1
          refine WC.heldM (kv3 (Tm m) (X i k)) (.int .i64 0) (.int .i64 0) [11] [0, 1, 2, 3, 4, 5, 6, 7, 8] [9, 10, 11] st hfr ty_mixed (by kernel_rfl) fun w st Kq hKq => ?_
          -- R49.0 154 := law.go:124 move
          refine HL.v (fun w hS => by obtain ⟨G', st, hG⟩ := hS; first | exact r_move (v := .map _) rfl | exact r_move rfl) rfl rfl rfl ?_
          -- R49.1 155 := law.go:124 move
          refine HL.v (fun w hS => by obtain ⟨G', st, hG⟩ := hS; first | exact r_move (v := .string _) rfl | exact r_move rfl) rfl rfl rfl ?_
          -- R49.2 156 := law.go:124 fieldAddr
          refine HL.v (fun w hS => by obtain ⟨G', st, hG⟩ := hS; exact r_field ty_fld46_0 rfl) rfl rfl rfl ?_
          -- R49.3 157 := law.go:124 load
          refine HL.v (fun w hS => by obtain ⟨G', st, hG⟩ := hS; exact r_load1 ty_one44 rfl (by first | assumption | exact st.c0 (by first | decide | omega) | exact st.c1 (by first | decide | omega) | exact st.c2 (by first | decide | omega) | exact st.c3 (by first | decide | omega) | exact st.c4 (by first | decide | omega) | exact st.c5 (by first | decide | omega) | exact st.c6 (by first | decide | omega) | exact st.c7 (by first | decide | omega) | exact st.c8 (by first | decide | omega))) rfl rfl rfl ?_
          -- R49.4 158 := law.go:124 fieldAddr
          refine HL.v (fun w hS => by obtain ⟨G', st, hG⟩ := hS; exact r_field ty_fld46_1 rfl) rfl rfl rfl ?_
          -- R49.5 159 := law.go:124 load
          refine HL.v (fun w hS => by obtain ⟨G', st, hG⟩ := hS; exact r_load1 ty_one5 rfl (by first | assumption | exact st.c0 (by first | decide | omega) | exact st.c1 (by first | decide | omega) | exact st.c2 (by first | decide | omega) | exact st.c3 (by first | decide | omega) | exact st.c4 (by first | decide | omega) | exact st.c5 (by first | decide | omega) | exact st.c6 (by first | decide | omega) | exact st.c7 (by first | decide | omega) | exact st.c8 (by first | decide | omega))) rfl rfl rfl ?_
          -- R49.6 160 := law.go:124 build
          refine HL.v (fun w hS => by obtain ⟨G', st, hG⟩ := hS; first | exact r_build (vs := [.string _, .int _ _, .int _ _]) ty_pl60 ty_zero60 rfl rfl | exact r_build (vs := [_, _, _]) ty_pl60 ty_zero60 rfl rfl | exact r_build ty_pl60 ty_zero60 rfl rfl) rfl rfl rfl ?_
          -- R49.7 161 := law.go:124 lookup
          refine HL.v (fun w hS => by obtain ⟨G', st, hG⟩ := hS; exact r_look ty_kb60 ty_mp29 ty_z13 rfl rfl st (by simp) hkg hG) rfl rfl rfl ?_
          -- R49.8 162 := law.go:124 binOp
          refine HL.v (fun w hS => by obtain ⟨G', st, hG⟩ := hS; exact r_add (r := 1) rfl rfl (by rw [wi64 (by omega) (by omega)]; rfl)) rfl rfl rfl ?_
          refine HL.fin hKq ?_
          refine TL.at ?_
          refine WL.mapEntry (key := kv3 (Tm m) (X i k)) ty_kb60 st ty_mp29 ty_z13 rfl rfl hkg rfl rfl rfl ?_
          intro v0 stp w G1 hS1 st hE
          refine TL.nxt ⟨_, st, by rw [hS1.1]; exact hfr⟩ ?_
          refine TL.at ?_
          -- R49.10 164 := law.go:124 extract
          refine WL.v (by first | exact r_extract (v := .int _ _) rfl rfl | exact r_extract rfl rfl) rfl rfl rfl ?_
          refine TL.nxt ⟨_, st, by rw [hS1.1]; exact hfr⟩ ?_
          refine TL.at ?_
          refine WL.entryStore hE rfl rfl rfl rfl rfl ?_
          intro Gn w hS st
          refine TL.nxt' rfl ?_
          refine TL.wl ?_
          refine WL.fin hK445 (fun _ _ h => h) ?_
          -- region 50
          refine WC.region ?_
          -- R50.0 165 := law.go:123 binOp
          refine WL.v (by first | exact r_add rfl rfl (wi64 (by omega) (by omega)) | exact r_add rfl rfl rfl) rfl rfl rfl ?_
          -- R50.1 150 := law.go:123 move
          refine WL.v (by first | exact r_move (v := .int _ _) rfl | exact r_move rfl) rfl rfl rfl ?_
          rw [← hkk] at hS
          refine WL.next hKI (fun _ _ h => h) (k + 1, Gn) ⟨st.drop1, by show k + 1 ≤ ln i; omega, hin3.set (x0 := (m, k)) hne hS (fun x => ?_)⟩ (by show ln i - (k + 1) < ln i - k; omega) (by repeat (first | exact sub_nil _ | refine sub_cons rfl rfl ?_))
          obtain ⟨x1, x2⟩ := x
          simp only [Prod.mk.injEq]
          omega
        obtain rfl : k = ln i := by omega
        refine WC.seq fun K447 hK447 => ?_
        -- region 47
        refine WC.region ?_
        -- R47.0 151 := law.go:123 binOp
        refine WL.v (by first | exact r_lss rfl rfl (decide_eq_true (by omega)) | exact r_lss rfl rfl (decide_eq_false (by omega)) | exact r_lss rfl rfl rfl) rfl rfl rfl ?_
        refine WL.fin hK447 (fun _ _ h => h) ?_
        refine WC.seq fun K448 hK448 => ?_
        refine WC.condF rfl rfl ?_
        refine WC.exitF hK365 (fun _ _ h => h) ?_
        -- region 51
        refine WC.region ?_
        -- R51.0 166 := law.go:88 binOp
        refine WL.v (by first | exact r_add rfl rfl (wi64 (by omega) (by omega)) | exact r_add rfl rfl rfl) rfl rfl rfl ?_
        -- R51.1 42 := law.go:88 move
        refine WL.v (by first | exact r_move (v := .int _ _) rfl | exact r_move rfl) rfl rfl rfl ?_
        refine WL.next hK1 (fun _ _ h => h) ⟨i + 1, F2, fv2, FI2, m + 1, xv2, XI2, xf2, src2, G3⟩ ⟨st_mapB st, by show i + 1 ≤ n; omega, hF2, hfew2, hX2, by show m + 1 ≤ i + 1; omega, hix2, hin3.congr fun x => ?_⟩ (by show n - (i + 1) < n - i; omega) (by repeat (first | exact sub_nil _ | refine sub_cons rfl rfl ?_))
        constructor
        · rintro (⟨h1, h2⟩ | ⟨h1, h2⟩)
          · exact ⟨by show x.1 < m + 1; omega, h2⟩
          · refine ⟨by show x.1 < m + 1; omega, ?_⟩
            show x.2 < ln (src2 x.1)
            rw [h1, hsrcm]; exact h2
        · rintro ⟨h1, h2⟩
          have h1 : x.1 < m + 1 := h1
          by_cases hx : x.1 < m
          · exact .inl ⟨hx, h2⟩
          · have hxm : x.1 = m := by omega
            refine .inr ⟨hxm, ?_⟩
            have h2 : x.2 < ln (src2 x.1) := h2
            rwa [hxm, hsrcm] at h2
    · obtain rfl : i = n := by omega
      have hmn : m ≤ 65536 := by omega
      have hixr : ∀ l w', St w0 (fun _ => False) l w' → XI ⊆ l → ∀ t, t < m → w'.cell? ⟨xb, 0 + t * 2, none⟩ = some (.string (Tm t)) ∧ w'.cell? ⟨xb, 0 + t * 2 + 1, none⟩ = some (.slice (la (src t)) (ln (src t)) (lcp (src t))) := fun l w' s hl t ht => by
        obtain ⟨_, _, _, h4, h5⟩ := hix t ht
        have q1 := hxr s hl (t * 2) (by omega)
        have q2 := hxr s hl (t * 2 + 1) (by omega)
        rw [h4] at q1
        rw [h5] at q2
        rw [Nat.zero_add]
        exact ⟨q1, q2⟩
      have hrdX : ∀ its w', St w0 (fun _ => False) (its ++ ((b39, MapV (keyGood Tryf.prog 60) G) :: XI)) w' → IxAt w' xb m Tm (fun t => lb (src t)) (fun t => lo (src t)) (fun t => ln (src t)) (fun t => lcp (src t)) (fun t => X (src t)) := fun its w' s => by
        have hr := hixr _ w' s (fun x hx => by simp [hx])
        refine ⟨fun t ht => (hr t ht).1, fun t ht => ?_, fun t ht k hk => ?_⟩
        · obtain ⟨h1, h2, _⟩ := hix t ht
          rw [(hr t ht).2, hL.adr (src t) h1 (by omega)]
        · have := hL.at_ (src t) (hix t ht).1 k hk
          exact ⟨s.old (fun h => h) this.1, s.old (fun h => h) this.2⟩
      refine WC.seq fun K449 hK449 => ?_
      -- region 7
      refine WC.region ?_
      -- R7.0 43 := law.go:88 binOp
      refine WL.v (by first | exact r_lss rfl rfl (decide_eq_true (by omega)) | exact r_lss rfl rfl (decide_eq_false (by omega)) | exact r_lss rfl rfl rfl) rfl rfl rfl ?_
      refine WL.fin hK449 (fun _ _ h => h) ?_
      refine WC.seq fun K450 hK450 => ?_
      refine WC.condF rfl rfl ?_
      refine WC.exitF hK361 (fun _ _ h => h) ?_
      refine WC.seq fun K451 hK451 => ?_
      -- region 52
      refine WC.region ?_
      -- R52.0 168 := law.go:128 move
      refine WL.v (by first | exact r_move (v := .slice _ _ _) rfl | exact r_move rfl) rfl rfl rfl ?_
      -- R52.1 169 := law.go:128 call
      refine WL.call (r_call ty_call8 rfl) rfl rfl rfl (convertIndex_ok cb xb m xcap xa Tm (fun t => lb (src t)) (fun t => lo (src t)) (fun t => ln (src t)) (fun t => lcp (src t)) (fun t => X (src t)) (fun t => V (src t)) Fc fv FI hmn hxa
        (fun t ht => hT.ne t (by omega)) (fun t h0 ht => hT.inc t h0 (by omega)) (fun t ht => ⟨(hix t ht).2.1, hlen _ (hix t ht).1⟩) (fun t ht => (hix t ht).2.2.1) (fun t ht => hL.impc _ (hix t ht).1) (fun t ht => hL.doc _ (hix t ht).1) hrdX hFc hfew st) ?_
      rintro _ w ⟨ob, og, its, F2, fv2, FI2, gb, gc, q, S, A, rfl, hI, hF2, hfew2, st⟩
      -- R52.2 167 := law.go:128 move
      refine WL.v (by first | exact r_move (v := .tuple _) rfl | exact r_move rfl) rfl rfl rfl ?_
      -- R52.3 170 := law.go:128 extract
      refine WL.v (by first | exact r_extract (v := .slice _ _ _) rfl rfl | exact r_extract rfl rfl) rfl rfl rfl ?_
      -- R52.4 171 := law.go:128 extract
      refine WL.v (by first | exact r_extract (v := .nilIface) rfl rfl | exact r_extract (v := .iface _ _) rfl rfl | exact r_extract rfl rfl) rfl rfl rfl ?_
      -- R52.5 26 := law.go:128 assign
      refine WL.v (by first | exact r_assign (v := .slice _ _ _) rfl | exact r_assign rfl) rfl rfl rfl ?_
      -- R52.6 27 := law.go:128 assign
      refine WL.v (by first | exact r_assign (v := .nilIface) rfl | exact r_assign (v := .iface _ _) rfl | exact r_assign rfl) rfl rfl rfl ?_
      refine WL.fin hK451 (fun _ _ h => h) ?_
      refine WC.seq fun K452 hK452 => ?_
      refine WC.seq fun K453 hK453 => ?_
      -- region 53
      refine WC.region ?_
      -- R53.0 172 := law.go:129 move
      refine WL.v (by first | exact r_move (v := .nilIface) rfl | exact r_move (v := .iface _ _) rfl | exact r_move rfl) rfl rfl rfl ?_
      -- R53.1 173 := law.go:129 binOp
      refine WL.v (by first | exact r_nil_neq ty_ifc48 rfl | exact r_some_neq ty_ifc48 rfl) rfl rfl rfl ?_
      -- R53.2 174 := law.go:129 move
      refine WL.v (by first | exact r_move (v := .bool _) rfl | exact r_move rfl) rfl rfl rfl ?_
      -- R53.3 175 := law.go:129 move
      refine WL.v (by first | exact r_move (v := .slice _ _ _) rfl | exact r_move rfl) rfl rfl rfl ?_
      -- R53.4 176 := law.go:129 call
      refine WL.v (by exact r_len ty_usl61 rfl) rfl rfl rfl ?_
      -- R53.5 177 := law.go:129 move
      refine WL.v (by first | exact r_move (v := .slice _ _ _) rfl | exact r_move rfl) rfl rfl rfl ?_
      -- R53.6 178 := law.go:129 call
      refine WL.v (by exact r_len ty_usl28 rfl) rfl rfl rfl ?_
      -- R53.7 179 := law.go:129 binOp
      refine WL.v (by first | exact r_neq rfl rfl (decide_eq_true (by omega)) | exact r_neq rfl rfl (decide_eq_false (by omega)) | exact r_neq rfl rfl rfl) rfl rfl rfl ?_
      -- R53.8 180 := law.go:129 pick
      refine WL.v (by first | exact r_pickT (v := .bool _) rfl rfl | exact r_pickF (v := .bool _) rfl rfl) rfl rfl rfl ?_
      refine WL.fin hK453 (fun _ _ h => h) ?_
      refine WC.condF rfl rfl ?_
      refine WC.skipF hK452 (fun _ _ h => h) ?_
      refine WC.seq fun K454 hK454 => ?_
      refine WC.seq fun K455 hK455 => ?_
      -- region 55
      refine WC.region ?_
      -- R55.0 181 := law.go:132 move
      refine WL.v (by first | exact r_move (v := .slice _ _ _) rfl | exact r_move rfl) rfl rfl rfl ?_
      -- R55.1 182 := law.go:132 call
      refine WL.v (by exact r_len ty_usl61 rfl) rfl rfl rfl ?_
      -- R55.2 183 := law.go:132 move
      refine WL.v (by first | exact r_move (v := .int _ _) rfl | exact r_move rfl) rfl rfl rfl ?_
      refine WL.fin hK455 (fun _ _ h => h) ?_
      refine WC.block ?_
      have hI : ∀ t, t < m → og (0 + t * 2) = .string (Tm t) ∧ og (0 + t * 2 + 1) = .slice (some ⟨gb t, 0, none⟩) (q t) (gc t) ∧ Out (ln (src t)) (X (src t)) (A t) (q t) (S t) ∧ GIs w0 (fun _ => False) its (gb t) (q t) (S t) (A t) := hI
      have st := st_mapF2 st
      have hsI : its ⊆ ((ob, Row 65 (m * 2) og) :: (cb, Row 27 513 F2) :: (FI2 ++ (its ++ XI))) := fun x hx => by simp [hx]
      have hsX : XI ⊆ ((ob, Row 65 (m * 2) og) :: (cb, Row 27 513 F2) :: (FI2 ++ (its ++ XI))) := fun x hx => by simp [hx]
      have hsO : (ob, Row 65 (m * 2) og) ∈ ((ob, Row 65 (m * 2) og) :: (cb, Row 27 513 F2) :: (FI2 ++ (its ++ XI))) := by simp
      generalize hR : ((ob, Row 65 (m * 2) og) :: (cb, Row 27 513 F2) :: (FI2 ++ (its ++ XI))) = R at st hsI hsX hsO
      have hout0 : Outs G (fun x : Nat × Nat => kv3 (Tm x.1) (A x.1 x.2)) (fun x => x.1 < m ∧ x.2 < ln (src x.1)) (fun x => x.1 < 0) := (hins.outs (K' := fun x : Nat × Nat => kv3 (Tm x.1) (A x.1 x.2)) (E := fun x => x.1 < m ∧ x.2 < ln (src x.1)) (fun x hx => by
          obtain ⟨j, hj, he⟩ := perm_of (hI x.1 hx.1).2.2.1.perm hx.2
          exact ⟨(x.1, j), ⟨hx.1, hj⟩, by unfold K3; rw [he]⟩) (fun x hx => by
          obtain ⟨p, hp, he⟩ := perm_of (hI x.1 hx.1).2.2.1.perm.symm hx.2
          exact ⟨(x.1, p), ⟨hx.1, hp⟩, by unfold K3; rw [he]⟩)).congr fun x => by simp
      refine WC.loop (ι := Nat × (Value → Option Value)) (fun z => [(4, .slice xa m xcap), (5, .map (some b39)), (181, .slice (some ⟨ob, 0, none⟩) m m), (182, .int .i64 (m : Nat)), (183, .int .i64 (z.1 : Nat))])
        (fun z w' => St w0 (fun _ => False) ((b39, MapV (keyGood Tryf.prog 60) z.2) :: R) w' ∧ z.1 ≤ m ∧ Outs z.2 (fun x : Nat × Nat => kv3 (Tm x.1) (A x.1 x.2)) (fun x => x.1 < m ∧ x.2 < ln (src x.1)) (fun x => x.1 < z.1)) (fun z => m - z.1) (0, G) ⟨st, Nat.zero_le _, hout0⟩ ?_ ?_
      · skip
        repeat (first | exact sub_nil _ | refine sub_cons rfl rfl ?_)
      clear hout0 hins
      rintro ⟨t, G⟩ w ⟨st, ht, hout⟩ KT hKT
      simp only at st ht hout hKT ⊢
      by_cases htl : t < m
      · obtain rfl := hxa (by omega)
        obtain ⟨og1, og2, hO, db, dcf, hGA⟩ := hI t htl
        obtain ⟨hsr, hl1, hok, _, _⟩ := hix t htl
        have hlN := hlen (src t) hsr
        have hql := Out.q_le hO
        have hAin := perm_inj hO.perm hok.inj
        have hdl : ∀ u, u < q t → 0 < S t (u + 1) - S t u ∧ S t (u + 1) - S t u ≤ 1000000000 := fun u hu => by
          have h1 := hO.lt u hu
          have h2 := S_le hO.lt (u + 1) (q t) (by omega) (Nat.le_refl _)
          rw [hO.sq] at h2; omega
        have hdoc : ∀ u, u < q t → ∀ j, 0 < j → j < S t (u + 1) - S t u → (A t (S t u + (j - 1))).1 < (A t (S t u + j)).1 := fun u hu j h0 hj => by
          have := hO.rise u hu (S t u + (j - 1)) (by omega) (by omega)
          rwa [show S t u + (j - 1) + 1 = S t u + j by omega] at this
        have ho1 : ∀ l w', St w0 (fun _ => False) l w' → R ⊆ l → w'.cell? ⟨ob, 0 + t * 2, none⟩ = some (.string (Tm t)) := fun l w' s h => (s.cell (h hsO) (by omega)).trans (congrArg some og1)
        have ho2 : ∀ l w', St w0 (fun _ => False) l w' → R ⊆ l → w'.cell? ⟨ob, 0 + t * 2 + 1, none⟩ = some (.slice (some ⟨gb t, 0, none⟩) (q t) (gc t)) := fun l w' s h => (s.cell (h hsO) (by omega)).trans (congrArg some og2)
        refine WC.seq fun K456 hK456 => ?_
        -- region 56
        refine WC.region ?_
        -- R56.0 184 := law.go:132 binOp
        refine WL.v (by first | exact r_lss rfl rfl (decide_eq_true (by omega)) | exact r_lss rfl rfl (decide_eq_false (by omega)) | exact r_lss rfl rfl rfl) rfl rfl rfl ?_
        refine WL.fin hK456 (fun _ _ h => h) ?_
        refine WC.seq fun K457 hK457 => ?_
        refine WC.condT rfl rfl ?_
        refine WC.skipF hK457 (fun _ _ h => h) ?_
        refine WC.seq fun K458 hK458 => ?_
        refine WC.block ?_
        refine WC.seq fun K459 hK459 => ?_
        -- region 57
        refine WC.region ?_
        -- R57.0 185 := law.go:132 move
        refine WL.v (by first | exact r_move (v := .int _ _) rfl | exact r_move rfl) rfl rfl rfl ?_
        -- R57.1 186 := law.go:132 indexAddr
        refine WL.v (by exact r_indexS ty_sl61 rfl rfl rfl (by omega)) rfl rfl rfl ?_
        -- R57.2 187 := law.go:132 load
        refine WL.v (by exact r_loadL (vs := [_, _]) ty_agg65 rfl ⟨(ho1 _ _ st (fun x hx => by simp [hx])), (ho2 _ _ st (fun x hx => by simp [hx])), trivial⟩) rfl rfl rfl ?_
        -- R57.3 29 := law.go:132 alloc
        refine WL.alloc st ty_zero65 rfl rfl rfl ?_
        intro b29 w st
        -- R57.4 28 := law.go:132 assign
        refine WL.v (by first | exact r_assign (v := .int _ _) rfl | exact r_assign rfl) rfl rfl rfl ?_
        -- R57.5 None := law.go:132 store
        first | refine WL.storeW (vs := [_, _]) st ty_agg65 rfl rfl rfl rfl rfl rfl ?_ | refine WL.storeL (vs := [_, _]) st ty_agg65 rfl rfl rfl rfl (by first | decide | omega) rfl rfl ?_ | refine WL.storeW (vs := [_, _]) st.front1 ty_agg65 rfl rfl rfl rfl rfl rfl ?_ | refine WL.storeL (vs := [_, _]) st.front1 ty_agg65 rfl rfl rfl rfl (by first | decide | omega) rfl rfl ?_ | refine WL.storeW (vs := [_, _]) st.front2 ty_agg65 rfl rfl rfl rfl rfl rfl ?_ | refine WL.storeL (vs := [_, _]) st.front2 ty_agg65 rfl rfl rfl rfl (by first | decide | omega) rfl rfl ?_ | refine WL.storeW (vs := [_, _]) st.front3 ty_agg65 rfl rfl rfl rfl rfl rfl ?_ | refine WL.storeL (vs := [_, _]) st.front3 ty_agg65 rfl rfl rfl rfl (by first | decide | omega) rfl rfl ?_ | refine WL.storeW (vs := [_, _]) st.front4 ty_agg65 rfl rfl rfl rfl rfl rfl ?_ | refine WL.storeL (vs := [_, _]) st.front4 ty_agg65 rfl rfl rfl rfl (by first | decide | omega) rfl rfl ?_ | refine WL.storeW (vs := [_, _]) st.front5 ty_agg65 rfl rfl rfl rfl rfl rfl ?_ | refine WL.storeL (vs := [_, _]) st.front5 ty_agg65 rfl rfl rfl rfl (by first | decide | omega) rfl rfl ?_ | refine WL.storeW (vs := [_, _]) st.front6 ty_agg65 rfl rfl rfl rfl rfl rfl ?_ | refine WL.storeL (vs := [_, _]) st.front6 ty_agg65 rfl rfl rfl rfl (by first | decide | omega) rfl rfl ?_ | refine WL.storeW (vs := [_, _]) st.front7 ty_agg65 rfl rfl rfl rfl rfl rfl ?_ | refine WL.storeL (vs := [_, _]) st.front7 ty_agg65 rfl rfl rfl rfl (by first | decide | omega) rfl rfl ?_ | refine WL.storeW (vs := [_, _]) st.front8 ty_agg65 rfl rfl rfl rfl rfl rfl ?_ | refine WL.storeL (vs := [_, _]) st.front8 ty_agg65 rfl rfl rfl rfl (by first | decide | omega) rfl rfl ?_
        intro w st
        refine WL.fin hK459 (fun _ _ h => h) ?_
        refine WC.seq fun K460 hK460 => ?_
        refine WC.seq fun K461 hK461 => ?_
        -- region 58 (draws)
        refine WC.quietS st ty_mixed (by kernel_rfl) fun Kq hKq => ?_
        -- R58.0 188 := law.go:133 fieldAddr
        refine QL.v (fun w st => by exact r_field ty_fld65_0 rfl) rfl rfl rfl ?_
        -- R58.1 189 := law.go:133 load
        refine QL.v (fun w st => by exact r_load1 ty_one9 rfl (by first | assumption | exact st.c0 (by first | decide | omega) | exact st.c1 (by first | decide | omega) | exact st.c2 (by first | decide | omega) | exact st.c3 (by first | decide | omega) | exact st.c4 (by first | decide | omega) | exact st.c5 (by first | decide | omega) | exact st.c6 (by first | decide | omega) | exact st.c7 (by first | decide | omega) | exact st.c8 (by first | decide | omega))) rfl rfl rfl ?_
        -- R58.2 190 := law.go:133 move
        refine QL.v (fun w st => by first | exact r_move (v := .slice _ _ _) rfl | exact r_move rfl) rfl rfl rfl ?_
        -- R58.3 191 := law.go:133 move
        refine QL.v (fun w st => by first | exact r_move (v := .int _ _) rfl | exact r_move rfl) rfl rfl rfl ?_
        -- R58.4 192 := law.go:133 indexAddr
        refine QL.v (fun w st => by exact r_indexS ty_sl28 rfl rfl rfl (by omega)) rfl rfl rfl ?_
        -- R58.5 193 := law.go:133 fieldAddr
        refine QL.v (fun w st => by exact r_field ty_fld58_0 rfl) rfl rfl rfl ?_
        -- R58.6 194 := law.go:133 load
        refine QL.v (fun w st => by exact r_load1 ty_one9 rfl ((hixr _ _ st (fun x hx => by simp [hsX hx]) t htl).1)) rfl rfl rfl ?_
        -- R58.7 195 := law.go:133 binOp
        refine QL.v (fun w st => by exact r_sneq (t := false) rfl rfl (by simp)) rfl rfl rfl ?_
        -- R58.8 196 := law.go:133 move
        refine QL.v (fun w st => by first | exact r_move (v := .bool _) rfl | exact r_move rfl) rfl rfl rfl ?_
        -- R58.9 197 := law.go:133 fieldAddr
        refine QL.v (fun w st => by exact r_field ty_fld65_1 rfl) rfl rfl rfl ?_
        -- R58.10 198 := law.go:133 load
        refine QL.v (fun w st => by exact r_load1 ty_one39 rfl (by first | assumption | exact st.c0 (by first | decide | omega) | exact st.c1 (by first | decide | omega) | exact st.c2 (by first | decide | omega) | exact st.c3 (by first | decide | omega) | exact st.c4 (by first | decide | omega) | exact st.c5 (by first | decide | omega) | exact st.c6 (by first | decide | omega) | exact st.c7 (by first | decide | omega) | exact st.c8 (by first | decide | omega))) rfl rfl rfl ?_
        -- R58.11 199 := law.go:133 call
        refine QL.call (val := .bool true) (fun w st => r_call ty_call6 rfl) rfl rfl rfl (fun w st => impactOrdered_ok (some ⟨gb t, 0, none⟩) (gb t) 0 (q t) (gc t) (fun u => (A t (S t u)).2) (fun _ => db) (S t) (fun u => S t (u + 1) - S t u) dcf (fun u j => (A t (S t u + j)).1) (by omega) hdl (fun _ => rfl)
          (fun its' w' s => hGA _ w' s (fun x hx => by simp [hsI hx])) (fun u hu h0 => hO.fall u h0 hu) hdoc st) ?_
        -- R58.12 200 := law.go:133 unOp
        refine QL.v (fun w st => by first | exact r_notT rfl | exact r_notF rfl | exact r_not rfl) rfl rfl rfl ?_
        -- R58.13 201 := law.go:133 pick
        refine QL.v (fun w st => by first | exact r_pickT (v := .bool _) rfl rfl | exact r_pickF (v := .bool _) rfl rfl) rfl rfl rfl ?_
        refine QL.wl hKq fun w st => ?_
        refine WL.fin hK461 (fun _ _ h => h) ?_
        refine WC.condF rfl rfl ?_
        refine WC.skipF hK460 (fun _ _ h => h) ?_
        refine WC.seq fun K462 hK462 => ?_
        -- region 60
        refine WC.region ?_
        -- R60.0 202 := law.go:136 fieldAddr
        refine WL.v (by exact r_field ty_fld65_1 rfl) rfl rfl rfl ?_
        -- R60.1 203 := law.go:136 load
        refine WL.v (by exact r_load1 ty_one39 rfl (by first | assumption | exact st.c0 (by first | decide | omega) | exact st.c1 (by first | decide | omega) | exact st.c2 (by first | decide | omega) | exact st.c3 (by first | decide | omega) | exact st.c4 (by first | decide | omega) | exact st.c5 (by first | decide | omega) | exact st.c6 (by first | decide | omega) | exact st.c7 (by first | decide | omega) | exact st.c8 (by first | decide | omega))) rfl rfl rfl ?_
        -- R60.2 204 := law.go:136 call
        refine WL.v (by exact r_len ty_usl39 rfl) rfl rfl rfl ?_
        -- R60.3 205 := law.go:136 move
        refine WL.v (by first | exact r_move (v := .int _ _) rfl | exact r_move rfl) rfl rfl rfl ?_
        refine WL.fin hK462 (fun _ _ h => h) ?_
        refine WC.block ?_
        refine WC.loop (ι := Nat × (Value → Option Value)) (fun z => [(4, .slice (some ⟨xb, 0, none⟩) m xcap), (5, .map (some b39)), (29, .pointer (some ⟨b29, 0, none⟩)), (181, .slice (some ⟨ob, 0, none⟩) m m), (182, .int .i64 (m : Nat)), (183, .int .i64 (t : Nat)),
            (203, .slice (some ⟨gb t, 0, none⟩) (q t) (gc t)), (204, .int .i64 (q t : Nat)), (205, .int .i64 (z.1 : Nat))])
          (fun z w' => St w0 (fun _ => False) ((b29, Row 65 2 (nth [.string (Tm t), .slice (some ⟨gb t, 0, none⟩) (q t) (gc t)])) :: (b39, MapV (keyGood Tryf.prog 60) z.2) :: R) w' ∧ z.1 ≤ q t ∧
            Outs z.2 (fun x : Nat × Nat => kv3 (Tm x.1) (A x.1 x.2)) (fun x => x.1 < m ∧ x.2 < ln (src x.1)) (fun x => x.1 < t ∨ (x.1 = t ∧ x.2 < S t z.1))) (fun z => q t - z.1) (0, G)
          ⟨st, Nat.zero_le _, hout.congr fun x => by show x.1 < t ↔ x.1 < t ∨ (x.1 = t ∧ x.2 < S t 0); rw [hO.s0]; omega⟩ ?_ ?_
        · skip
          repeat (first | exact sub_nil _ | refine sub_cons rfl rfl ?_)
        clear hout
        rintro ⟨gI, G⟩ w ⟨st, hgq, hout⟩ KG hKG
        simp only at st hgq hout hKG ⊢
        by_cases hgl : gI < q t
        · have hg1 : ∀ l w', St w0 (fun _ => False) l w' → its ⊆ l → w'.cell? ⟨gb t, 0 + gI * 2, none⟩ = some (.int .u8 (A t (S t gI)).2) := fun l w' s h => (hGA l w' s h gI hgl).1
          have hg2 : ∀ l w', St w0 (fun _ => False) l w' → its ⊆ l → w'.cell? ⟨gb t, 0 + gI * 2 + 1, none⟩ = some (.slice (some ⟨db, S t gI, none⟩) (S t (gI + 1) - S t gI) (dcf gI)) := fun l w' s h => (hGA l w' s h gI hgl).2.1
          have hg3 : ∀ l w', St w0 (fun _ => False) l w' → its ⊆ l → ∀ j, j < S t (gI + 1) - S t gI → w'.cell? ⟨db, S t gI + j * 1, none⟩ = some (.int .u32 (A t (S t gI + j)).1) := fun l w' s h => (hGA l w' s h gI hgl).2.2
          have hlt1 := hO.lt gI hgl
          have hle1 := S_le hO.lt (gI + 1) (q t) (by omega) (Nat.le_refl _)
          rw [hO.sq] at hle1
          refine WC.seq fun K463 hK463 => ?_
          -- region 61
          refine WC.region ?_
          -- R61.0 206 := law.go:136 binOp
          refine WL.v (by first | exact r_lss rfl rfl (decide_eq_true (by omega)) | exact r_lss rfl rfl (decide_eq_false (by omega)) | exact r_lss rfl rfl rfl) rfl rfl rfl ?_
          refine WL.fin hK463 (fun _ _ h => h) ?_
          refine WC.seq fun K464 hK464 => ?_
          refine WC.condT rfl rfl ?_
          refine WC.skipF hK464 (fun _ _ h => h) ?_
          refine WC.seq fun K465 hK465 => ?_
          refine WC.block ?_
          refine WC.seq fun K466 hK466 => ?_
          -- region 62
          refine WC.region ?_
          -- R62.0 207 := law.go:136 indexAddr
          refine WL.v (by exact r_indexS ty_sl39 rfl rfl rfl (by omega)) rfl rfl rfl ?_
          -- R62.1 208 := law.go:136 load
          refine WL.v (by exact r_loadL (vs := [_, _]) ty_agg55 rfl ⟨(hg1 _ _ st (fun x hx => by simp [hsI hx])), (hg2 _ _ st (fun x hx => by simp [hsI hx])), trivial⟩) rfl rfl rfl ?_
          -- R62.2 31 := law.go:136 alloc
          refine WL.alloc st ty_zero55 rfl rfl rfl ?_
          intro b31 w st
          -- R62.3 None := law.go:136 store
          first | refine WL.storeW (vs := [_, _]) st ty_agg55 rfl rfl rfl rfl rfl rfl ?_ | refine WL.storeL (vs := [_, _]) st ty_agg55 rfl rfl rfl rfl (by first | decide | omega) rfl rfl ?_ | refine WL.storeW (vs := [_, _]) st.front1 ty_agg55 rfl rfl rfl rfl rfl rfl ?_ | refine WL.storeL (vs := [_, _]) st.front1 ty_agg55 rfl rfl rfl rfl (by first | decide | omega) rfl rfl ?_ | refine WL.storeW (vs := [_, _]) st.front2 ty_agg55 rfl rfl rfl rfl rfl rfl ?_ | refine WL.storeL (vs := [_, _]) st.front2 ty_agg55 rfl rfl rfl rfl (by first | decide | omega) rfl rfl ?_ | refine WL.storeW (vs := [_, _]) st.front3 ty_agg55 rfl rfl rfl rfl rfl rfl ?_ | refine WL.storeL (vs := [_, _]) st.front3 ty_agg55 rfl rfl rfl rfl (by first | decide | omega) rfl rfl ?_ | refine WL.storeW (vs := [_, _]) st.front4 ty_agg55 rfl rfl rfl rfl rfl rfl ?_ | refine WL.storeL (vs := [_, _]) st.front4 ty_agg55 rfl rfl rfl rfl (by first | decide | omega) rfl rfl ?_ | refine WL.storeW (vs := [_, _]) st.front5 ty_agg55 rfl rfl rfl rfl rfl rfl ?_ | refine WL.storeL (vs := [_, _]) st.front5 ty_agg55 rfl rfl rfl rfl (by first | decide | omega) rfl rfl ?_ | refine WL.storeW (vs := [_, _]) st.front6 ty_agg55 rfl rfl rfl rfl rfl rfl ?_ | refine WL.storeL (vs := [_, _]) st.front6 ty_agg55 rfl rfl rfl rfl (by first | decide | omega) rfl rfl ?_ | refine WL.storeW (vs := [_, _]) st.front7 ty_agg55 rfl rfl rfl rfl rfl rfl ?_ | refine WL.storeL (vs := [_, _]) st.front7 ty_agg55 rfl rfl rfl rfl (by first | decide | omega) rfl rfl ?_ | refine WL.storeW (vs := [_, _]) st.front8 ty_agg55 rfl rfl rfl rfl rfl rfl ?_ | refine WL.storeL (vs := [_, _]) st.front8 ty_agg55 rfl rfl rfl rfl (by first | decide | omega) rfl rfl ?_
          intro w st
          refine WL.fin hK466 (fun _ _ h => h) ?_
          refine WC.seq fun K467 hK467 => ?_
          -- region 63
          refine WC.region ?_
          -- R63.0 209 := law.go:137 fieldAddr
          refine WL.v (by exact r_field ty_fld55_1 rfl) rfl rfl rfl ?_
          -- R63.1 210 := law.go:137 load
          refine WL.v (by exact r_load1 ty_one53 rfl (by first | assumption | exact st.c0 (by first | decide | omega) | exact st.c1 (by first | decide | omega) | exact st.c2 (by first | decide | omega) | exact st.c3 (by first | decide | omega) | exact st.c4 (by first | decide | omega) | exact st.c5 (by first | decide | omega) | exact st.c6 (by first | decide | omega) | exact st.c7 (by first | decide | omega) | exact st.c8 (by first | decide | omega))) rfl rfl rfl ?_
          -- R63.2 211 := law.go:137 call
          refine WL.v (by exact r_len ty_usl53 rfl) rfl rfl rfl ?_
          -- R63.3 212 := law.go:137 move
          refine WL.v (by first | exact r_move (v := .int _ _) rfl | exact r_move rfl) rfl rfl rfl ?_
          refine WL.fin hK467 (fun _ _ h => h) ?_
          refine WC.block ?_
          refine WC.loop (ι := Nat × (Value → Option Value)) (fun z => [(4, .slice (some ⟨xb, 0, none⟩) m xcap), (5, .map (some b39)), (29, .pointer (some ⟨b29, 0, none⟩)), (31, .pointer (some ⟨b31, 0, none⟩)), (181, .slice (some ⟨ob, 0, none⟩) m m), (182, .int .i64 (m : Nat)), (183, .int .i64 (t : Nat)),
              (203, .slice (some ⟨gb t, 0, none⟩) (q t) (gc t)), (204, .int .i64 (q t : Nat)), (205, .int .i64 (gI : Nat)), (210, .slice (some ⟨db, S t gI, none⟩) (S t (gI + 1) - S t gI) (dcf gI)), (211, .int .i64 ((S t (gI + 1) - S t gI : Nat) : Int)), (212, .int .i64 (z.1 : Nat))])
            (fun z w' => St w0 (fun _ => False) ((b31, Row 55 2 (nth [.int .u8 (A t (S t gI)).2, .slice (some ⟨db, S t gI, none⟩) (S t (gI + 1) - S t gI) (dcf gI)])) :: (b29, Row 65 2 (nth [.string (Tm t), .slice (some ⟨gb t, 0, none⟩) (q t) (gc t)])) :: (b39, MapV (keyGood Tryf.prog 60) z.2) :: R) w' ∧ z.1 ≤ S t (gI + 1) - S t gI ∧
              Outs z.2 (fun x : Nat × Nat => kv3 (Tm x.1) (A x.1 x.2)) (fun x => x.1 < m ∧ x.2 < ln (src x.1)) (fun x => x.1 < t ∨ (x.1 = t ∧ x.2 < S t gI + z.1))) (fun z => S t (gI + 1) - S t gI - z.1) (0, G) ⟨st, Nat.zero_le _, hout⟩ ?_ ?_
          · skip
            repeat (first | exact sub_nil _ | refine sub_cons rfl rfl ?_)
          clear hout
          rintro ⟨j, G⟩ w ⟨st, hj, hout⟩ KH hKH
          simp only at st hj hout hKH ⊢
          by_cases hjl : j < S t (gI + 1) - S t gI
          · have hp : S t gI + j < ln (src t) := by omega
            have hsame : (A t (S t gI + j)).2 = (A t (S t gI)).2 := hO.same gI hgl (S t gI + j) (by omega) (by omega)
            obtain ⟨jx, hjx, hex⟩ := perm_of hO.perm hp
            have hkg : keyGood Tryf.prog 60 (kv3 (Tm t) (A t (S t gI + j))) := by
              rw [hex]
              exact kv3_good (hT.size t (by omega)) (hL.doc _ hsr jx hjx).1 (hL.doc _ hsr jx hjx).2 (hL.impc _ hsr jx hjx).1 (hL.impc _ hsr jx hjx).2
            have hkey : (Value.agg #[.string (Tm t), .int .u32 (A t (S t gI + j)).1, .int .u8 (A t (S t gI)).2]) = kv3 (Tm t) (A t (S t gI + j)) := by unfold kv3; rw [hsame]
            rw [← hkey] at hkg
            have hat : (G (.agg #[.string (Tm t), .int .u32 (A t (S t gI + j)).1, .int .u8 (A t (S t gI)).2])).getD (.int .i64 0) = .int .i64 1 := by
              rw [hkey]; exact hout.at_ (K := fun x : Nat × Nat => kv3 (Tm x.1) (A x.1 x.2)) (x0 := (t, S t gI + j)) ⟨htl, hp⟩ (by simp only; omega)
            refine WC.seq fun K468 hK468 => ?_
            -- region 64
            refine WC.region ?_
            -- R64.0 213 := law.go:137 binOp
            refine WL.v (by first | exact r_lss rfl rfl (decide_eq_true (by omega)) | exact r_lss rfl rfl (decide_eq_false (by omega)) | exact r_lss rfl rfl rfl) rfl rfl rfl ?_
            refine WL.fin hK468 (fun _ _ h => h) ?_
            refine WC.seq fun K469 hK469 => ?_
            refine WC.condT rfl rfl ?_
            refine WC.skipF hK469 (fun _ _ h => h) ?_
            refine WC.seq fun K470 hK470 => ?_
            refine WC.block ?_
            refine WC.seq fun K471 hK471 => ?_
            -- region 65
            refine WC.region ?_
            -- R65.0 214 := law.go:137 indexAddr
            refine WL.v (by exact r_indexS ty_sl53 rfl rfl rfl (by omega)) rfl rfl rfl ?_
            -- R65.1 215 := law.go:137 load
            refine WL.v (by exact r_load1 ty_one44 rfl (hg3 _ _ st (fun x hx => by simp [hsI hx]) j hjl)) rfl rfl rfl ?_
            -- R65.2 33 := law.go:137 assign
            refine WL.v (by first | exact r_assign (v := .int _ _) rfl | exact r_assign rfl) rfl rfl rfl ?_
            refine WL.fin hK471 (fun _ _ h => h) ?_
            -- region 66 (draws)
            have st := st.front2
            refine WC.heldM (.agg #[.string (Tm t), .int .u32 (A t (S t gI + j)).1, .int .u8 (A t (S t gI)).2]) (.int .i64 0) (.int .i64 1) [11] [0, 1, 2, 3, 4, 5, 6, 7, 8] [9, 10, 11] st hat ty_mixed (by kernel_rfl) fun w st Kq hKq => ?_
            -- R66.0 216 := law.go:138 move
            refine HL.v (fun w hS => by obtain ⟨G', st, hG⟩ := hS; first | exact r_move (v := .map _) rfl | exact r_move rfl) rfl rfl rfl ?_
            -- R66.1 217 := law.go:138 fieldAddr
            refine HL.v (fun w hS => by obtain ⟨G', st, hG⟩ := hS; exact r_field ty_fld65_0 rfl) rfl rfl rfl ?_
            -- R66.2 218 := law.go:138 load
            refine HL.v (fun w hS => by obtain ⟨G', st, hG⟩ := hS; exact r_load1 ty_one9 rfl (by first | assumption | exact st.c0 (by first | decide | omega) | exact st.c1 (by first | decide | omega) | exact st.c2 (by first | decide | omega) | exact st.c3 (by first | decide | omega) | exact st.c4 (by first | decide | omega) | exact st.c5 (by first | decide | omega) | exact st.c6 (by first | decide | omega) | exact st.c7 (by first | decide | omega) | exact st.c8 (by first | decide | omega))) rfl rfl rfl ?_
            -- R66.3 219 := law.go:138 move
            refine HL.v (fun w hS => by obtain ⟨G', st, hG⟩ := hS; first | exact r_move (v := .int _ _) rfl | exact r_move rfl) rfl rfl rfl ?_
            -- R66.4 220 := law.go:138 fieldAddr
            refine HL.v (fun w hS => by obtain ⟨G', st, hG⟩ := hS; exact r_field ty_fld55_0 rfl) rfl rfl rfl ?_
            -- R66.5 221 := law.go:138 load
            refine HL.v (fun w hS => by obtain ⟨G', st, hG⟩ := hS; exact r_load1 ty_one5 rfl (by first | assumption | exact st.c0 (by first | decide | omega) | exact st.c1 (by first | decide | omega) | exact st.c2 (by first | decide | omega) | exact st.c3 (by first | decide | omega) | exact st.c4 (by first | decide | omega) | exact st.c5 (by first | decide | omega) | exact st.c6 (by first | decide | omega) | exact st.c7 (by first | decide | omega) | exact st.c8 (by first | decide | omega))) rfl rfl rfl ?_
            -- R66.6 222 := law.go:138 build
            refine HL.v (fun w hS => by obtain ⟨G', st, hG⟩ := hS; first | exact r_build (vs := [.string _, .int _ _, .int _ _]) ty_pl60 ty_zero60 rfl rfl | exact r_build (vs := [_, _, _]) ty_pl60 ty_zero60 rfl rfl | exact r_build ty_pl60 ty_zero60 rfl rfl) rfl rfl rfl ?_
            -- R66.7 223 := law.go:138 lookup
            refine HL.v (fun w hS => by obtain ⟨G', st, hG⟩ := hS; exact r_look ty_kb60 ty_mp29 ty_z13 rfl rfl st (by simp) hkg hG) rfl rfl rfl ?_
            -- R66.8 224 := law.go:138 binOp
            refine HL.v (fun w hS => by obtain ⟨G', st, hG⟩ := hS; exact r_sub (r := 0) rfl rfl (by rw [wi64 (by omega) (by omega)]; rfl)) rfl rfl rfl ?_
            refine HL.fin hKq ?_
            refine TL.at ?_
            refine WL.mapEntry (key := .agg #[.string (Tm t), .int .u32 (A t (S t gI + j)).1, .int .u8 (A t (S t gI)).2]) ty_kb60 st ty_mp29 ty_z13 rfl rfl hkg rfl rfl rfl ?_
            intro v0 stp w G1 hS1 st hE
            refine TL.nxt ⟨_, st, by rw [hS1.1]; exact hat⟩ ?_
            refine TL.at ?_
            -- R66.10 226 := law.go:138 extract
            refine WL.v (by first | exact r_extract (v := .int _ _) rfl rfl | exact r_extract rfl rfl) rfl rfl rfl ?_
            refine TL.nxt ⟨_, st, by rw [hS1.1]; exact hat⟩ ?_
            refine TL.at ?_
            refine WL.entryStore hE rfl rfl rfl rfl rfl ?_
            intro Gn w hS st
            refine TL.nxt' rfl ?_
            refine TL.wl ?_
            refine WL.fin hK470 (fun _ _ h => h) ?_
            -- region 67
            refine WC.region ?_
            -- R67.0 227 := law.go:137 binOp
            refine WL.v (by first | exact r_add rfl rfl (wi64 (by omega) (by omega)) | exact r_add rfl rfl rfl) rfl rfl rfl ?_
            -- R67.1 212 := law.go:137 move
            refine WL.v (by first | exact r_move (v := .int _ _) rfl | exact r_move rfl) rfl rfl rfl ?_
            have hS' : SetG G (kv3 (Tm t) (A t (S t gI + j))) (.int .i64 0) Gn := by rw [← hkey]; exact hS
            refine WL.next hKH (fun _ _ h => h) (j + 1, Gn) ⟨st.back2, by show j + 1 ≤ S t (gI + 1) - S t gI; omega, hout.set (x0 := (t, S t gI + j)) ⟨htl, hp⟩ (fun x hx he => ?_) hS' (fun x hx => ?_)⟩ (by show S t (gI + 1) - S t gI - (j + 1) < S t (gI + 1) - S t gI - j; omega) (by repeat (first | exact sub_nil _ | refine sub_cons rfl rfl ?_))
            · obtain ⟨x1, x2⟩ := x
              obtain ⟨h1, h2⟩ := kv3_inj he
              simp only at h1 h2 hx
              have h3 := hT.inj x1 t (by omega) (by omega) h1
              subst h3
              rw [hAin x2 _ hx.2 hp h2]
            · obtain ⟨x1, x2⟩ := x
              simp only [Prod.mk.injEq]
              omega
          refine WC.seq fun K472 hK472 => ?_
          -- region 64
          refine WC.region ?_
          -- R64.0 213 := law.go:137 binOp
          refine WL.v (by first | exact r_lss rfl rfl (decide_eq_true (by omega)) | exact r_lss rfl rfl (decide_eq_false (by omega)) | exact r_lss rfl rfl rfl) rfl rfl rfl ?_
          refine WL.fin hK472 (fun _ _ h => h) ?_
          refine WC.seq fun K473 hK473 => ?_
          refine WC.condF rfl rfl ?_
          refine WC.exitF hK465 (fun _ _ h => h) ?_
          -- region 68
          refine WC.region ?_
          -- R68.0 228 := law.go:136 binOp
          refine WL.v (by first | exact r_add rfl rfl (wi64 (by omega) (by omega)) | exact r_add rfl rfl rfl) rfl rfl rfl ?_
          -- R68.1 205 := law.go:136 move
          refine WL.v (by first | exact r_move (v := .int _ _) rfl | exact r_move rfl) rfl rfl rfl ?_
          refine WL.next hKG (fun _ _ h => h) (gI + 1, G) ⟨st.drop, by show gI + 1 ≤ q t; omega, hout.congr fun x => by show _ ∨ (x.1 = t ∧ x.2 < S t gI + j) ↔ _ ∨ (x.1 = t ∧ x.2 < S t (gI + 1)); rw [show S t gI + j = S t (gI + 1) by omega]⟩ (by show q t - (gI + 1) < q t - gI; omega) (by repeat (first | exact sub_nil _ | refine sub_cons rfl rfl ?_))
        have hge : gI = q t := by omega
        refine WC.seq fun K474 hK474 => ?_
        -- region 61
        refine WC.region ?_
        -- R61.0 206 := law.go:136 binOp
        refine WL.v (by first | exact r_lss rfl rfl (decide_eq_true (by omega)) | exact r_lss rfl rfl (decide_eq_false (by omega)) | exact r_lss rfl rfl rfl) rfl rfl rfl ?_
        refine WL.fin hK474 (fun _ _ h => h) ?_
        refine WC.seq fun K475 hK475 => ?_
        refine WC.condF rfl rfl ?_
        refine WC.exitF hK458 (fun _ _ h => h) ?_
        -- region 69
        refine WC.region ?_
        -- R69.0 229 := law.go:132 binOp
        refine WL.v (by first | exact r_add rfl rfl (wi64 (by omega) (by omega)) | exact r_add rfl rfl rfl) rfl rfl rfl ?_
        -- R69.1 183 := law.go:132 move
        refine WL.v (by first | exact r_move (v := .int _ _) rfl | exact r_move rfl) rfl rfl rfl ?_
        refine WL.next hKT (fun _ _ h => h) (t + 1, G) ⟨st.drop, by show t + 1 ≤ m; omega, ⟨fun x hx hd => ?_, fun x hx hd => hout.left x hx (fun h => hd (by show x.1 < t + 1; omega)), hout.only⟩⟩ (by show m - (t + 1) < m - t; omega) (by repeat (first | exact sub_nil _ | refine sub_cons rfl rfl ?_))
        refine hout.gone x hx ?_
        have hd : x.1 < t + 1 := hd
        rw [hge, hO.sq]
        by_cases hx1 : x.1 = t
        · refine .inr ⟨hx1, ?_⟩
          have := hx.2
          rwa [hx1] at this
        · exact .inl (by omega)
      have hte : t = m := by omega
      refine WC.seq fun K476 hK476 => ?_
      -- region 56
      refine WC.region ?_
      -- R56.0 184 := law.go:132 binOp
      refine WL.v (by first | exact r_lss rfl rfl (decide_eq_true (by omega)) | exact r_lss rfl rfl (decide_eq_false (by omega)) | exact r_lss rfl rfl rfl) rfl rfl rfl ?_
      refine WL.fin hK476 (fun _ _ h => h) ?_
      refine WC.seq fun K477 hK477 => ?_
      refine WC.condF rfl rfl ?_
      refine WC.exitF hK454 (fun _ _ h => h) ?_
      refine WC.seq fun K478 hK478 => ?_
      refine WC.seq fun K479 hK479 => ?_
      -- region 70
      refine WC.region ?_
      -- R70.0 230 := law.go:142 move
      refine WL.v (by first | exact r_move (v := .map _) rfl | exact r_move rfl) rfl rfl rfl ?_
      -- R70.1 231 := law.go:142 range
      refine WL.range st ty_mp29 rfl rfl rfl rfl ?_
      intro es clock rb w hE st
      refine WL.fin hK479 (fun _ _ h => h) ?_
      refine WC.block ?_
      have hz0 : ∀ x, x ∈ es.toList → x.val = .int .i64 0 := fun x hx => hout.done (fun p hp => by have := hp.1; show p.1 < t; omega) (hE.holds x hx).2
      refine WC.loop (ι := Array Nat) (fun seen => [(231, .pointer (some ⟨rb, 0, none⟩))]) (fun seen w' => St w0 (fun _ => False) ((rb, Is (.mapIter (some b39) clock seen clock)) :: (b39, Is (.map es clock)) :: R) w') (fun seen => unseen es seen) #[] st ?_ ?_
      · skip
        repeat (first | exact sub_nil _ | refine sub_cons rfl rfl ?_)
      rintro seen w st KR hKR
      rcases run_mnext (P := Tryf.prog) (ty := 0) hE st with ⟨hall, hr⟩ | ⟨x, hx, hseen, w1, hr, st1⟩
      rotate_left
      · skip
        refine WC.seq fun K480 hK480 => ?_
        -- region 71
        refine WC.region ?_
        -- R71.0 232 := law.go:142 next
        refine WL.v (v := .tuple #[.bool true, x.key, x.val]) (w' := w1) (r_next rfl hr) rfl rfl rfl ?_
        have st := st1
        -- R71.1 233 := law.go:142 extract
        refine WL.v (by first | exact r_extract (v := .bool _) rfl rfl | exact r_extract rfl rfl) rfl rfl rfl ?_
        refine WL.fin hK480 (fun _ _ h => h) ?_
        refine WC.seq fun K481 hK481 => ?_
        refine WC.condT rfl rfl ?_
        refine WC.skipF hK481 (fun _ _ h => h) ?_
        refine WC.block ?_
        refine WC.seq fun K482 hK482 => ?_
        -- region 72
        refine WC.region ?_
        -- R72.0 234 := law.go:142 entry
        refine WL.v (by exact r_mentry hE hx st rfl) rfl rfl rfl ?_
        -- R72.1 235 := law.go:142 extract
        refine WL.v (v := .int .i64 0) (r_extract rfl (congrArg some (hz0 x hx))) rfl rfl rfl ?_
        -- R72.2 35 := law.go:142 assign
        refine WL.v (by first | exact r_assign (v := .int _ _) rfl | exact r_assign rfl) rfl rfl rfl ?_
        refine WL.fin hK482 (fun _ _ h => h) ?_
        refine WC.seq fun K483 hK483 => ?_
        -- region 73
        refine WC.region ?_
        -- R73.0 236 := law.go:143 move
        refine WL.v (by first | exact r_move (v := .int _ _) rfl | exact r_move rfl) rfl rfl rfl ?_
        -- R73.1 237 := law.go:143 binOp
        refine WL.v (by first | exact r_neq rfl rfl (decide_eq_true (by omega)) | exact r_neq rfl rfl (decide_eq_false (by omega)) | exact r_neq rfl rfl rfl) rfl rfl rfl ?_
        refine WL.fin hK483 (fun _ _ h => h) ?_
        refine WC.condF rfl rfl ?_
        refine WC.skipN hKR (fun _ _ h => h) (seen.push x.born) st (unseen_push hx hseen) (by repeat (first | exact sub_nil _ | refine sub_cons rfl rfl ?_))
      refine WC.seq fun K484 hK484 => ?_
      -- region 71
      refine WC.region ?_
      -- R71.0 232 := law.go:142 next
      refine WL.v (v := .tuple #[.bool false]) (w' := w) (r_next rfl hr) rfl rfl rfl ?_
      -- R71.1 233 := law.go:142 extract
      refine WL.v (by first | exact r_extract (v := .bool _) rfl rfl | exact r_extract rfl rfl) rfl rfl rfl ?_
      refine WL.fin hK484 (fun _ _ h => h) ?_
      refine WC.seq fun K485 hK485 => ?_
      refine WC.condF rfl rfl ?_
      refine WC.exitF hK478 (fun _ _ h => h) ?_
      refine WC.seq fun K486 hK486 => ?_
      -- region 75
      refine WC.region ?_
      -- R75.0 2 := law.go:147 assign
      refine WL.v (by first | exact r_assign (v := .bool _) rfl | exact r_assign rfl) rfl rfl rfl ?_
      refine WL.fin hK486 (fun _ _ h => h) ?_
      refine WC.ret1 Tryf.results3 (fun _ _ h => h) rfl ?_
      exact ⟨_, rfl, rfl, st_none st⟩
  rw [← hw0]
  rw [← hw0] at goal
  exact goal
end Go.Proofs.Qxb6500835aFmt

