import Derived.Test.Qxb6500837aDoorD27
import Derived.Test.Qxb6500837aDoorE26
set_option linter.unusedVariables false
set_option linter.unusedSimpArgs false
set_option maxRecDepth 20000
namespace Go.Proofs.Qxb6500837aDoor
open Go.RowKit Go.E1 Go.Disk
variable {w0 : World} {L L' l I J K K' : List HI} {w : World} {D : DK} {m : Int} {P : PD} {q : Obj → Prop}

theorem pw_lim {s : Nat} {f : Nat → Int} : (pw P s f).lim = P.lim := destP_lim
theorem pwL_lim {bs : List Int} {s : Nat} : ∀ {n i : Nat} {P : PD}, (pwL bs s i n P).lim = P.lim
  | 0, _, _ => rfl
  | n + 1, i, P => (pwL_lim (n := n) (i := i + 1)).trans pw_lim

/-- What a step does, for the book. -/
structure FA (P : PD) (o : OP) (q : Nat) (R : PD) : Prop where
  wf : PWf R
  sec : R.sec = P.sec
  lim : R.lim = P.lim
  wr : (stepP P o).1.wr = P.wr + q
  wrt : o.kind = 1 → q ≤ o.dat.bs.length / 512 ∧ (0 < q → 0 ≤ o.sct ∧ o.sct + q ≤ P.sec) ∧ SameB R (pwL o.dat.bs o.sct.toNat 0 q P)
  oth : o.kind ≠ 1 → R = P
  syn : o.kind = 3 ∧ (stepP P o).2 = 0 → (stepP P o).1 = { P with pc := settle P.pc P.pend, pend := [] }
  up : (stepP P o).1.down = false → ¬ (o.kind = 3 ∧ (stepP P o).2 = 0) → SameB (stepP P o).1 R
  dn : (stepP P o).1.down = true → ¬ (o.kind = 3 ∧ (stepP P o).2 = 0) ∧ ((o.kind = 4 ∧ (stepP P o).1 = crashP R o.kp.bs o.tear o.tb) ∨ (o.kind ≠ 4 ∧ ¬ (o.kind = 5 ∧ (stepP P o).2 = 0) ∧ P.armed = true ∧ (stepP P o).1 = crashP R P.keep P.tear P.tb))
  arm : (stepP P o).1.armed = true → (o.kind = 5 ∧ (stepP P o).2 = 0 ∧ (stepP P o).1.keep = o.kp.bs ∧ (stepP P o).1.tear = o.tear ∧ (stepP P o).1.tb = o.tb) ∨ (¬ (o.kind = 5 ∧ (stepP P o).2 = 0) ∧ P.armed = true ∧ (stepP P o).1.keep = P.keep ∧ (stepP P o).1.tear = P.tear ∧ (stepP P o).1.tb = P.tb)
theorem fa_of {o : OP} (hd : P.down = false) (hf : ¬ (o.kind = 0 ∧ (stepP P o).2 = 0)) (hp : PWf P) (hb : ∀ x, x ∈ o.dat.bs → 0 ≤ x ∧ x < 256) : ∃ q R, FA P o q R := by
  by_cases hk : o.kind = 1
  · obtain ⟨q, R, a1, a2, a3, a4, a5, a6, a7⟩ := step_write hk hd hp hb
    refine ⟨q, R, ⟨a4, a5, a3.lim.trans pwL_lim, a6, fun _ => ⟨a1, a2, a3⟩, fun h => absurd hk h, fun h => by omega, fun h _ => ?_, fun h => ⟨by omega, ?_⟩, fun h => ?_⟩⟩
    · rcases a7 with ⟨_, b, _⟩ | ⟨b, _⟩
      · exact b
      · rw [b] at h; cases h
    · rcases a7 with ⟨b, _⟩ | ⟨b, c⟩
      · rw [b] at h; cases h
      · exact .inr ⟨by omega, by omega, c, b⟩
    · rcases a7 with ⟨_, _, b, c, d, e⟩ | ⟨b, c⟩
      · exact .inr ⟨by omega, b.symm.trans h, c, d, e⟩
      · rw [b] at h; cases h
  · obtain ⟨a0, a⟩ := step_other (P := P) hk hf
    refine ⟨0, P, ⟨hp, rfl, rfl, a0, fun h => absurd h hk, fun _ => rfl, fun h => ?_, fun h h3 => ?_, fun h => ?_, fun h => ?_⟩⟩
    · rcases a with ⟨_, _, _, b⟩ | ⟨b, _⟩ | ⟨b, _⟩
      · exact b
      · omega
      · exact absurd h b
    · rcases a with ⟨b, c, _⟩ | ⟨_, _, b⟩ | ⟨_, b, _⟩
      · exact absurd ⟨b, c⟩ h3
      · rw [b] at h; cases h
      · exact b
    · rcases a with ⟨_, _, b, c⟩ | ⟨b, _, c⟩ | ⟨_, _, b, _⟩
      · rw [c] at h
        have h : P.down = true := h
        rw [hd] at h; cases h
      · exact ⟨by omega, .inl ⟨b, c⟩⟩
      · have := b h; rw [hd] at this; cases this
    · rcases a with ⟨b, _, _, c⟩ | ⟨_, _, c⟩ | ⟨_, _, _, ⟨b, c, d⟩ | ⟨b, c⟩⟩
      · rw [c] at h ⊢; exact .inr ⟨by omega, h, rfl, rfl, rfl⟩
      · rw [c] at h; cases h
      · exact .inl ⟨b, c, d⟩
      · exact .inr ⟨b, c h⟩
theorem down_same {o : OP} (hd : P.down = true) (hf : ¬ (o.kind = 0 ∧ (stepP P o).2 = 0)) : SameB (stepP P o).1 P ∧ (stepP P o).1.wr = P.wr ∧ ((stepP P o).1.armed = true → P.armed = true ∧ (stepP P o).1.keep = P.keep ∧ (stepP P o).1.tear = P.tear ∧ (stepP P o).1.tb = P.tb) := by
  by_cases hk : o.kind = 1
  · have e : stepP P o = (P, 3) := by unfold stepP; rw [if_neg (by omega), if_pos hk]; unfold writeP; rw [if_pos hd]
    rw [e]; exact ⟨SameB.refl _, rfl, fun h => ⟨h, rfl, rfl, rfl⟩⟩
  · obtain ⟨a0, a⟩ := step_other (P := P) hk hf
    rcases a with ⟨_, _, b, _⟩ | ⟨_, b, _⟩ | ⟨_, b, _, ⟨c, d, _⟩ | ⟨_, c⟩⟩
    · rw [hd] at b; cases b
    · rw [hd] at b; cases b
    · exfalso
      have e : stepP P o = (P, 3) := by unfold stepP; simp [c]; unfold armP; rw [if_pos hd]
      rw [e] at d; cases d
    · exact ⟨b, a0, c⟩

abbrev bkI (bw bm : Nat) (wv kv : Value) (t tb : Int) (av : Value) (sec : Int) : HI := (bw, Row 60 7 (nth [.map (some bm), wv, kv, .int .i64 t, .int .i64 tb, av, .int .i64 sec]))
abbrev mpI (bm : Nat) (NS : Int → Option Value) : HI := (bm, MapV (keyGood Go.Proofs.Tryd.prog 2) (gOf NS))
abbrev plI (b : Nat) (sv : SV) (t tb : Int) : HI := (b, Row 31 3 (nth [.slice sv.a sv.bs.length sv.c, .int .i64 t, .int .i64 tb]))
abbrev opI (b : Nat) (o : OP) : HI := (b, Row 33 9 (nth (opC o)))
/-- What the law's look is told, and what it must answer. -/
def JOK (w0 : World) (F : Nat) : Prop := ∀ (R : PD) (kp : SV) (tear tb : Int) (bw bm bb : Nat) (NS : Int → Option Value) (wv : Value) (XW : List HI) (f : Nat → Value) (K L : List HI) (w : World), PWf R → kp.ok → kp.bs.length ≤ 65536 → kp.rd w0 →
  Bk w0 K R.sec R.pc R.pend NS f → OwnP 63 2 wv R.pend.length XW f → XW ⊆ L → K ⊆ L → iI bb (R.sec * 512) (img (crashPc kp.bs tear (kOf tb) 0 R.pc R.pend)) ∈ L →
  S0 w0 (bkI bw bm wv (.slice kp.a kp.bs.length kp.c) tear tb (.slice (some ⟨bb, 0, none⟩) (R.sec * 512) (R.sec * 512)) (R.sec : Nat) :: mpI bm NS :: L) w →
  Calls Tryd.prog F #[.pointer (some ⟨bw, 0, none⟩)] w (Ret fun v w' => v = .bool true ∧ S0 w0 (bkI bw bm wv (.slice kp.a kp.bs.length kp.c) tear tb (.slice (some ⟨bb, 0, none⟩) (R.sec * 512) (R.sec * 512)) (R.sec : Nat) :: mpI bm NS :: L) w')

structure BI where
  D : DK
  P : PD
  i : Nat
  bw : Nat
  bm : Nat
  NS : Int → Option Value
  wv : Value
  XW : List HI
  f : Nat → Value
  K : List HI
  sv : SV
  t : Int
  tb : Int
structure BInv (w0 : World) (bs b8 n : Nat) (z : BI) (w : World) : Prop where
  rep : Rep z.D z.P
  i : z.i ≤ n
  wr : z.P.wr ≤ 128 * z.i
  bk : Bk w0 z.K z.P.sec z.P.pc z.P.pend z.NS z.f
  own : OwnP 63 2 z.wv z.P.pend.length z.XW z.f
  svo : z.sv.ok
  svl : z.sv.bs.length ≤ 65536
  svr : z.sv.rd w0
  arm : z.P.armed = true → z.sv.bs = z.P.keep ∧ z.t = z.P.tear ∧ z.tb = z.P.tb
  st : S0 w0 (sI bs z.D.bD :: bkI z.bw z.bm z.wv (.slice none 0 0) 0 0 (.slice none 0 0) 0 :: mpI z.bm z.NS :: plI b8 z.sv z.t z.tb :: DI z.D 0 (z.XW ++ z.K)) w
theorem Bk.zero {sec : Nat} {f : Nat → Value} : Bk w0 K sec (fun _ _ => 0) [] (fun _ => none) f := ⟨(fun s _ v h => by cases h), fun _ _ _ _ _ => rfl, fun i p h => by simp at h⟩
theorem fmtP_some {c k : Int} (h : fmtP c k = some P) : P = newP P.sec P.lim ∧ (P.lim : Int) = orD k 8192 := by
  unfold fmtP at h
  split at h
  · cases h
  · split at h
    · cases h
    · cases h
      exact ⟨rfl, by show ((orD k 8192).toNat : Int) = _; omega⟩
theorem r_slHA {Pg : Program} {w : World} {ρ : Operand → Value} {d : Option Tmp} {ty : TypeId} {pos : String} {af : Array Edge} {g : Option (Nat × Bool)} {x : Operand} {T e n c k : Nat} {ao : Option Addr} {hi : Option Operand} (hT : slT Pg T = some (e, 1)) (hx : ρ x = .slice ao n c) (hh : bnd ρ n k hi) (h1 : k ≤ c) :
    (execOp ρ ⟨d, .slice T x none hi none, ty, pos, af, g⟩).run Pg w = .ok (.value (.slice (slA ao 0 c 1) k c)) w := by
  have := r_sl (d := d) (ty := ty) (pos := pos) (af := af) (g := g) (w := w) (P := Pg) (l := 0) (m := c) (lo := none) (mx := none) hT hx rfl hh rfl (fun _ => rfl) (Nat.zero_le _) h1 (Nat.le_refl _)
  rw [this]; simp
theorem r_slLoS {Pg : Program} {w : World} {ρ : Operand → Value} {d : Option Tmp} {ty : TypeId} {pos : String} {af : Array Edge} {g : Option (Nat × Bool)} {x : Operand} {T e n c l n' c' s : Nat} {ao : Option Addr} {lo : Option Operand} (hT : slT Pg T = some (e, s)) (hx : ρ x = .slice ao n c) (hl : bnd ρ 0 l lo) (h1 : l ≤ n) (h2 : n ≤ c) (e1 : n - l = n') (e2 : c - l = c') :
    (execOp ρ ⟨d, .slice T x lo none none, ty, pos, af, g⟩).run Pg w = .ok (.value (.slice (slA ao l c s) n' c')) w := by
  have := r_sl (d := d) (ty := ty) (pos := pos) (af := af) (g := g) (w := w) (P := Pg) (h := n) (m := c) (hi := none) (mx := none) hT hx hl rfl rfl (fun _ => rfl) h1 h2 (Nat.le_refl _)
  rw [this, e1, e2]
theorem st_pullX (F XS XW : List HI) {K : List HI} (st : S0 w0 (F ++ DI D m (XS ++ (XW ++ K))) w) : S0 w0 (XW ++ (F ++ DI D m (XS ++ K))) w :=
  st.perm ((((di_perm (List.perm_append_comm_assoc XS XW K)).trans (di_pull XW)).append_left F).trans (List.perm_append_comm_assoc F XW _))
theorem st_pushX (F XS XW : List HI) {K : List HI} (st : S0 w0 (XW ++ (F ++ DI D m (XS ++ K))) w) : S0 w0 (F ++ DI D m (XS ++ (XW ++ K))) w :=
  st.perm ((((di_perm (List.perm_append_comm_assoc XS XW K)).trans (di_pull XW)).append_left F).trans (List.perm_append_comm_assoc F XW _)).symm
theorem st_img (F XW : List HI) {K : List HI} {x : HI} (st : S0 w0 (x :: DI D m (F ++ (XW ++ K))) w) : S0 w0 (F ++ DI D m (XW ++ (x :: K))) w :=
  st.perm ((((di_pull F).cons x).trans (List.perm_middle (l₁ := F)).symm).trans ((di_front.symm.trans (di_perm List.perm_middle.symm)).append_left F))
theorem st_p4 {a b c d : HI} {l : List HI} (st : S0 w0 (a :: b :: c :: d :: l) w) : S0 w0 [a, b, c, d] w := st.sublist (((((List.nil_sublist _).cons_cons _).cons_cons _).cons_cons _).cons_cons _)
structure BA where
  NS : Int → Option Value
  wv : Value
  XW : List HI
  f : Nat → Value
theorem slA_zero {a : Option Addr} {c : Nat} (h : 0 < c) {b o : Nat} (ha : a = some ⟨b, o, none⟩) : slA a 0 c 1 = some ⟨b, o, none⟩ := by rw [ha, slA_some h]; simp

set_option maxHeartbeats 128000000 in
theorem atEveryCrash_ok (a : Option Addr) (sb so n c F : Nat) (op : Nat → OP) (hg : hG w0) (hS : Scr w0 sb so n op) (hsm : Sml n op) (ha : 0 < n → a = some ⟨sb, so, none⟩) (hF : callT Tryd.prog F = true) (hJ : JOK w0 F) (st : S0 w0 [] w) :
    Calls Tryd.prog 27 #[.slice a n c, .func (.func F) #[] #[]] w (Ret fun v w' => v = .bool true ∧ S0 w0 [] w') := by
  have hnn := hsm.1
  refine enter [.slice a n c, .func (.func F) #[] #[]] Tryd.func27 rfl Tryd.ntmps27 rfl ?_
  show WC _ _ _ 228 [] [(0, .slice a n c), (1, .func (.func F) #[] #[])] _
  refine WC.seq fun K885 hK885 => ?_
  -- region 0
  refine WC.region ?_
  -- R0.0 4 := laws.go:105 assign
  refine WL.v (by first | exact r_assign (v := .bool _) rfl | exact r_assign rfl) rfl rfl rfl ?_
  refine WL.fin hK885 (fun _ _ h => h) ?_
  refine WC.seq fun K886 hK886 => ?_
  -- region 1
  refine WC.region ?_
  -- R1.0 20 := laws.go:106 call
  refine WL.call (r_call ty_call11 rfl) rfl rfl rfl (newStage_ok st) ?_
  rintro _ w ⟨D, bs, rfl, hr, st⟩
  -- R1.1 5 := laws.go:106 assign
  refine WL.v (by first | exact r_assign (v := .pointer _) rfl | exact r_assign rfl) rfl rfl rfl ?_
  refine WL.fin hK886 (fun _ _ h => h) ?_
  refine WC.seq fun K887 hK887 => ?_
  -- region 2
  refine WC.region ?_
  -- R2.0 21 := laws.go:107 makeMap
  refine WL.mkmap (keyGood Tryd.prog 2) st rfl rfl ?_
  intro b21 w st
  -- R2.1 22 := laws.go:107 build
  refine WL.v (by exact r_build (ps := [(0, .map _)]) (vs := [_, _, _, _, _, _, _]) ty_pl60 ty_zero60 rfl (fill_step (pv := [_]) (cs' := [_, _, _, _, _, _, _]) rfl rfl rfl rfl (fill_nil))) rfl rfl rfl ?_
  -- R2.2 23 := laws.go:107 box
  first | refine WL.box (m := 7) (vs := [.map _, .slice _ _ _, .slice _ _ _, .int _ _, .int _ _, .slice _ _ _, .int _ _]) st rfl rfl rfl rfl rfl rfl ?_ | refine WL.box (m := 7) (vs := [_, _, _, _, _, _, _]) st rfl rfl rfl rfl rfl rfl ?_ | refine WL.box st rfl rfl rfl rfl rfl rfl ?_
  intro b23 w st
  -- R2.3 6 := laws.go:107 assign
  refine WL.v (by first | exact r_assign (v := .pointer _) rfl | exact r_assign rfl) rfl rfl rfl ?_
  refine WL.fin hK887 (fun _ _ h => h) ?_
  refine WC.seq fun K888 hK888 => ?_
  -- region 3
  refine WC.region ?_
  -- R3.0 7 := laws.go:108 assign
  refine WL.v (by first | exact r_assign (v := .int _ _) rfl | exact r_assign rfl) rfl rfl rfl ?_
  refine WL.fin hK888 (fun _ _ h => h) ?_
  refine WC.seq fun K889 hK889 => ?_
  -- region 4
  refine WC.region ?_
  -- R4.0 8 := laws.go:109 alloc
  refine WL.alloc (m := 3) st ty_zero31 rfl rfl rfl ?_
  intro b8 w st
  refine WL.fin hK889 (fun _ _ h => h) ?_
  refine WC.seq fun K890 hK890 => ?_
  refine WC.seq fun K891 hK891 => ?_
  -- region 5
  refine WC.region ?_
  -- R5.0 24 := laws.go:110 move
  refine WL.v (by first | exact r_move (v := .slice _ _ _) rfl | exact r_move rfl) rfl rfl rfl ?_
  -- R5.1 25 := laws.go:110 call
  refine WL.v (by exact r_len ty_usl22 rfl) rfl rfl rfl ?_
  -- R5.2 26 := laws.go:110 move
  refine WL.v (by first | exact r_move (v := .int _ _) rfl | exact r_move rfl) rfl rfl rfl ?_
  refine WL.fin hK891 (fun _ _ h => h) ?_
  refine WC.block ?_
  have st : S0 w0 (sI bs D.bD :: bkI b23 b21 (.slice none 0 0) (.slice none 0 0) 0 0 (.slice none 0 0) 0 :: mpI b21 (fun _ => none) :: plI b8 SV.nil 0 0 :: DI D 0 ([] ++ [])) w := by
    unfold mpI; rw [gOf_none]; exact st.front3.perm (.cons _ (List.perm_middle (l₁ := [_, _])).symm)
  refine WC.loop (ι := BI) (fun z => [(1, .func (.func F) #[] #[]), (5, .pointer (some ⟨bs, 0, none⟩)), (6, .pointer (some ⟨z.bw, 0, none⟩)), (7, .int .i64 (z.P.lim : Nat)), (8, .pointer (some ⟨b8, 0, none⟩)), (24, .slice a n c), (25, .int .i64 (n : Nat)), (26, .int .i64 (z.i : Nat))])
    (fun z w' => BInv w0 bs b8 n z w') (fun z => n - z.i) ⟨D, newP 4096 8192, 0, b23, b21, fun _ => none, .slice none 0 0, [], fun _ => undef, [], SV.nil, 0, 0⟩
    ⟨hr, Nat.zero_le _, Nat.le_refl _, Bk.zero, OwnP.nil _ _ _, SV.nil_ok, Nat.zero_le _, SV.nil_rd _, (fun h => by cases h), st⟩ ?_ ?_
  · skip
    repeat (first | exact sub_nil _ | refine sub_cons rfl rfl ?_)
  rintro ⟨D, P, i, bw, bm, NS, wv, XW, f, K, sv, t, tb⟩ w ⟨h, hi, hwr, hbk, hown, hsvo, hsvl, hsvr, harm, st⟩ K1 hK1
  dsimp only at h hi hwr hbk hown hsvo hsvl hsvr harm st ⊢
  by_cases hlt : ¬ i < n
  · skip
    refine WC.seq fun K892 hK892 => ?_
    -- region 6
    refine WC.region ?_
    -- R6.0 27 := laws.go:110 binOp
    refine WL.v (by first | exact r_lss rfl rfl (decide_eq_true (by omega)) | exact r_lss rfl rfl (decide_eq_false (by omega)) | exact r_lss rfl rfl rfl) rfl rfl rfl ?_
    refine WL.fin hK892 (fun _ _ h => h) ?_
    refine WC.seq fun K893 hK893 => ?_
    refine WC.condF rfl rfl ?_
    refine WC.exitF hK890 (fun _ _ h => h) ?_
    refine WC.seq fun K894 hK894 => ?_
    -- region 50
    refine WC.region ?_
    -- R50.0 4 := laws.go:160 assign
    refine WL.v (by first | exact r_assign (v := .bool _) rfl | exact r_assign rfl) rfl rfl rfl ?_
    refine WL.fin hK894 (fun _ _ h => h) ?_
    refine WC.ret1 Tryd.results27 (fun _ _ h => h) rfl ?_
    exact ⟨_, rfl, rfl, st_none st⟩
  have hlt : i < n := by omega
  obtain rfl := ha (by omega)
  have hok := hS.ok hsm hlt
  have hw2 := step_wr (P := P) hok.datl
  have hs2 := h.s2
  refine WC.seq fun K895 hK895 => ?_
  -- region 6
  refine WC.region ?_
  -- R6.0 27 := laws.go:110 binOp
  refine WL.v (by first | exact r_lss rfl rfl (decide_eq_true (by omega)) | exact r_lss rfl rfl (decide_eq_false (by omega)) | exact r_lss rfl rfl rfl) rfl rfl rfl ?_
  refine WL.fin hK895 (fun _ _ h => h) ?_
  refine WC.seq fun K896 hK896 => ?_
  refine WC.condT rfl rfl ?_
  refine WC.skipF hK896 (fun _ _ h => h) ?_
  refine WC.seq fun K897 hK897 => ?_
  refine WC.block ?_
  refine WC.seq fun K898 hK898 => ?_
  -- region 7
  refine WC.region ?_
  -- R7.0 28 := laws.go:110 indexAddr
  refine WL.v (by exact r_indexS (j := i) ty_sl22 rfl rfl rfl hlt) rfl rfl rfl ?_
  -- R7.1 29 := laws.go:110 load
  refine WL.v (v := (op i).v) (by exact r_loadL (vs := opC (op i)) ty_agg33 rfl ⟨hS.ld hlt st 0 (by decide), hS.ld hlt st 1 (by decide), hS.ld hlt st 2 (by decide), hS.ld hlt st 3 (by decide), hS.ld hlt st 4 (by decide), hS.ld hlt st 5 (by decide), hS.ld hlt st 6 (by decide), hS.ld hlt st 7 (by decide), hS.ld hlt st 8 (by decide), trivial⟩) rfl rfl rfl ?_
  -- R7.2 10 := laws.go:110 alloc
  refine WL.alloc (m := 9) st ty_zero33 rfl rfl rfl ?_
  intro b10 w st
  -- R7.3 None := laws.go:110 store
  first | refine WL.storeW (vs := [_, _, _, _, _, _, _, _, _]) st ty_agg33 rfl rfl rfl rfl rfl rfl ?_ | refine WL.storeL (vs := [_, _, _, _, _, _, _, _, _]) st ty_agg33 rfl rfl rfl rfl (by first | decide | omega) rfl rfl ?_ | refine WL.storeW (vs := [_, _, _, _, _, _, _, _, _]) st.front1 ty_agg33 rfl rfl rfl rfl rfl rfl ?_ | refine WL.storeL (vs := [_, _, _, _, _, _, _, _, _]) st.front1 ty_agg33 rfl rfl rfl rfl (by first | decide | omega) rfl rfl ?_ | refine WL.storeW (vs := [_, _, _, _, _, _, _, _, _]) st.front2 ty_agg33 rfl rfl rfl rfl rfl rfl ?_ | refine WL.storeL (vs := [_, _, _, _, _, _, _, _, _]) st.front2 ty_agg33 rfl rfl rfl rfl (by first | decide | omega) rfl rfl ?_ | refine WL.storeW (vs := [_, _, _, _, _, _, _, _, _]) st.front3 ty_agg33 rfl rfl rfl rfl rfl rfl ?_ | refine WL.storeL (vs := [_, _, _, _, _, _, _, _, _]) st.front3 ty_agg33 rfl rfl rfl rfl (by first | decide | omega) rfl rfl ?_ | refine WL.storeW (vs := [_, _, _, _, _, _, _, _, _]) st.front4 ty_agg33 rfl rfl rfl rfl rfl rfl ?_ | refine WL.storeL (vs := [_, _, _, _, _, _, _, _, _]) st.front4 ty_agg33 rfl rfl rfl rfl (by first | decide | omega) rfl rfl ?_ | refine WL.storeW (vs := [_, _, _, _, _, _, _, _, _]) st.front5 ty_agg33 rfl rfl rfl rfl rfl rfl ?_ | refine WL.storeL (vs := [_, _, _, _, _, _, _, _, _]) st.front5 ty_agg33 rfl rfl rfl rfl (by first | decide | omega) rfl rfl ?_ | refine WL.storeW (vs := [_, _, _, _, _, _, _, _, _]) st.front6 ty_agg33 rfl rfl rfl rfl rfl rfl ?_ | refine WL.storeL (vs := [_, _, _, _, _, _, _, _, _]) st.front6 ty_agg33 rfl rfl rfl rfl (by first | decide | omega) rfl rfl ?_ | refine WL.storeW (vs := [_, _, _, _, _, _, _, _, _]) st.front7 ty_agg33 rfl rfl rfl rfl rfl rfl ?_ | refine WL.storeL (vs := [_, _, _, _, _, _, _, _, _]) st.front7 ty_agg33 rfl rfl rfl rfl (by first | decide | omega) rfl rfl ?_ | refine WL.storeW (vs := [_, _, _, _, _, _, _, _, _]) st.front8 ty_agg33 rfl rfl rfl rfl rfl rfl ?_ | refine WL.storeL (vs := [_, _, _, _, _, _, _, _, _]) st.front8 ty_agg33 rfl rfl rfl rfl (by first | decide | omega) rfl rfl ?_
  intro w st
  refine WL.fin hK898 (fun _ _ h => h) ?_
  refine WC.seq fun K899 hK899 => ?_
  -- region 8
  refine WC.region ?_
  -- R8.0 30 := laws.go:111 move
  refine WL.v (by first | exact r_move (v := .pointer _) rfl | exact r_move rfl) rfl rfl rfl ?_
  -- R8.1 31 := laws.go:111 nilCheck
  refine WL.v (by exact r_nilCheck rfl) rfl rfl rfl ?_
  -- R8.2 32 := laws.go:111 fieldAddr
  refine WL.v (by exact r_field ty_fld42_0 rfl) rfl rfl rfl ?_
  -- R8.3 33 := laws.go:111 load
  refine WL.v (by exact r_load1 ty_one40 rfl (by first | assumption | exact st.c0 (by first | decide | omega) | exact st.c1 (by first | decide | omega) | exact st.c2 (by first | decide | omega) | exact st.c3 (by first | decide | omega) | exact st.c4 (by first | decide | omega) | exact st.c5 (by first | decide | omega) | exact st.c6 (by first | decide | omega) | exact st.c7 (by first | decide | omega) | exact st.c8 (by first | decide | omega))) rfl rfl rfl ?_
  -- R8.4 34 := laws.go:111 call
  refine WL.call (r_call ty_call17 rfl) rfl rfl rfl (isDown_ok (st_inF [_, _, _, _, _] st)) ?_
  rintro _ w ⟨rfl, st⟩
  have st := st_outF [_, _, _, _, _] st
  rw [h.down]
  -- R8.5 11 := laws.go:111 assign
  refine WL.v (by first | exact r_assign (v := .bool _) rfl | exact r_assign rfl) rfl rfl rfl ?_
  refine WL.fin hK899 (fun _ _ h => h) ?_
  refine WC.seq fun K900 hK900 => ?_
  -- region 9
  refine WC.region ?_
  -- R9.0 35 := laws.go:112 move
  refine WL.v (by first | exact r_move (v := .pointer _) rfl | exact r_move rfl) rfl rfl rfl ?_
  -- R9.1 36 := laws.go:112 nilCheck
  refine WL.v (by exact r_nilCheck rfl) rfl rfl rfl ?_
  -- R9.2 37 := laws.go:112 fieldAddr
  refine WL.v (by exact r_field ty_fld42_0 rfl) rfl rfl rfl ?_
  -- R9.3 38 := laws.go:112 load
  refine WL.v (by exact r_load1 ty_one40 rfl (by first | assumption | exact st.c0 (by first | decide | omega) | exact st.c1 (by first | decide | omega) | exact st.c2 (by first | decide | omega) | exact st.c3 (by first | decide | omega) | exact st.c4 (by first | decide | omega) | exact st.c5 (by first | decide | omega) | exact st.c6 (by first | decide | omega) | exact st.c7 (by first | decide | omega) | exact st.c8 (by first | decide | omega))) rfl rfl rfl ?_
  -- R9.4 39 := laws.go:112 call
  refine WL.call (r_call ty_call32 rfl) rfl rfl rfl (stats_ok (st_inF [_, _, _, _, _] st)) ?_
  rintro _ w ⟨rfl, st⟩
  have st := st_outF [_, _, _, _, _] st
  rw [h.sx]
  -- R9.5 40 := laws.go:112 field
  refine WL.v (by exact r_fieldv ty_fv67_1 rfl rfl) rfl rfl rfl ?_
  -- R9.6 12 := laws.go:112 assign
  refine WL.v (by first | exact r_assign (v := .int _ _) rfl | exact r_assign rfl) rfl rfl rfl ?_
  refine WL.fin hK900 (fun _ _ h => h) ?_
  refine WC.seq fun K901 hK901 => ?_
  -- region 10
  refine WC.region ?_
  -- R10.0 41 := laws.go:113 move
  refine WL.v (by first | exact r_move (v := .pointer _) rfl | exact r_move rfl) rfl rfl rfl ?_
  -- R10.1 42 := laws.go:113 load
  refine WL.v (by exact r_loadL (vs := [_, _, _, _, _, _, _, _, _]) ty_agg33 rfl ⟨(by first | assumption | exact st.c0 (by first | decide | omega) | exact st.c1 (by first | decide | omega) | exact st.c2 (by first | decide | omega) | exact st.c3 (by first | decide | omega) | exact st.c4 (by first | decide | omega) | exact st.c5 (by first | decide | omega) | exact st.c6 (by first | decide | omega) | exact st.c7 (by first | decide | omega) | exact st.c8 (by first | decide | omega)), (by first | assumption | exact st.c0 (by first | decide | omega) | exact st.c1 (by first | decide | omega) | exact st.c2 (by first | decide | omega) | exact st.c3 (by first | decide | omega) | exact st.c4 (by first | decide | omega) | exact st.c5 (by first | decide | omega) | exact st.c6 (by first | decide | omega) | exact st.c7 (by first | decide | omega) | exact st.c8 (by first | decide | omega)), (by first | assumption | exact st.c0 (by first | decide | omega) | exact st.c1 (by first | decide | omega) | exact st.c2 (by first | decide | omega) | exact st.c3 (by first | decide | omega) | exact st.c4 (by first | decide | omega) | exact st.c5 (by first | decide | omega) | exact st.c6 (by first | decide | omega) | exact st.c7 (by first | decide | omega) | exact st.c8 (by first | decide | omega)), (by first | assumption | exact st.c0 (by first | decide | omega) | exact st.c1 (by first | decide | omega) | exact st.c2 (by first | decide | omega) | exact st.c3 (by first | decide | omega) | exact st.c4 (by first | decide | omega) | exact st.c5 (by first | decide | omega) | exact st.c6 (by first | decide | omega) | exact st.c7 (by first | decide | omega) | exact st.c8 (by first | decide | omega)), (by first | assumption | exact st.c0 (by first | decide | omega) | exact st.c1 (by first | decide | omega) | exact st.c2 (by first | decide | omega) | exact st.c3 (by first | decide | omega) | exact st.c4 (by first | decide | omega) | exact st.c5 (by first | decide | omega) | exact st.c6 (by first | decide | omega) | exact st.c7 (by first | decide | omega) | exact st.c8 (by first | decide | omega)), (by first | assumption | exact st.c0 (by first | decide | omega) | exact st.c1 (by first | decide | omega) | exact st.c2 (by first | decide | omega) | exact st.c3 (by first | decide | omega) | exact st.c4 (by first | decide | omega) | exact st.c5 (by first | decide | omega) | exact st.c6 (by first | decide | omega) | exact st.c7 (by first | decide | omega) | exact st.c8 (by first | decide | omega)), (by first | assumption | exact st.c0 (by first | decide | omega) | exact st.c1 (by first | decide | omega) | exact st.c2 (by first | decide | omega) | exact st.c3 (by first | decide | omega) | exact st.c4 (by first | decide | omega) | exact st.c5 (by first | decide | omega) | exact st.c6 (by first | decide | omega) | exact st.c7 (by first | decide | omega) | exact st.c8 (by first | decide | omega)), (by first | assumption | exact st.c0 (by first | decide | omega) | exact st.c1 (by first | decide | omega) | exact st.c2 (by first | decide | omega) | exact st.c3 (by first | decide | omega) | exact st.c4 (by first | decide | omega) | exact st.c5 (by first | decide | omega) | exact st.c6 (by first | decide | omega) | exact st.c7 (by first | decide | omega) | exact st.c8 (by first | decide | omega)), (by first | assumption | exact st.c0 (by first | decide | omega) | exact st.c1 (by first | decide | omega) | exact st.c2 (by first | decide | omega) | exact st.c3 (by first | decide | omega) | exact st.c4 (by first | decide | omega) | exact st.c5 (by first | decide | omega) | exact st.c6 (by first | decide | omega) | exact st.c7 (by first | decide | omega) | exact st.c8 (by first | decide | omega)), trivial⟩) rfl rfl rfl ?_
  -- R10.2 43 := laws.go:113 call
  refine WL.call (r_call ty_call14 rfl) rfl rfl rfl (step_ok (o := op i) hg h hok (by omega) (st_inF [_, _, _, _, _] st.front1)) ?_
  rintro _ w ⟨D', dv, l1, h', rfl, hrv, st⟩
  obtain ⟨da, dn, dc, rfl⟩ := rv_sl hrv
  have st := st_outF [_, _, _, _, _] (st.sublist (di_sub (List.Sublist.cons_cons _ (List.sublist_append_right _ _))))
  -- R10.3 13 := laws.go:113 alloc
  refine WL.alloc (m := 2) st ty_zero37 rfl rfl rfl ?_
  intro b13 w st
  -- R10.4 None := laws.go:113 store
  first | refine WL.storeW (vs := [_, _]) st ty_agg37 rfl rfl rfl rfl rfl rfl ?_ | refine WL.storeL (vs := [_, _]) st ty_agg37 rfl rfl rfl rfl (by first | decide | omega) rfl rfl ?_ | refine WL.storeW (vs := [_, _]) st.front1 ty_agg37 rfl rfl rfl rfl rfl rfl ?_ | refine WL.storeL (vs := [_, _]) st.front1 ty_agg37 rfl rfl rfl rfl (by first | decide | omega) rfl rfl ?_ | refine WL.storeW (vs := [_, _]) st.front2 ty_agg37 rfl rfl rfl rfl rfl rfl ?_ | refine WL.storeL (vs := [_, _]) st.front2 ty_agg37 rfl rfl rfl rfl (by first | decide | omega) rfl rfl ?_ | refine WL.storeW (vs := [_, _]) st.front3 ty_agg37 rfl rfl rfl rfl rfl rfl ?_ | refine WL.storeL (vs := [_, _]) st.front3 ty_agg37 rfl rfl rfl rfl (by first | decide | omega) rfl rfl ?_ | refine WL.storeW (vs := [_, _]) st.front4 ty_agg37 rfl rfl rfl rfl rfl rfl ?_ | refine WL.storeL (vs := [_, _]) st.front4 ty_agg37 rfl rfl rfl rfl (by first | decide | omega) rfl rfl ?_ | refine WL.storeW (vs := [_, _]) st.front5 ty_agg37 rfl rfl rfl rfl rfl rfl ?_ | refine WL.storeL (vs := [_, _]) st.front5 ty_agg37 rfl rfl rfl rfl (by first | decide | omega) rfl rfl ?_ | refine WL.storeW (vs := [_, _]) st.front6 ty_agg37 rfl rfl rfl rfl rfl rfl ?_ | refine WL.storeL (vs := [_, _]) st.front6 ty_agg37 rfl rfl rfl rfl (by first | decide | omega) rfl rfl ?_ | refine WL.storeW (vs := [_, _]) st.front7 ty_agg37 rfl rfl rfl rfl rfl rfl ?_ | refine WL.storeL (vs := [_, _]) st.front7 ty_agg37 rfl rfl rfl rfl (by first | decide | omega) rfl rfl ?_ | refine WL.storeW (vs := [_, _]) st.front8 ty_agg37 rfl rfl rfl rfl rfl rfl ?_ | refine WL.storeL (vs := [_, _]) st.front8 ty_agg37 rfl rfl rfl rfl (by first | decide | omega) rfl rfl ?_
  intro w st
  refine WL.fin hK901 (fun _ _ h => h) ?_
  refine WC.cut (ι := Unit) (fun _ => [(1, .func (.func F) #[] #[]), (5, .pointer (some ⟨bs, 0, none⟩)), (6, .pointer (some ⟨bw, 0, none⟩)), (7, .int .i64 (P.lim : Nat)), (8, .pointer (some ⟨b8, 0, none⟩)), (10, .pointer (some ⟨b10, 0, none⟩)), (11, .bool P.down), (12, .int .i64 (P.wr : Nat)), (13, .pointer (some ⟨b13, 0, none⟩)), (24, .slice (some ⟨sb, so, none⟩) n c), (25, .int .i64 (n : Nat)), (26, .int .i64 (i : Nat))]) (fun _ w' => ¬ ((op i).kind = 0 ∧ (stepP P (op i)).2 = 0) ∧ S0 w0 ((b13, Row 37 2 (nth [.int .i64 (stepP P (op i)).2, .slice da dn dc])) :: sI bs D'.bD :: opI b10 (op i) :: bkI bw bm wv (.slice none 0 0) 0 0 (.slice none 0 0) 0 :: mpI bm NS :: plI b8 sv t tb :: DI D' 0 (XW ++ K)) w') ?_ ?_
  rotate_left
  · intro KC hKC
    by_cases hfm : (op i).kind = 0 ∧ (stepP P (op i)).2 = 0
    rotate_left
    · by_cases hk0 : (op i).kind = 0
      · have hc0 : (stepP P (op i)).2 ≠ 0 := fun hh => hfm ⟨hk0, hh⟩
        refine WC.seq fun K902 hK902 => ?_
        -- region 11
        refine WC.region ?_
        -- R11.0 44 := laws.go:114 fieldAddr
        refine WL.v (by exact r_field ty_fld33_0 rfl) rfl rfl rfl ?_
        -- R11.1 45 := laws.go:114 load
        refine WL.v (by exact r_load1 ty_one28 rfl (by first | assumption | exact st.c0 (by first | decide | omega) | exact st.c1 (by first | decide | omega) | exact st.c2 (by first | decide | omega) | exact st.c3 (by first | decide | omega) | exact st.c4 (by first | decide | omega) | exact st.c5 (by first | decide | omega) | exact st.c6 (by first | decide | omega) | exact st.c7 (by first | decide | omega) | exact st.c8 (by first | decide | omega))) rfl rfl rfl ?_
        -- R11.2 46 := laws.go:114 binOp
        refine WL.v (by first | exact r_eql rfl rfl (decide_eq_true (by omega)) | exact r_eql rfl rfl (decide_eq_false (by omega)) | exact r_eql rfl rfl rfl) rfl rfl rfl ?_
        -- R11.3 47 := laws.go:114 move
        refine WL.v (by first | exact r_move (v := .bool _) rfl | exact r_move rfl) rfl rfl rfl ?_
        -- R11.4 48 := laws.go:114 fieldAddr
        refine WL.v (by exact r_field ty_fld37_0 rfl) rfl rfl rfl ?_
        -- R11.5 49 := laws.go:114 load
        refine WL.v (by exact r_load1 ty_one35 rfl (by first | assumption | exact st.c0 (by first | decide | omega) | exact st.c1 (by first | decide | omega) | exact st.c2 (by first | decide | omega) | exact st.c3 (by first | decide | omega) | exact st.c4 (by first | decide | omega) | exact st.c5 (by first | decide | omega) | exact st.c6 (by first | decide | omega) | exact st.c7 (by first | decide | omega) | exact st.c8 (by first | decide | omega))) rfl rfl rfl ?_
        -- R11.6 50 := laws.go:114 binOp
        refine WL.v (by first | exact r_eql rfl rfl (decide_eq_true (by omega)) | exact r_eql rfl rfl (decide_eq_false (by omega)) | exact r_eql rfl rfl rfl) rfl rfl rfl ?_
        -- R11.7 51 := laws.go:114 pick
        refine WL.v (by first | exact r_pickT (v := .bool _) rfl rfl | exact r_pickF (v := .bool _) rfl rfl) rfl rfl rfl ?_
        refine WL.fin hK902 (fun _ _ h => h) ?_
        refine WC.condF rfl rfl ?_
        refine WC.skipJ hKC (fun _ _ h => h) () ⟨hfm, st⟩ (by repeat (first | exact sub_nil _ | refine sub_cons rfl rfl ?_))
      · skip
        refine WC.seq fun K903 hK903 => ?_
        -- region 11
        refine WC.region ?_
        -- R11.0 44 := laws.go:114 fieldAddr
        refine WL.v (by exact r_field ty_fld33_0 rfl) rfl rfl rfl ?_
        -- R11.1 45 := laws.go:114 load
        refine WL.v (by exact r_load1 ty_one28 rfl (by first | assumption | exact st.c0 (by first | decide | omega) | exact st.c1 (by first | decide | omega) | exact st.c2 (by first | decide | omega) | exact st.c3 (by first | decide | omega) | exact st.c4 (by first | decide | omega) | exact st.c5 (by first | decide | omega) | exact st.c6 (by first | decide | omega) | exact st.c7 (by first | decide | omega) | exact st.c8 (by first | decide | omega))) rfl rfl rfl ?_
        -- R11.2 46 := laws.go:114 binOp
        refine WL.v (by first | exact r_eql rfl rfl (decide_eq_true (by omega)) | exact r_eql rfl rfl (decide_eq_false (by omega)) | exact r_eql rfl rfl rfl) rfl rfl rfl ?_
        -- R11.3 47 := laws.go:114 move
        refine WL.v (by first | exact r_move (v := .bool _) rfl | exact r_move rfl) rfl rfl rfl ?_
        -- R11.4 48 := laws.go:114 fieldAddr
        refine WL.no rfl rfl ?_
        -- R11.5 49 := laws.go:114 load
        refine WL.no rfl rfl ?_
        -- R11.6 50 := laws.go:114 binOp
        refine WL.no rfl rfl ?_
        -- R11.7 51 := laws.go:114 pick
        refine WL.v (by first | exact r_pickT (v := .bool _) rfl rfl | exact r_pickF (v := .bool _) rfl rfl) rfl rfl rfl ?_
        refine WL.fin hK903 (fun _ _ h => h) ?_
        refine WC.condF rfl rfl ?_
        refine WC.skipJ hKC (fun _ _ h => h) () ⟨hfm, st⟩ (by repeat (first | exact sub_nil _ | refine sub_cons rfl rfl ?_))
    obtain ⟨hk0, hc0⟩ := hfm
    obtain ⟨P', hP'⟩ : ∃ P', fmtP (op i).cnt (op i).cache = some P' := by
      cases hq : fmtP (op i).cnt (op i).cache with
      | some P' => exact ⟨P', rfl⟩
      | none =>
        exfalso
        have e : stepP P (op i) = (P, 1) := by unfold stepP; rw [if_pos hk0]; unfold fmtS; rw [hq]
        rw [e] at hc0; cases hc0
    have est : stepP P (op i) = (P', 0) := by unfold stepP; rw [if_pos hk0]; unfold fmtS; rw [hP']
    obtain ⟨eP, elim⟩ := fmtP_some hP'
    by_cases hcz : (op i).cache = 0
    · have el : (8192 : Int) = (P'.lim : Nat) := by rw [elim]; unfold orD; rw [if_pos hcz]; rfl
      refine WC.seq fun K904 hK904 => ?_
      -- region 11
      refine WC.region ?_
      -- R11.0 44 := laws.go:114 fieldAddr
      refine WL.v (by exact r_field ty_fld33_0 rfl) rfl rfl rfl ?_
      -- R11.1 45 := laws.go:114 load
      refine WL.v (by exact r_load1 ty_one28 rfl (by first | assumption | exact st.c0 (by first | decide | omega) | exact st.c1 (by first | decide | omega) | exact st.c2 (by first | decide | omega) | exact st.c3 (by first | decide | omega) | exact st.c4 (by first | decide | omega) | exact st.c5 (by first | decide | omega) | exact st.c6 (by first | decide | omega) | exact st.c7 (by first | decide | omega) | exact st.c8 (by first | decide | omega))) rfl rfl rfl ?_
      -- R11.2 46 := laws.go:114 binOp
      refine WL.v (by first | exact r_eql rfl rfl (decide_eq_true (by omega)) | exact r_eql rfl rfl (decide_eq_false (by omega)) | exact r_eql rfl rfl rfl) rfl rfl rfl ?_
      -- R11.3 47 := laws.go:114 move
      refine WL.v (by first | exact r_move (v := .bool _) rfl | exact r_move rfl) rfl rfl rfl ?_
      -- R11.4 48 := laws.go:114 fieldAddr
      refine WL.v (by exact r_field ty_fld37_0 rfl) rfl rfl rfl ?_
      -- R11.5 49 := laws.go:114 load
      refine WL.v (by exact r_load1 ty_one35 rfl (by first | assumption | exact st.c0 (by first | decide | omega) | exact st.c1 (by first | decide | omega) | exact st.c2 (by first | decide | omega) | exact st.c3 (by first | decide | omega) | exact st.c4 (by first | decide | omega) | exact st.c5 (by first | decide | omega) | exact st.c6 (by first | decide | omega) | exact st.c7 (by first | decide | omega) | exact st.c8 (by first | decide | omega))) rfl rfl rfl ?_
      -- R11.6 50 := laws.go:114 binOp
      refine WL.v (by first | exact r_eql rfl rfl (decide_eq_true (by omega)) | exact r_eql rfl rfl (decide_eq_false (by omega)) | exact r_eql rfl rfl rfl) rfl rfl rfl ?_
      -- R11.7 51 := laws.go:114 pick
      refine WL.v (by first | exact r_pickT (v := .bool _) rfl rfl | exact r_pickF (v := .bool _) rfl rfl) rfl rfl rfl ?_
      refine WL.fin hK904 (fun _ _ h => h) ?_
      refine WC.condT rfl rfl ?_
      refine WC.seq fun K905 hK905 => ?_
      -- region 12
      refine WC.region ?_
      -- R12.0 52 := laws.go:115 makeMap
      refine WL.mkmap (keyGood Tryd.prog 2) st rfl rfl ?_
      intro b52 w st
      -- R12.1 53 := laws.go:115 build
      refine WL.v (by exact r_build (ps := [(0, .map _)]) (vs := [_, _, _, _, _, _, _]) ty_pl60 ty_zero60 rfl (fill_step (pv := [_]) (cs' := [_, _, _, _, _, _, _]) rfl rfl rfl rfl (fill_nil))) rfl rfl rfl ?_
      -- R12.2 54 := laws.go:115 box
      first | refine WL.box (m := 7) (vs := [.map _, .slice _ _ _, .slice _ _ _, .int _ _, .int _ _, .slice _ _ _, .int _ _]) st rfl rfl rfl rfl rfl rfl ?_ | refine WL.box (m := 7) (vs := [_, _, _, _, _, _, _]) st rfl rfl rfl rfl rfl rfl ?_ | refine WL.box st rfl rfl rfl rfl rfl rfl ?_
      intro b54 w st
      -- R12.3 6 := laws.go:115 assign
      refine WL.v (by first | exact r_assign (v := .pointer _) rfl | exact r_assign rfl) rfl rfl rfl ?_
      refine WL.fin hK905 (fun _ _ h => h) ?_
      refine WC.seq fun K906 hK906 => ?_
      -- region 13
      refine WC.region ?_
      -- R13.0 55 := laws.go:116 fieldAddr
      refine WL.v (by exact r_field ty_fld33_3 rfl) rfl rfl rfl ?_
      -- R13.1 56 := laws.go:116 load
      refine WL.v (by exact r_load1 ty_one2 rfl (by first | assumption | exact st.c0 (by first | decide | omega) | exact st.c1 (by first | decide | omega) | exact st.c2 (by first | decide | omega) | exact st.c3 (by first | decide | omega) | exact st.c4 (by first | decide | omega) | exact st.c5 (by first | decide | omega) | exact st.c6 (by first | decide | omega) | exact st.c7 (by first | decide | omega) | exact st.c8 (by first | decide | omega))) rfl rfl rfl ?_
      -- R13.2 7 := laws.go:116 assign
      refine WL.v (by first | exact r_assign (v := .int _ _) rfl | exact r_assign rfl) rfl rfl rfl ?_
      refine WL.fin hK906 (fun _ _ h => h) ?_
      refine WC.seq fun K907 hK907 => ?_
      refine WC.seq fun K908 hK908 => ?_
      -- region 14
      refine WC.region ?_
      -- R14.0 57 := laws.go:117 move
      refine WL.v (by first | exact r_move (v := .int _ _) rfl | exact r_move rfl) rfl rfl rfl ?_
      -- R14.1 58 := laws.go:117 binOp
      refine WL.v (by first | exact r_eql rfl rfl (decide_eq_true (by omega)) | exact r_eql rfl rfl (decide_eq_false (by omega)) | exact r_eql rfl rfl rfl) rfl rfl rfl ?_
      refine WL.fin hK908 (fun _ _ h => h) ?_
      refine WC.condT rfl rfl ?_
      -- region 15
      refine WC.region ?_
      -- R15.0 7 := laws.go:118 assign
      refine WL.v (by first | exact r_assign (v := .int _ _) rfl | exact r_assign rfl) rfl rfl rfl ?_
      refine WL.fin hK907 (fun _ _ h => h) ?_
      refine WC.exitF hK897 (fun _ _ h => h) ?_
      -- region 49
      refine WC.region ?_
      -- R49.0 227 := laws.go:110 binOp
      refine WL.v (by exact r_add (r := ((i + 1 : Nat) : Int)) rfl rfl ((wi64 (by omega) (by omega)).trans (by omega))) rfl rfl rfl ?_
      -- R49.1 26 := laws.go:110 move
      refine WL.v (by first | exact r_move (v := .int _ _) rfl | exact r_move rfl) rfl rfl rfl ?_
      have st : S0 w0 (sI bs D'.bD :: bkI b54 b52 (.slice none 0 0) (.slice none 0 0) 0 0 (.slice none 0 0) 0 :: mpI b52 (fun _ => none) :: plI b8 sv t tb :: DI D' 0 ([] ++ K)) w := by
        unfold mpI; rw [gOf_none]; exact (st.drop2.front2.drop3.drop3.drop3).sublist (((((di_sub (List.sublist_append_right _ _)).cons_cons _).cons_cons _).cons_cons _).cons_cons _)
      rw [est] at h' hw2
      rw [el]
      refine WL.next hK1 (fun _ _ h => h) ⟨D', P', i + 1, b54, b52, fun _ => none, .slice none 0 0, [], fun _ => undef, K, sv, t, tb⟩ ⟨h', by show i + 1 ≤ n; omega, by show P'.wr ≤ 128 * (i + 1); have : P'.wr ≤ P.wr + 128 := hw2; omega, by show Bk w0 K P'.sec P'.pc P'.pend _ _; rw [eP]; exact Bk.zero, by show OwnP _ _ _ P'.pend.length _ _; rw [eP]; exact OwnP.nil _ _ _, hsvo, hsvl, hsvr, (fun h => by rw [eP] at h; cases h), st⟩ (by show n - (i + 1) < n - i; omega) (by repeat (first | exact sub_nil _ | refine sub_cons rfl rfl ?_))
    · have el : (op i).cache = (P'.lim : Nat) := by rw [elim]; unfold orD; rw [if_neg hcz]
      refine WC.seq fun K909 hK909 => ?_
      -- region 11
      refine WC.region ?_
      -- R11.0 44 := laws.go:114 fieldAddr
      refine WL.v (by exact r_field ty_fld33_0 rfl) rfl rfl rfl ?_
      -- R11.1 45 := laws.go:114 load
      refine WL.v (by exact r_load1 ty_one28 rfl (by first | assumption | exact st.c0 (by first | decide | omega) | exact st.c1 (by first | decide | omega) | exact st.c2 (by first | decide | omega) | exact st.c3 (by first | decide | omega) | exact st.c4 (by first | decide | omega) | exact st.c5 (by first | decide | omega) | exact st.c6 (by first | decide | omega) | exact st.c7 (by first | decide | omega) | exact st.c8 (by first | decide | omega))) rfl rfl rfl ?_
      -- R11.2 46 := laws.go:114 binOp
      refine WL.v (by first | exact r_eql rfl rfl (decide_eq_true (by omega)) | exact r_eql rfl rfl (decide_eq_false (by omega)) | exact r_eql rfl rfl rfl) rfl rfl rfl ?_
      -- R11.3 47 := laws.go:114 move
      refine WL.v (by first | exact r_move (v := .bool _) rfl | exact r_move rfl) rfl rfl rfl ?_
      -- R11.4 48 := laws.go:114 fieldAddr
      refine WL.v (by exact r_field ty_fld37_0 rfl) rfl rfl rfl ?_
      -- R11.5 49 := laws.go:114 load
      refine WL.v (by exact r_load1 ty_one35 rfl (by first | assumption | exact st.c0 (by first | decide | omega) | exact st.c1 (by first | decide | omega) | exact st.c2 (by first | decide | omega) | exact st.c3 (by first | decide | omega) | exact st.c4 (by first | decide | omega) | exact st.c5 (by first | decide | omega) | exact st.c6 (by first | decide | omega) | exact st.c7 (by first | decide | omega) | exact st.c8 (by first | decide | omega))) rfl rfl rfl ?_
      -- R11.6 50 := laws.go:114 binOp
      refine WL.v (by first | exact r_eql rfl rfl (decide_eq_true (by omega)) | exact r_eql rfl rfl (decide_eq_false (by omega)) | exact r_eql rfl rfl rfl) rfl rfl rfl ?_
      -- R11.7 51 := laws.go:114 pick
      refine WL.v (by first | exact r_pickT (v := .bool _) rfl rfl | exact r_pickF (v := .bool _) rfl rfl) rfl rfl rfl ?_
      refine WL.fin hK909 (fun _ _ h => h) ?_
      refine WC.condT rfl rfl ?_
      refine WC.seq fun K910 hK910 => ?_
      -- region 12
      refine WC.region ?_
      -- R12.0 52 := laws.go:115 makeMap
      refine WL.mkmap (keyGood Tryd.prog 2) st rfl rfl ?_
      intro b52 w st
      -- R12.1 53 := laws.go:115 build
      refine WL.v (by exact r_build (ps := [(0, .map _)]) (vs := [_, _, _, _, _, _, _]) ty_pl60 ty_zero60 rfl (fill_step (pv := [_]) (cs' := [_, _, _, _, _, _, _]) rfl rfl rfl rfl (fill_nil))) rfl rfl rfl ?_
      -- R12.2 54 := laws.go:115 box
      first | refine WL.box (m := 7) (vs := [.map _, .slice _ _ _, .slice _ _ _, .int _ _, .int _ _, .slice _ _ _, .int _ _]) st rfl rfl rfl rfl rfl rfl ?_ | refine WL.box (m := 7) (vs := [_, _, _, _, _, _, _]) st rfl rfl rfl rfl rfl rfl ?_ | refine WL.box st rfl rfl rfl rfl rfl rfl ?_
      intro b54 w st
      -- R12.3 6 := laws.go:115 assign
      refine WL.v (by first | exact r_assign (v := .pointer _) rfl | exact r_assign rfl) rfl rfl rfl ?_
      refine WL.fin hK910 (fun _ _ h => h) ?_
      refine WC.seq fun K911 hK911 => ?_
      -- region 13
      refine WC.region ?_
      -- R13.0 55 := laws.go:116 fieldAddr
      refine WL.v (by exact r_field ty_fld33_3 rfl) rfl rfl rfl ?_
      -- R13.1 56 := laws.go:116 load
      refine WL.v (by exact r_load1 ty_one2 rfl (by first | assumption | exact st.c0 (by first | decide | omega) | exact st.c1 (by first | decide | omega) | exact st.c2 (by first | decide | omega) | exact st.c3 (by first | decide | omega) | exact st.c4 (by first | decide | omega) | exact st.c5 (by first | decide | omega) | exact st.c6 (by first | decide | omega) | exact st.c7 (by first | decide | omega) | exact st.c8 (by first | decide | omega))) rfl rfl rfl ?_
      -- R13.2 7 := laws.go:116 assign
      refine WL.v (by first | exact r_assign (v := .int _ _) rfl | exact r_assign rfl) rfl rfl rfl ?_
      refine WL.fin hK911 (fun _ _ h => h) ?_
      refine WC.seq fun K912 hK912 => ?_
      refine WC.seq fun K913 hK913 => ?_
      -- region 14
      refine WC.region ?_
      -- R14.0 57 := laws.go:117 move
      refine WL.v (by first | exact r_move (v := .int _ _) rfl | exact r_move rfl) rfl rfl rfl ?_
      -- R14.1 58 := laws.go:117 binOp
      refine WL.v (by first | exact r_eql rfl rfl (decide_eq_true (by omega)) | exact r_eql rfl rfl (decide_eq_false (by omega)) | exact r_eql rfl rfl rfl) rfl rfl rfl ?_
      refine WL.fin hK913 (fun _ _ h => h) ?_
      refine WC.condF rfl rfl ?_
      refine WC.skipF hK912 (fun _ _ h => h) ?_
      refine WC.exitF hK897 (fun _ _ h => h) ?_
      -- region 49
      refine WC.region ?_
      -- R49.0 227 := laws.go:110 binOp
      refine WL.v (by exact r_add (r := ((i + 1 : Nat) : Int)) rfl rfl ((wi64 (by omega) (by omega)).trans (by omega))) rfl rfl rfl ?_
      -- R49.1 26 := laws.go:110 move
      refine WL.v (by first | exact r_move (v := .int _ _) rfl | exact r_move rfl) rfl rfl rfl ?_
      have st : S0 w0 (sI bs D'.bD :: bkI b54 b52 (.slice none 0 0) (.slice none 0 0) 0 0 (.slice none 0 0) 0 :: mpI b52 (fun _ => none) :: plI b8 sv t tb :: DI D' 0 ([] ++ K)) w := by
        unfold mpI; rw [gOf_none]; exact (st.drop2.front2.drop3.drop3.drop3).sublist (((((di_sub (List.sublist_append_right _ _)).cons_cons _).cons_cons _).cons_cons _).cons_cons _)
      rw [est] at h' hw2
      rw [el]
      refine WL.next hK1 (fun _ _ h => h) ⟨D', P', i + 1, b54, b52, fun _ => none, .slice none 0 0, [], fun _ => undef, K, sv, t, tb⟩ ⟨h', by show i + 1 ≤ n; omega, by show P'.wr ≤ 128 * (i + 1); have : P'.wr ≤ P.wr + 128 := hw2; omega, by show Bk w0 K P'.sec P'.pc P'.pend _ _; rw [eP]; exact Bk.zero, by show OwnP _ _ _ P'.pend.length _ _; rw [eP]; exact OwnP.nil _ _ _, hsvo, hsvl, hsvr, (fun h => by rw [eP] at h; cases h), st⟩ (by show n - (i + 1) < n - i; omega) (by repeat (first | exact sub_nil _ | refine sub_cons rfl rfl ?_))
  rintro _ w ⟨hfm, st⟩
  rcases hdn : P.down with _ | _
  rotate_left
  · obtain ⟨hsame, hwq, hq⟩ := down_same hdn hfm
    refine WC.seq fun K914 hK914 => ?_
    refine WC.seq fun K915 hK915 => ?_
    -- region 16
    refine WC.region ?_
    -- R16.0 59 := laws.go:122 move
    refine WL.v (by first | exact r_move (v := .bool _) rfl | exact r_move rfl) rfl rfl rfl ?_
    refine WL.fin hK915 (fun _ _ h => h) ?_
    refine WC.condT rfl rfl ?_
    refine WC.exitF hK897 (fun _ _ h => h) ?_
    -- region 49
    refine WC.region ?_
    -- R49.0 227 := laws.go:110 binOp
    refine WL.v (by exact r_add (r := ((i + 1 : Nat) : Int)) rfl rfl ((wi64 (by omega) (by omega)).trans (by omega))) rfl rfl rfl ?_
    -- R49.1 26 := laws.go:110 move
    refine WL.v (by first | exact r_move (v := .int _ _) rfl | exact r_move rfl) rfl rfl rfl ?_
    rw [← hsame.lim]
    refine WL.next hK1 (fun _ _ h => h) ⟨D', (stepP P (op i)).1, i + 1, bw, bm, NS, wv, XW, f, K, sv, t, tb⟩ ⟨h', by show i + 1 ≤ n; omega, by show (stepP P (op i)).1.wr ≤ 128 * (i + 1); omega, hbk.same hsame, by show OwnP _ _ _ (stepP P (op i)).1.pend.length _ _; rw [hsame.pend]; exact hown, hsvo, hsvl, hsvr, (fun h => by obtain ⟨q1, q2, q3, q4⟩ := hq h; obtain ⟨r1, r2, r3⟩ := harm q1; exact ⟨r1.trans q2.symm, r2.trans q3.symm, r3.trans q4.symm⟩), st.drop.drop1⟩ (by show n - (i + 1) < n - i; omega) (by repeat (first | exact sub_nil _ | refine sub_cons rfl rfl ?_))
  obtain ⟨q, R, hFA⟩ := fa_of hdn hfm h.wf hok.dat.byt
  have hwq := hFA.wr
  refine WC.seq fun K916 hK916 => ?_
  refine WC.seq fun K917 hK917 => ?_
  -- region 16
  refine WC.region ?_
  -- R16.0 59 := laws.go:122 move
  refine WL.v (by first | exact r_move (v := .bool _) rfl | exact r_move rfl) rfl rfl rfl ?_
  refine WL.fin hK917 (fun _ _ h => h) ?_
  refine WC.condF rfl rfl ?_
  refine WC.skipF hK916 (fun _ _ h => h) ?_
  refine WC.seq fun K918 hK918 => ?_
  -- region 17
  refine WC.region ?_
  -- R17.0 60 := laws.go:125 move
  refine WL.v (by first | exact r_move (v := .pointer _) rfl | exact r_move rfl) rfl rfl rfl ?_
  -- R17.1 61 := laws.go:125 nilCheck
  refine WL.v (by exact r_nilCheck rfl) rfl rfl rfl ?_
  -- R17.2 62 := laws.go:125 fieldAddr
  refine WL.v (by exact r_field ty_fld42_0 rfl) rfl rfl rfl ?_
  -- R17.3 63 := laws.go:125 load
  refine WL.v (by exact r_load1 ty_one40 rfl (by first | assumption | exact st.c0 (by first | decide | omega) | exact st.c1 (by first | decide | omega) | exact st.c2 (by first | decide | omega) | exact st.c3 (by first | decide | omega) | exact st.c4 (by first | decide | omega) | exact st.c5 (by first | decide | omega) | exact st.c6 (by first | decide | omega) | exact st.c7 (by first | decide | omega) | exact st.c8 (by first | decide | omega))) rfl rfl rfl ?_
  -- R17.4 64 := laws.go:125 call
  refine WL.call (r_call ty_call32 rfl) rfl rfl rfl (stats_ok (st_inF [_, _, _, _, _, _] st)) ?_
  rintro _ w ⟨rfl, st⟩
  have st := st_outF [_, _, _, _, _, _] st
  rw [h'.sx]
  -- R17.5 65 := laws.go:125 field
  refine WL.v (by exact r_fieldv ty_fv67_1 rfl rfl) rfl rfl rfl ?_
  -- R17.6 66 := laws.go:125 move
  refine WL.v (by first | exact r_move (v := .int _ _) rfl | exact r_move rfl) rfl rfl rfl ?_
  -- R17.7 67 := laws.go:125 binOp
  refine WL.v (by exact r_sub (r := ((q : Nat) : Int)) rfl rfl ((wi64 (by omega) (by omega)).trans (by omega))) rfl rfl rfl ?_
  -- R17.8 12 := laws.go:125 assign
  refine WL.v (by first | exact r_assign (v := .int _ _) rfl | exact r_assign rfl) rfl rfl rfl ?_
  refine WL.fin hK918 (fun _ _ h => h) ?_
  refine WC.cut (ι := BA) (fun _ => [(1, .func (.func F) #[] #[]), (5, .pointer (some ⟨bs, 0, none⟩)), (6, .pointer (some ⟨bw, 0, none⟩)), (7, .int .i64 (P.lim : Nat)), (8, .pointer (some ⟨b8, 0, none⟩)), (10, .pointer (some ⟨b10, 0, none⟩)), (13, .pointer (some ⟨b13, 0, none⟩)), (24, .slice (some ⟨sb, so, none⟩) n c), (25, .int .i64 (n : Nat)), (26, .int .i64 (i : Nat))]) (fun z w' => Bk w0 K P.sec R.pc R.pend z.NS z.f ∧ OwnP 63 2 z.wv R.pend.length z.XW z.f ∧ S0 w0 ((b13, Row 37 2 (nth [.int .i64 (stepP P (op i)).2, .slice da dn dc])) :: sI bs D'.bD :: opI b10 (op i) :: bkI bw bm z.wv (.slice none 0 0) 0 0 (.slice none 0 0) 0 :: mpI bm z.NS :: plI b8 sv t tb :: DI D' 0 (z.XW ++ K)) w') ?_ ?_
  rotate_left
  · intro KC hKC
    by_cases hk1 : (op i).kind = 1
    rotate_left
    · have eR := hFA.oth hk1
      subst eR
      refine WC.seq fun K919 hK919 => ?_
      -- region 18
      refine WC.region ?_
      -- R18.0 68 := laws.go:126 fieldAddr
      refine WL.v (by exact r_field ty_fld33_0 rfl) rfl rfl rfl ?_
      -- R18.1 69 := laws.go:126 load
      refine WL.v (by exact r_load1 ty_one28 rfl (by first | assumption | exact st.c0 (by first | decide | omega) | exact st.c1 (by first | decide | omega) | exact st.c2 (by first | decide | omega) | exact st.c3 (by first | decide | omega) | exact st.c4 (by first | decide | omega) | exact st.c5 (by first | decide | omega) | exact st.c6 (by first | decide | omega) | exact st.c7 (by first | decide | omega) | exact st.c8 (by first | decide | omega))) rfl rfl rfl ?_
      -- R18.2 70 := laws.go:126 binOp
      refine WL.v (by first | exact r_eql rfl rfl (decide_eq_true (by omega)) | exact r_eql rfl rfl (decide_eq_false (by omega)) | exact r_eql rfl rfl rfl) rfl rfl rfl ?_
      refine WL.fin hK919 (fun _ _ h => h) ?_
      refine WC.condF rfl rfl ?_
      refine WC.skipJ hKC (fun _ _ h => h) ⟨NS, wv, XW, f⟩ ⟨hbk, hown, st⟩ (by repeat (first | exact sub_nil _ | refine sub_cons rfl rfl ?_))
    obtain ⟨hq1, hq2, hq3⟩ := hFA.wrt hk1
    have hdl := hok.datl; have hdle := hok.dat.le; have hdcap := hok.dat.cap
    obtain ⟨sn, hsn⟩ : ∃ sn, sn = (op i).sct.toNat := ⟨_, rfl⟩
    rw [← hsn] at hq3
    refine WC.seq fun K920 hK920 => ?_
    -- region 18
    refine WC.region ?_
    -- R18.0 68 := laws.go:126 fieldAddr
    refine WL.v (by exact r_field ty_fld33_0 rfl) rfl rfl rfl ?_
    -- R18.1 69 := laws.go:126 load
    refine WL.v (by exact r_load1 ty_one28 rfl (by first | assumption | exact st.c0 (by first | decide | omega) | exact st.c1 (by first | decide | omega) | exact st.c2 (by first | decide | omega) | exact st.c3 (by first | decide | omega) | exact st.c4 (by first | decide | omega) | exact st.c5 (by first | decide | omega) | exact st.c6 (by first | decide | omega) | exact st.c7 (by first | decide | omega) | exact st.c8 (by first | decide | omega))) rfl rfl rfl ?_
    -- R18.2 70 := laws.go:126 binOp
    refine WL.v (by first | exact r_eql rfl rfl (decide_eq_true (by omega)) | exact r_eql rfl rfl (decide_eq_false (by omega)) | exact r_eql rfl rfl rfl) rfl rfl rfl ?_
    refine WL.fin hK920 (fun _ _ h => h) ?_
    refine WC.condT rfl rfl ?_
    refine WC.seq fun K921 hK921 => ?_
    -- region 19
    refine WC.region ?_
    -- R19.0 71 := laws.go:127 fieldAddr
    refine WL.v (by exact r_field ty_fld33_4 rfl) rfl rfl rfl ?_
    -- R19.1 72 := laws.go:127 load
    refine WL.v (by exact r_load1 ty_one29 rfl (by first | assumption | exact st.c0 (by first | decide | omega) | exact st.c1 (by first | decide | omega) | exact st.c2 (by first | decide | omega) | exact st.c3 (by first | decide | omega) | exact st.c4 (by first | decide | omega) | exact st.c5 (by first | decide | omega) | exact st.c6 (by first | decide | omega) | exact st.c7 (by first | decide | omega) | exact st.c8 (by first | decide | omega))) rfl rfl rfl ?_
    -- R19.2 73 := laws.go:127 call
    refine WL.call (r_call ty_call26 rfl) rfl rfl rfl (secs_ok hok.dat.adr hok.dat.le hok.dat.cap (by omega) st) ?_
    rintro _ w ⟨XS, fS, howS, hfS, st⟩
    obtain ⟨oa, oc, ob, rfl, hoa, hord⟩ := howS.form
    have hoc : (op i).dat.bs.length / 512 ≤ oc := by
      rcases howS with ⟨hq, hm, _⟩ | ⟨_, _, hq, hm, _⟩
      · rw [hm]; exact Nat.zero_le _
      · cases hq; exact hm
    have st := st_push [_, _, _, _, _, _] XS st
    -- R19.3 74 := laws.go:127 move
    refine WL.v (by first | exact r_move (v := .int _ _) rfl | exact r_move rfl) rfl rfl rfl ?_
    -- R19.4 75 := laws.go:127 slice
    refine WL.v (v := .slice (slA oa 0 oc 1) q oc) (by exact r_slHA ty_sl54 rfl ⟨_, rfl⟩ (by omega)) rfl rfl rfl ?_
    -- R19.5 76 := laws.go:127 call
    refine WL.v (by exact r_len ty_usl54 rfl) rfl rfl rfl ?_
    -- R19.6 77 := laws.go:127 move
    refine WL.v (by first | exact r_move (v := .int _ _) rfl | exact r_move rfl) rfl rfl rfl ?_
    refine WL.fin hK921 (fun _ _ h => h) ?_
    refine WC.block ?_
    refine WC.loop (ι := Nat × BA) (fun z => [(1, .func (.func F) #[] #[]), (5, .pointer (some ⟨bs, 0, none⟩)), (6, .pointer (some ⟨bw, 0, none⟩)), (7, .int .i64 (P.lim : Nat)), (8, .pointer (some ⟨b8, 0, none⟩)), (10, .pointer (some ⟨b10, 0, none⟩)), (13, .pointer (some ⟨b13, 0, none⟩)), (24, .slice (some ⟨sb, so, none⟩) n c), (25, .int .i64 (n : Nat)), (26, .int .i64 (i : Nat)), (75, .slice (slA oa 0 oc 1) q oc), (76, .int .i64 (q : Nat)), (77, .int .i64 (z.1 : Nat))])
      (fun z w' => z.1 ≤ q ∧ Bk w0 K P.sec (pwL (op i).dat.bs sn 0 z.1 P).pc (pwL (op i).dat.bs sn 0 z.1 P).pend z.2.NS z.2.f ∧ OwnP 63 2 z.2.wv (pwL (op i).dat.bs sn 0 z.1 P).pend.length z.2.XW z.2.f ∧ S0 w0 ((b13, Row 37 2 (nth [.int .i64 (stepP P (op i)).2, .slice da dn dc])) :: sI bs D'.bD :: opI b10 (op i) :: bkI bw bm z.2.wv (.slice none 0 0) 0 0 (.slice none 0 0) 0 :: mpI bm z.2.NS :: plI b8 sv t tb :: DI D' 0 (XS ++ (z.2.XW ++ K))) w') (fun z => q - z.1) (0, ⟨NS, wv, XW, f⟩)
      ⟨Nat.zero_le _, hbk, hown, st⟩ ?_ ?_
    · skip
      repeat (first | exact sub_nil _ | refine sub_cons rfl rfl ?_)
    rintro ⟨j, NJ, wJ, XJ, fJ⟩ w ⟨hj, hbj, hoj, st⟩ K2 hK2
    dsimp only at hj hbj hoj st ⊢
    by_cases hjl : ¬ j < q
    · obtain rfl : j = q := by omega
      refine WC.seq fun K922 hK922 => ?_
      -- region 20
      refine WC.region ?_
      -- R20.0 78 := laws.go:127 binOp
      refine WL.v (by first | exact r_lss rfl rfl (decide_eq_true (by omega)) | exact r_lss rfl rfl (decide_eq_false (by omega)) | exact r_lss rfl rfl rfl) rfl rfl rfl ?_
      refine WL.fin hK922 (fun _ _ h => h) ?_
      refine WC.seq fun K923 hK923 => ?_
      refine WC.condF rfl rfl ?_
      refine WC.exitJ hKC (fun _ _ h => h) ⟨NJ, wJ, XJ, fJ⟩ ⟨by show Bk w0 K P.sec R.pc R.pend NJ fJ; rw [hq3.pc, hq3.pend]; exact hbj, by show OwnP _ _ wJ R.pend.length XJ fJ; rw [hq3.pend]; exact hoj, st.sublist (((((((di_sub (List.sublist_append_right _ _)).cons_cons _).cons_cons _).cons_cons _).cons_cons _).cons_cons _).cons_cons _)⟩ (by repeat (first | exact sub_nil _ | refine sub_cons rfl rfl ?_))
    have hjl : j < q := by omega
    obtain ⟨hz1, hz2⟩ := hq2 (by omega)
    have hsn2 : (op i).sct = (sn : Int) := by omega
    obtain ⟨Pj, hPj⟩ : ∃ Pj, Pj = pwL (op i).dat.bs sn 0 j P := ⟨_, rfl⟩
    have hpwf := pwL_wf (s := sn) hok.dat.byt (n := j) (i := 0) h.wf (by omega)
    have hplim : Pj.lim = P.lim := by rw [hPj]; exact pwL_lim
    rw [← hPj] at hbj hoj hpwf
    obtain rfl := hoa (by omega)
    have hsee : Sees w0 K (.slice (some ⟨(op i).dat.b, (op i).dat.o + j * 512, none⟩) 512 ((op i).dat.c - j * 512)) (bytesOf 512 (cutB (op i).dat.bs j)) :=
      Sees.cells (cutB_range hok.dat.byt j) (by omega) (by omega) fun l w' _ st k hk => by rw [Nat.add_assoc]; exact sv_old hok.datr st (j * 512 + k) (by omega)
    have ea : slA (some ⟨ob, 0, none⟩) 0 oc 1 = some ⟨ob, 0, none⟩ := slA_zero (by omega) rfl
    rw [ea] at hK2 ⊢
    have hs2' : Pj.pend.length ≤ 65536 := by have := hpwf.1.ple; have := hpwf.1.l2; omega
    refine WC.seq fun K924 hK924 => ?_
    -- region 20
    refine WC.region ?_
    -- R20.0 78 := laws.go:127 binOp
    refine WL.v (by first | exact r_lss rfl rfl (decide_eq_true (by omega)) | exact r_lss rfl rfl (decide_eq_false (by omega)) | exact r_lss rfl rfl rfl) rfl rfl rfl ?_
    refine WL.fin hK924 (fun _ _ h => h) ?_
    refine WC.seq fun K925 hK925 => ?_
    refine WC.condT rfl rfl ?_
    refine WC.skipF hK925 (fun _ _ h => h) ?_
    refine WC.seq fun K926 hK926 => ?_
    refine WC.block ?_
    refine WC.seq fun K927 hK927 => ?_
    -- region 21
    refine WC.region ?_
    -- R21.0 79 := laws.go:127 move
    refine WL.v (by first | exact r_move (v := .int _ _) rfl | exact r_move rfl) rfl rfl rfl ?_
    -- R21.1 80 := laws.go:127 indexAddr
    refine WL.v (by exact r_indexS (j := j) ty_sl54 rfl rfl rfl hjl) rfl rfl rfl ?_
    -- R21.2 81 := laws.go:127 load
    refine WL.v (v := .slice (some ⟨(op i).dat.b, (op i).dat.o + j * 512, none⟩) 512 ((op i).dat.c - j * 512)) (by exact r_load1 ty_one29 rfl (by rw [show 0 + j * 1 = j by omega, hord st (fun x hx => List.mem_cons_of_mem _ (List.mem_cons_of_mem _ (List.mem_cons_of_mem _ (List.mem_cons_of_mem _ (List.mem_cons_of_mem _ (List.mem_cons_of_mem _ (mem_in (List.mem_append_left _ hx)))))))) j (by omega), hfS j (by omega)])) rfl rfl rfl ?_
    -- R21.3 14 := laws.go:127 assign
    refine WL.v (by first | exact r_assign (v := .int _ _) rfl | exact r_assign rfl) rfl rfl rfl ?_
    -- R21.4 15 := laws.go:127 assign
    refine WL.v (by first | exact r_assign (v := .slice _ _ _) rfl | exact r_assign rfl) rfl rfl rfl ?_
    refine WL.fin hK927 (fun _ _ h => h) ?_
    refine WC.cut (ι := BA) (fun _ => [(1, .func (.func F) #[] #[]), (5, .pointer (some ⟨bs, 0, none⟩)), (6, .pointer (some ⟨bw, 0, none⟩)), (7, .int .i64 (P.lim : Nat)), (8, .pointer (some ⟨b8, 0, none⟩)), (10, .pointer (some ⟨b10, 0, none⟩)), (13, .pointer (some ⟨b13, 0, none⟩)), (24, .slice (some ⟨sb, so, none⟩) n c), (25, .int .i64 (n : Nat)), (26, .int .i64 (i : Nat)), (14, .int .i64 (j : Nat)), (15, .slice (some ⟨(op i).dat.b, (op i).dat.o + j * 512, none⟩) 512 ((op i).dat.c - j * 512)), (75, .slice (some ⟨ob, 0, none⟩) q oc), (76, .int .i64 (q : Nat)), (77, .int .i64 (j : Nat))])
      (fun z w' => Bk w0 K P.sec (destP Pj).pc (destP Pj).pend z.NS z.f ∧ OwnP 63 2 z.wv (destP Pj).pend.length z.XW z.f ∧ S0 w0 ((b13, Row 37 2 (nth [.int .i64 (stepP P (op i)).2, .slice da dn dc])) :: sI bs D'.bD :: opI b10 (op i) :: bkI bw bm z.wv (.slice none 0 0) 0 0 (.slice none 0 0) 0 :: mpI bm z.NS :: plI b8 sv t tb :: DI D' 0 (XS ++ (z.XW ++ K))) w') ?_ ?_
    rotate_left
    · intro KD hKD
      obtain ⟨wa, wc, wb, wo, rfl, hwc, hwa, hwrd⟩ := hoj.form
      by_cases hfl : Pj.pend.length = Pj.lim
      rotate_left
      · have ed : destP Pj = Pj := if_neg hfl
        refine WC.seq fun K928 hK928 => ?_
        -- region 22
        refine WC.region ?_
        -- R22.0 82 := laws.go:128 move
        refine WL.v (by first | exact r_move (v := .pointer _) rfl | exact r_move rfl) rfl rfl rfl ?_
        -- R22.1 83 := laws.go:128 nilCheck
        refine WL.v (by exact r_nilCheck rfl) rfl rfl rfl ?_
        -- R22.2 84 := laws.go:128 fieldAddr
        refine WL.v (by exact r_field ty_fld60_1 rfl) rfl rfl rfl ?_
        -- R22.3 85 := laws.go:128 load
        refine WL.v (by exact r_load1 ty_one46 rfl (by first | assumption | exact st.c0 (by first | decide | omega) | exact st.c1 (by first | decide | omega) | exact st.c2 (by first | decide | omega) | exact st.c3 (by first | decide | omega) | exact st.c4 (by first | decide | omega) | exact st.c5 (by first | decide | omega) | exact st.c6 (by first | decide | omega) | exact st.c7 (by first | decide | omega) | exact st.c8 (by first | decide | omega))) rfl rfl rfl ?_
        -- R22.4 86 := laws.go:128 call
        refine WL.v (by exact r_len ty_usl46 rfl) rfl rfl rfl ?_
        -- R22.5 87 := laws.go:128 move
        refine WL.v (by first | exact r_move (v := .int _ _) rfl | exact r_move rfl) rfl rfl rfl ?_
        -- R22.6 88 := laws.go:128 binOp
        refine WL.v (by exact r_eql rfl rfl (decide_eq_false (by omega))) rfl rfl rfl ?_
        refine WL.fin hK928 (fun _ _ h => h) ?_
        refine WC.condF rfl rfl ?_
        refine WC.skipJ hKD (fun _ _ h => h) ⟨NJ, _, XJ, fJ⟩ ⟨by rw [ed]; exact hbj, by rw [ed]; exact hoj, st⟩ (by repeat (first | exact sub_nil _ | refine sub_cons rfl rfl ?_))
      obtain ⟨p, pl, hp⟩ : ∃ p pl, Pj.pend = p :: pl := by
        cases hq : Pj.pend with
        | nil => rw [hq] at hfl; have := hpwf.1.l1; simp at hfl; omega
        | cons p pl => exact ⟨p, pl, rfl⟩
      have ed0 : destP Pj = { Pj with pc := stP Pj.pc (Pj.pend.getD 0 (0, fun _ => 0)).1 512 (Pj.pend.getD 0 (0, fun _ => 0)).2, pend := Pj.pend.drop 1 } := if_pos hfl
      have ed : (destP Pj).pc = stP Pj.pc p.1 512 p.2 ∧ (destP Pj).pend = pl := by rw [ed0, hp]; exact ⟨rfl, rfl⟩
      have hps := (hpwf.1.psec p (by rw [hp]; exact List.mem_cons_self)).1
      rw [hp] at hbj hoj
      have hlp : (p :: pl).length = pl.length + 1 := rfl
      rw [hlp] at hoj
      obtain ⟨hp0, hp1⟩ := hbj.wt 0 p rfl
      obtain ⟨wa2, wc2, v', hwv, hwc2, hv', hoj'⟩ := hoj.tail
      cases hwv
      have hpl : Pj.pend.length = pl.length + 1 := by rw [hp]; rfl
      rw [hpl] at hwrd hwc hwa hfl
      obtain rfl := hwa (by omega)
      refine WC.seq fun K929 hK929 => ?_
      -- region 22
      refine WC.region ?_
      -- R22.0 82 := laws.go:128 move
      refine WL.v (by first | exact r_move (v := .pointer _) rfl | exact r_move rfl) rfl rfl rfl ?_
      -- R22.1 83 := laws.go:128 nilCheck
      refine WL.v (by exact r_nilCheck rfl) rfl rfl rfl ?_
      -- R22.2 84 := laws.go:128 fieldAddr
      refine WL.v (by exact r_field ty_fld60_1 rfl) rfl rfl rfl ?_
      -- R22.3 85 := laws.go:128 load
      refine WL.v (by exact r_load1 ty_one46 rfl (by first | assumption | exact st.c0 (by first | decide | omega) | exact st.c1 (by first | decide | omega) | exact st.c2 (by first | decide | omega) | exact st.c3 (by first | decide | omega) | exact st.c4 (by first | decide | omega) | exact st.c5 (by first | decide | omega) | exact st.c6 (by first | decide | omega) | exact st.c7 (by first | decide | omega) | exact st.c8 (by first | decide | omega))) rfl rfl rfl ?_
      -- R22.4 86 := laws.go:128 call
      refine WL.v (by exact r_len ty_usl46 rfl) rfl rfl rfl ?_
      -- R22.5 87 := laws.go:128 move
      refine WL.v (by first | exact r_move (v := .int _ _) rfl | exact r_move rfl) rfl rfl rfl ?_
      -- R22.6 88 := laws.go:128 binOp
      refine WL.v (by exact r_eql rfl rfl (decide_eq_true (by omega))) rfl rfl rfl ?_
      refine WL.fin hK929 (fun _ _ h => h) ?_
      refine WC.condT rfl rfl ?_
      refine WC.seq fun K930 hK930 => ?_
      -- region 23 (draws)
      refine WC.tailS 18 st ty_mixed (by kernel_rfl) fun w st Kq hKq => ?_
      -- R23.0 89 := laws.go:129 move
      refine SL.v (by first | exact r_move (v := .pointer _) rfl | exact r_move rfl) rfl rfl rfl ?_
      -- R23.1 90 := laws.go:129 nilCheck
      refine SL.v (by exact r_nilCheck rfl) rfl rfl rfl ?_
      -- R23.2 91 := laws.go:129 fieldAddr
      refine SL.v (by exact r_field ty_fld60_0 rfl) rfl rfl rfl ?_
      -- R23.3 92 := laws.go:129 load
      refine SL.v (by exact r_load1 ty_one45 rfl (by first | assumption | exact st.c0 (by first | decide | omega) | exact st.c1 (by first | decide | omega) | exact st.c2 (by first | decide | omega) | exact st.c3 (by first | decide | omega) | exact st.c4 (by first | decide | omega) | exact st.c5 (by first | decide | omega) | exact st.c6 (by first | decide | omega) | exact st.c7 (by first | decide | omega) | exact st.c8 (by first | decide | omega))) rfl rfl rfl ?_
      -- R23.4 93 := laws.go:129 move
      refine SL.v (by first | exact r_move (v := .pointer _) rfl | exact r_move rfl) rfl rfl rfl ?_
      -- R23.5 94 := laws.go:129 nilCheck
      refine SL.v (by exact r_nilCheck rfl) rfl rfl rfl ?_
      -- R23.6 95 := laws.go:129 fieldAddr
      refine SL.v (by exact r_field ty_fld60_1 rfl) rfl rfl rfl ?_
      -- R23.7 96 := laws.go:129 load
      refine SL.v (by exact r_load1 ty_one46 rfl (by first | assumption | exact st.c0 (by first | decide | omega) | exact st.c1 (by first | decide | omega) | exact st.c2 (by first | decide | omega) | exact st.c3 (by first | decide | omega) | exact st.c4 (by first | decide | omega) | exact st.c5 (by first | decide | omega) | exact st.c6 (by first | decide | omega) | exact st.c7 (by first | decide | omega) | exact st.c8 (by first | decide | omega))) rfl rfl rfl ?_
      -- R23.8 97 := laws.go:129 indexAddr
      refine SL.v (by exact r_indexS (j := 0) ty_sl46 rfl rfl rfl (by first | decide | omega)) rfl rfl rfl ?_
      -- R23.9 98 := laws.go:129 fieldAddr
      refine SL.v (by exact r_field ty_fld63_0 rfl) rfl rfl rfl ?_
      -- R23.10 99 := laws.go:129 load
      refine SL.v (val := .int .i64 (p.1 : Nat)) (by exact r_load1 ty_one2 rfl (by rw [show wo + 0 * 2 + 0 = wo + 0 by omega, hwrd st (fun x hx => List.mem_cons_of_mem _ (List.mem_cons_of_mem _ (List.mem_cons_of_mem _ (List.mem_cons_of_mem _ (List.mem_cons_of_mem _ (List.mem_cons_of_mem _ (mem_in (List.mem_append_right _ (List.mem_append_left _ hx))))))))) 0 (by omega)]; exact congrArg some hp0)) rfl rfl rfl ?_
      -- R23.11 100 := laws.go:129 move
      refine SL.v (by first | exact r_move (v := .pointer _) rfl | exact r_move rfl) rfl rfl rfl ?_
      -- R23.12 101 := laws.go:129 nilCheck
      refine SL.v (by exact r_nilCheck rfl) rfl rfl rfl ?_
      -- R23.13 102 := laws.go:129 fieldAddr
      refine SL.v (by exact r_field ty_fld60_1 rfl) rfl rfl rfl ?_
      -- R23.14 103 := laws.go:129 load
      refine SL.v (by exact r_load1 ty_one46 rfl (by first | assumption | exact st.c0 (by first | decide | omega) | exact st.c1 (by first | decide | omega) | exact st.c2 (by first | decide | omega) | exact st.c3 (by first | decide | omega) | exact st.c4 (by first | decide | omega) | exact st.c5 (by first | decide | omega) | exact st.c6 (by first | decide | omega) | exact st.c7 (by first | decide | omega) | exact st.c8 (by first | decide | omega))) rfl rfl rfl ?_
      -- R23.15 104 := laws.go:129 indexAddr
      refine SL.v (by exact r_indexS (j := 0) ty_sl46 rfl rfl rfl (by first | decide | omega)) rfl rfl rfl ?_
      -- R23.16 105 := laws.go:129 fieldAddr
      refine SL.v (by exact r_field ty_fld63_1 rfl) rfl rfl rfl ?_
      -- R23.17 106 := laws.go:129 load
      refine SL.v (val := fJ 1) (by exact r_load1 ty_one29 rfl (by rw [show wo + 0 * 2 + 1 = wo + 1 by omega, hwrd st (fun x hx => List.mem_cons_of_mem _ (List.mem_cons_of_mem _ (List.mem_cons_of_mem _ (List.mem_cons_of_mem _ (List.mem_cons_of_mem _ (List.mem_cons_of_mem _ (mem_in (List.mem_append_right _ (List.mem_append_left _ hx))))))))) 1 (by omega)])) rfl rfl rfl ?_
      refine SL.fin hKq ?_
      -- R23.18 None := laws.go:129 mapUpdate
      refine WL.mapSetI (s := ((p.1 : Nat) : Int)) (val := fJ 1) ty_kb2 st.front4 ty_mp45 rfl rfl rfl (good64 (by omega) (by omega)) rfl rfl ?_
      intro w st
      have st := st.back4
      refine WL.fin hK930 (fun _ _ h => h) ?_
      -- region 24
      refine WC.region ?_
      -- R24.0 107 := laws.go:130 move
      refine WL.v (by first | exact r_move (v := .pointer _) rfl | exact r_move rfl) rfl rfl rfl ?_
      -- R24.1 108 := laws.go:130 move
      refine WL.v (by first | exact r_move (v := .pointer _) rfl | exact r_move rfl) rfl rfl rfl ?_
      -- R24.2 109 := laws.go:130 nilCheck
      refine WL.v (by exact r_nilCheck rfl) rfl rfl rfl ?_
      -- R24.3 110 := laws.go:130 fieldAddr
      refine WL.v (by exact r_field ty_fld60_1 rfl) rfl rfl rfl ?_
      -- R24.4 111 := laws.go:130 load
      refine WL.v (by exact r_load1 ty_one46 rfl (by first | assumption | exact st.c0 (by first | decide | omega) | exact st.c1 (by first | decide | omega) | exact st.c2 (by first | decide | omega) | exact st.c3 (by first | decide | omega) | exact st.c4 (by first | decide | omega) | exact st.c5 (by first | decide | omega) | exact st.c6 (by first | decide | omega) | exact st.c7 (by first | decide | omega) | exact st.c8 (by first | decide | omega))) rfl rfl rfl ?_
      -- R24.5 112 := laws.go:130 slice
      refine WL.v (v := .slice (slA (some ⟨wb, wo, none⟩) 1 wc 2) pl.length (wc - 1)) (by exact r_slLoS (l := 1) ty_sl46 rfl ⟨_, rfl⟩ (by omega) (by omega) (by omega) rfl) rfl rfl rfl ?_
      -- R24.6 113 := laws.go:130 nilCheck
      refine WL.v (by exact r_nilCheck rfl) rfl rfl rfl ?_
      -- R24.7 114 := laws.go:130 fieldAddr
      refine WL.v (by exact r_field ty_fld60_1 rfl) rfl rfl rfl ?_
      -- R24.8 None := laws.go:130 store
      refine WL.store (v := .slice (slA (some ⟨wb, wo, none⟩) 1 wc 2) pl.length (wc - 1)) st.front3 ty_one46 rfl rfl rfl (by decide) rfl rfl ?_
      intro w st
      have st := (st_nrm (L' := [.map (some bm), .slice (slA (some ⟨wb, wo, none⟩) 1 wc 2) pl.length (wc - 1), .slice none 0 0, .int .i64 (0), .int .i64 (0), .slice none 0 0, .int .i64 (0)]) rfl st).back3
      refine WL.join hKD (fun _ _ h => h) ⟨setN NJ (p.1 : Int) (fJ 1), .slice (slA (some ⟨wb, wo, none⟩) 1 wc 2) pl.length (wc - 1), XJ, fun j => fJ (2 + j)⟩ ⟨by rw [ed.1, ed.2]; exact hbj.dest, by rw [ed.2, ← hv']; exact hoj', st⟩ (by repeat (first | exact sub_nil _ | refine sub_cons rfl rfl ?_))
    rintro ⟨NQ, wQ, XQ, fQ⟩ w ⟨hbq, hoq, st⟩
    dsimp only at hbq hoq st
    have hdl2 : (destP Pj).pend.length ≤ 65536 := by
      unfold destP
      split
      · show (Pj.pend.drop 1).length ≤ _; rw [List.length_drop]; omega
      · exact hs2'
    obtain ⟨wa, wc, wb, wo, rfl, hwc, hwa, hwrd⟩ := hoq.form
    -- region 25 (draws)
    refine WC.mixLS [13, 14, 15] [(0, true), (1, true), (2, true), (3, true), (4, true), (5, true), (6, true), (7, true), (8, true), (9, false), (10, false), (11, false), (12, false), (13, false), (14, false), (15, false)] st (st_p4 st) ty_mixed (by kernel_rfl) fun w st => ?_
    -- R25.0 115 := laws.go:132 move
    refine MLL.v (fun w st => by first | exact r_move (v := .pointer _) rfl | exact r_move rfl) rfl rfl rfl ?_
    -- R25.1 116 := laws.go:132 move
    refine MLL.v (fun w st => by first | exact r_move (v := .pointer _) rfl | exact r_move rfl) rfl rfl rfl ?_
    -- R25.2 117 := laws.go:132 nilCheck
    refine MLL.v (fun w st => by exact r_nilCheck rfl) rfl rfl rfl ?_
    -- R25.3 118 := laws.go:132 fieldAddr
    refine MLL.v (fun w st => by exact r_field ty_fld60_1 rfl) rfl rfl rfl ?_
    -- R25.4 119 := laws.go:132 load
    refine MLL.v (fun w st => by exact r_load1 ty_one46 rfl (by first | assumption | exact st.c0 (by first | decide | omega) | exact st.c1 (by first | decide | omega) | exact st.c2 (by first | decide | omega) | exact st.c3 (by first | decide | omega) | exact st.c4 (by first | decide | omega) | exact st.c5 (by first | decide | omega) | exact st.c6 (by first | decide | omega) | exact st.c7 (by first | decide | omega) | exact st.c8 (by first | decide | omega))) rfl rfl rfl ?_
    -- R25.5 120 := laws.go:132 fieldAddr
    refine MLL.v (fun w st => by exact r_field ty_fld33_1 rfl) rfl rfl rfl ?_
    -- R25.6 121 := laws.go:132 load
    refine MLL.v (val := .int .i64 (sn : Nat)) (fun w st => by exact r_load1 ty_one2 rfl ((st.c2 (by decide)).trans (show some (Value.int .i64 (op i).sct) = _ by rw [hsn2]))) rfl rfl rfl ?_
    -- R25.7 122 := laws.go:132 move
    refine MLL.v (fun w st => by first | exact r_move (v := .int _ _) rfl | exact r_move rfl) rfl rfl rfl ?_
    -- R25.8 123 := laws.go:132 binOp
    refine MLL.v (fun w st => by exact r_add (r := ((sn + j : Nat) : Int)) rfl rfl ((wi64 (by omega) (by omega)).trans (by omega))) rfl rfl rfl ?_
    refine MLL.at ?_
    -- R25.9 124 := laws.go:132 move
    refine WL.v (by first | exact r_move (v := .slice _ _ _) rfl | exact r_move rfl) rfl rfl rfl ?_
    refine MLL.nxt ((by first | exact st_p4 st | exact st_p4 st.drop)) ?_
    refine MLL.at ?_
    -- R25.10 125 := laws.go:132 build
    refine WL.v (by exact r_build (ps := [(0, .int _ _), (1, .slice _ _ _)]) (vs := [_, _]) ty_pl63 ty_zero63 rfl (fill_step (pv := [_]) (cs' := [_, _]) rfl rfl rfl rfl (fill_step (pv := [_]) (cs' := [_, _]) rfl rfl rfl rfl (fill_nil)))) rfl rfl rfl ?_
    refine MLL.nxt ((by first | exact st_p4 st | exact st_p4 st.drop)) ?_
    refine MLL.at ?_
    -- R25.11 126 := laws.go:132 buildSlice
    first | refine WL.mkslice (m := 2) (vs := [.int _ _, .slice _ _ _]) st ty_sl46 ty_zero63 rfl rfl rfl rfl rfl rfl ?_ | refine WL.mkslice (m := 2) (vs := [_, _]) st ty_sl46 ty_zero63 rfl rfl rfl rfl rfl rfl ?_ | refine WL.mkslice st ty_sl46 ty_zero63 rfl rfl rfl rfl rfl rfl ?_
    intro b126 w st
    refine MLL.nxt ((by first | exact st_p4 st | exact st_p4 st.drop)) ?_
    refine MLL.at ?_
    -- R25.12 127 := laws.go:132 call
    have c0 : ∀ k, k < 2 → w.cell? ⟨b126, 0 + k, none⟩ = some (nth [.int .i64 ((sn + j : Nat) : Int), .slice (some ⟨(op i).dat.b, (op i).dat.o + j * 512, none⟩) 512 ((op i).dat.c - j * 512)] k) := fun k hk => by rw [Nat.zero_add]; exact st.c0 hk
    refine WL.appP (bx := b126) (ox := 0) hoq (st_pullX [_, _, _, _, _, _, _] XS XQ st) ty_mk46 ty_sl46 ty_zero63 rfl (by decide) rfl rfl c0 (fun k hk => by match k, hk with | 0, _ => rfl | 1, _ => rfl) (by omega) (by omega) rfl rfl rfl ?_
    intro v3 X3 f3 w ho3 st hf1 hf2
    have st := (st_pushX [_, _, _, _, _, _, _] XS X3 st).drop
    obtain ⟨va3, vc3, vb3, vo3, rfl, _, _, _⟩ := ho3.form
    refine MLL.nxt ((by first | exact st_p4 st | exact st_p4 st.drop)) ?_
    refine MLL.at ?_
    -- R25.13 128 := laws.go:132 nilCheck
    refine WL.v (by exact r_nilCheck rfl) rfl rfl rfl ?_
    refine MLL.nxt' rfl ?_
    refine MLL.at ?_
    -- R25.14 129 := laws.go:132 fieldAddr
    refine WL.v (by exact r_field ty_fld60_1 rfl) rfl rfl rfl ?_
    refine MLL.nxt' rfl ?_
    refine MLL.at ?_
    -- R25.15 None := laws.go:132 store
    refine WL.store (v := .slice va3 ((destP Pj).pend.length + 1) vc3) st.front3 ty_one46 rfl rfl rfl (by decide) rfl rfl ?_
    intro w st
    have st := (st_nrm (L' := [.map (some bm), .slice va3 ((destP Pj).pend.length + 1) vc3, .slice none 0 0, .int .i64 (0), .int .i64 (0), .slice none 0 0, .int .i64 (0)]) rfl st).back3
    refine MLL.nxt' rfl ?_
    refine MLL.wl ?_
    refine WL.fin hK926 (fun _ _ h => h) ?_
    -- region 26
    refine WC.region ?_
    -- R26.0 130 := laws.go:127 binOp
    refine WL.v (by exact r_add (r := ((j + 1 : Nat) : Int)) rfl rfl ((wi64 (by omega) (by omega)).trans (by omega))) rfl rfl rfl ?_
    -- R26.1 77 := laws.go:127 move
    refine WL.v (by first | exact r_move (v := .int _ _) rfl | exact r_move rfl) rfl rfl rfl ?_
    have epj : pwL (op i).dat.bs sn 0 (j + 1) P = pw Pj (sn + j) (cutB (op i).dat.bs j) := by rw [pwL_succ, ← hPj, Nat.add_zero, Nat.zero_add]
    have hlen : (pw Pj (sn + j) (cutB (op i).dat.bs j)).pend.length = (destP Pj).pend.length + 1 := by show ((destP Pj).pend ++ [_]).length = _; rw [List.length_append]; rfl
    refine WL.next hK2 (fun _ _ h => h) (j + 1, ⟨NQ, .slice va3 ((destP Pj).pend.length + 1) vc3, X3, f3⟩) ⟨by show j + 1 ≤ q; omega, by show Bk w0 K P.sec (pwL (op i).dat.bs sn 0 (j + 1) P).pc (pwL (op i).dat.bs sn 0 (j + 1) P).pend NQ f3; rw [epj]; exact hbq.push hsee hf1 (hf2 0 (by decide)) (hf2 1 (by decide)), by show OwnP _ _ _ (pwL (op i).dat.bs sn 0 (j + 1) P).pend.length X3 f3; rw [epj, hlen]; exact ho3, st⟩ (by show q - (j + 1) < q - j; omega) (by repeat (first | exact sub_nil _ | refine sub_cons rfl rfl ?_))
  rintro ⟨NA, wA, XA, fA⟩ w ⟨hbk, hown, st⟩
  dsimp only at hbk hown st
  refine WC.cut (ι := SV × Int × Int) (fun _ => [(1, .func (.func F) #[] #[]), (5, .pointer (some ⟨bs, 0, none⟩)), (6, .pointer (some ⟨bw, 0, none⟩)), (7, .int .i64 (P.lim : Nat)), (8, .pointer (some ⟨b8, 0, none⟩)), (10, .pointer (some ⟨b10, 0, none⟩)), (13, .pointer (some ⟨b13, 0, none⟩)), (24, .slice (some ⟨sb, so, none⟩) n c), (25, .int .i64 (n : Nat)), (26, .int .i64 (i : Nat))]) (fun z w' => (z.1.ok ∧ z.1.bs.length ≤ 65536 ∧ z.1.rd w0) ∧ ((stepP P (op i)).1.armed = true → z.1.bs = (stepP P (op i)).1.keep ∧ z.2.1 = (stepP P (op i)).1.tear ∧ z.2.2 = (stepP P (op i)).1.tb) ∧ ((stepP P (op i)).1.down = true → (op i).kind ≠ 4 → z.1.bs = P.keep ∧ z.2.1 = P.tear ∧ z.2.2 = P.tb) ∧ S0 w0 ((b13, Row 37 2 (nth [.int .i64 (stepP P (op i)).2, .slice da dn dc])) :: sI bs D'.bD :: opI b10 (op i) :: bkI bw bm wA (.slice none 0 0) 0 0 (.slice none 0 0) 0 :: mpI bm NA :: plI b8 z.1 z.2.1 z.2.2 :: DI D' 0 (XA ++ K)) w') ?_ ?_
  rotate_left
  · intro KC hKC
    by_cases hk5 : (op i).kind = 5
    · skip
      by_cases hc0 : (stepP P (op i)).2 = 0
      · skip
        refine WC.seq fun K931 hK931 => ?_
        -- region 27
        refine WC.region ?_
        -- R27.0 131 := laws.go:135 fieldAddr
        refine WL.v (by exact r_field ty_fld33_0 rfl) rfl rfl rfl ?_
        -- R27.1 132 := laws.go:135 load
        refine WL.v (by exact r_load1 ty_one28 rfl (by first | assumption | exact st.c0 (by first | decide | omega) | exact st.c1 (by first | decide | omega) | exact st.c2 (by first | decide | omega) | exact st.c3 (by first | decide | omega) | exact st.c4 (by first | decide | omega) | exact st.c5 (by first | decide | omega) | exact st.c6 (by first | decide | omega) | exact st.c7 (by first | decide | omega) | exact st.c8 (by first | decide | omega))) rfl rfl rfl ?_
        -- R27.2 133 := laws.go:135 binOp
        refine WL.v (by first | exact r_eql rfl rfl (decide_eq_true (by omega)) | exact r_eql rfl rfl (decide_eq_false (by omega)) | exact r_eql rfl rfl rfl) rfl rfl rfl ?_
        -- R27.3 134 := laws.go:135 move
        refine WL.v (by first | exact r_move (v := .bool _) rfl | exact r_move rfl) rfl rfl rfl ?_
        -- R27.4 135 := laws.go:135 fieldAddr
        refine WL.v (by exact r_field ty_fld37_0 rfl) rfl rfl rfl ?_
        -- R27.5 136 := laws.go:135 load
        refine WL.v (by exact r_load1 ty_one35 rfl (by first | assumption | exact st.c0 (by first | decide | omega) | exact st.c1 (by first | decide | omega) | exact st.c2 (by first | decide | omega) | exact st.c3 (by first | decide | omega) | exact st.c4 (by first | decide | omega) | exact st.c5 (by first | decide | omega) | exact st.c6 (by first | decide | omega) | exact st.c7 (by first | decide | omega) | exact st.c8 (by first | decide | omega))) rfl rfl rfl ?_
        -- R27.6 137 := laws.go:135 binOp
        refine WL.v (by first | exact r_eql rfl rfl (decide_eq_true (by omega)) | exact r_eql rfl rfl (decide_eq_false (by omega)) | exact r_eql rfl rfl rfl) rfl rfl rfl ?_
        -- R27.7 138 := laws.go:135 pick
        refine WL.v (by first | exact r_pickT (v := .bool _) rfl rfl | exact r_pickF (v := .bool _) rfl rfl) rfl rfl rfl ?_
        refine WL.fin hK931 (fun _ _ h => h) ?_
        refine WC.condT rfl rfl ?_
        -- region 28
        refine WC.region ?_
        -- R28.0 139 := laws.go:136 fieldAddr
        refine WL.v (by exact r_field ty_fld33_6 rfl) rfl rfl rfl ?_
        -- R28.1 140 := laws.go:136 load
        refine WL.v (by exact r_loadL (vs := [_, _, _]) ty_agg31 rfl ⟨(by first | assumption | exact st.c0 (by first | decide | omega) | exact st.c1 (by first | decide | omega) | exact st.c2 (by first | decide | omega) | exact st.c3 (by first | decide | omega) | exact st.c4 (by first | decide | omega) | exact st.c5 (by first | decide | omega) | exact st.c6 (by first | decide | omega) | exact st.c7 (by first | decide | omega) | exact st.c8 (by first | decide | omega)), (by first | assumption | exact st.c0 (by first | decide | omega) | exact st.c1 (by first | decide | omega) | exact st.c2 (by first | decide | omega) | exact st.c3 (by first | decide | omega) | exact st.c4 (by first | decide | omega) | exact st.c5 (by first | decide | omega) | exact st.c6 (by first | decide | omega) | exact st.c7 (by first | decide | omega) | exact st.c8 (by first | decide | omega)), (by first | assumption | exact st.c0 (by first | decide | omega) | exact st.c1 (by first | decide | omega) | exact st.c2 (by first | decide | omega) | exact st.c3 (by first | decide | omega) | exact st.c4 (by first | decide | omega) | exact st.c5 (by first | decide | omega) | exact st.c6 (by first | decide | omega) | exact st.c7 (by first | decide | omega) | exact st.c8 (by first | decide | omega)), trivial⟩) rfl rfl rfl ?_
        -- R28.2 None := laws.go:136 store
        first | refine WL.storeW (vs := [_, _, _]) st ty_agg31 rfl rfl rfl rfl rfl rfl ?_ | refine WL.storeL (vs := [_, _, _]) st ty_agg31 rfl rfl rfl rfl (by first | decide | omega) rfl rfl ?_ | refine WL.storeW (vs := [_, _, _]) st.front1 ty_agg31 rfl rfl rfl rfl rfl rfl ?_ | refine WL.storeL (vs := [_, _, _]) st.front1 ty_agg31 rfl rfl rfl rfl (by first | decide | omega) rfl rfl ?_ | refine WL.storeW (vs := [_, _, _]) st.front2 ty_agg31 rfl rfl rfl rfl rfl rfl ?_ | refine WL.storeL (vs := [_, _, _]) st.front2 ty_agg31 rfl rfl rfl rfl (by first | decide | omega) rfl rfl ?_ | refine WL.storeW (vs := [_, _, _]) st.front3 ty_agg31 rfl rfl rfl rfl rfl rfl ?_ | refine WL.storeL (vs := [_, _, _]) st.front3 ty_agg31 rfl rfl rfl rfl (by first | decide | omega) rfl rfl ?_ | refine WL.storeW (vs := [_, _, _]) st.front4 ty_agg31 rfl rfl rfl rfl rfl rfl ?_ | refine WL.storeL (vs := [_, _, _]) st.front4 ty_agg31 rfl rfl rfl rfl (by first | decide | omega) rfl rfl ?_ | refine WL.storeW (vs := [_, _, _]) st.front5 ty_agg31 rfl rfl rfl rfl rfl rfl ?_ | refine WL.storeL (vs := [_, _, _]) st.front5 ty_agg31 rfl rfl rfl rfl (by first | decide | omega) rfl rfl ?_ | refine WL.storeW (vs := [_, _, _]) st.front6 ty_agg31 rfl rfl rfl rfl rfl rfl ?_ | refine WL.storeL (vs := [_, _, _]) st.front6 ty_agg31 rfl rfl rfl rfl (by first | decide | omega) rfl rfl ?_ | refine WL.storeW (vs := [_, _, _]) st.front7 ty_agg31 rfl rfl rfl rfl rfl rfl ?_ | refine WL.storeL (vs := [_, _, _]) st.front7 ty_agg31 rfl rfl rfl rfl (by first | decide | omega) rfl rfl ?_ | refine WL.storeW (vs := [_, _, _]) st.front8 ty_agg31 rfl rfl rfl rfl rfl rfl ?_ | refine WL.storeL (vs := [_, _, _]) st.front8 ty_agg31 rfl rfl rfl rfl (by first | decide | omega) rfl rfl ?_
        intro w st
        refine WL.join hKC (fun _ _ h => h) ((op i).kp, (op i).tear, (op i).tb) ⟨⟨hok.kp, hok.kpl, hok.kpr⟩, (fun h => by rcases hFA.arm h with ⟨_, _, q1, q2, q3⟩ | ⟨q1, _⟩; exact ⟨q1.symm, q2.symm, q3.symm⟩; exact absurd ⟨hk5, hc0⟩ q1), (fun h _ => by rcases (hFA.dn h).2 with ⟨q1, _⟩ | ⟨_, q1, _⟩; omega; exact absurd ⟨hk5, hc0⟩ q1), st.back5⟩ (by repeat (first | exact sub_nil _ | refine sub_cons rfl rfl ?_))
      · skip
        refine WC.seq fun K932 hK932 => ?_
        -- region 27
        refine WC.region ?_
        -- R27.0 131 := laws.go:135 fieldAddr
        refine WL.v (by exact r_field ty_fld33_0 rfl) rfl rfl rfl ?_
        -- R27.1 132 := laws.go:135 load
        refine WL.v (by exact r_load1 ty_one28 rfl (by first | assumption | exact st.c0 (by first | decide | omega) | exact st.c1 (by first | decide | omega) | exact st.c2 (by first | decide | omega) | exact st.c3 (by first | decide | omega) | exact st.c4 (by first | decide | omega) | exact st.c5 (by first | decide | omega) | exact st.c6 (by first | decide | omega) | exact st.c7 (by first | decide | omega) | exact st.c8 (by first | decide | omega))) rfl rfl rfl ?_
        -- R27.2 133 := laws.go:135 binOp
        refine WL.v (by first | exact r_eql rfl rfl (decide_eq_true (by omega)) | exact r_eql rfl rfl (decide_eq_false (by omega)) | exact r_eql rfl rfl rfl) rfl rfl rfl ?_
        -- R27.3 134 := laws.go:135 move
        refine WL.v (by first | exact r_move (v := .bool _) rfl | exact r_move rfl) rfl rfl rfl ?_
        -- R27.4 135 := laws.go:135 fieldAddr
        refine WL.v (by exact r_field ty_fld37_0 rfl) rfl rfl rfl ?_
        -- R27.5 136 := laws.go:135 load
        refine WL.v (by exact r_load1 ty_one35 rfl (by first | assumption | exact st.c0 (by first | decide | omega) | exact st.c1 (by first | decide | omega) | exact st.c2 (by first | decide | omega) | exact st.c3 (by first | decide | omega) | exact st.c4 (by first | decide | omega) | exact st.c5 (by first | decide | omega) | exact st.c6 (by first | decide | omega) | exact st.c7 (by first | decide | omega) | exact st.c8 (by first | decide | omega))) rfl rfl rfl ?_
        -- R27.6 137 := laws.go:135 binOp
        refine WL.v (by first | exact r_eql rfl rfl (decide_eq_true (by omega)) | exact r_eql rfl rfl (decide_eq_false (by omega)) | exact r_eql rfl rfl rfl) rfl rfl rfl ?_
        -- R27.7 138 := laws.go:135 pick
        refine WL.v (by first | exact r_pickT (v := .bool _) rfl rfl | exact r_pickF (v := .bool _) rfl rfl) rfl rfl rfl ?_
        refine WL.fin hK932 (fun _ _ h => h) ?_
        refine WC.condF rfl rfl ?_
        refine WC.skipJ hKC (fun _ _ h => h) (sv, t, tb) ⟨⟨hsvo, hsvl, hsvr⟩, (fun h => by rcases hFA.arm h with ⟨_, q1, _⟩ | ⟨_, q1, q2, q3, q4⟩; exact absurd q1 hc0; obtain ⟨r1, r2, r3⟩ := harm q1; exact ⟨r1.trans q2.symm, r2.trans q3.symm, r3.trans q4.symm⟩), (fun h h4 => by rcases (hFA.dn h).2 with ⟨q1, _⟩ | ⟨_, _, q1, _⟩; exact absurd q1 h4; exact harm q1), st⟩ (by repeat (first | exact sub_nil _ | refine sub_cons rfl rfl ?_))
    · skip
      refine WC.seq fun K933 hK933 => ?_
      -- region 27
      refine WC.region ?_
      -- R27.0 131 := laws.go:135 fieldAddr
      refine WL.v (by exact r_field ty_fld33_0 rfl) rfl rfl rfl ?_
      -- R27.1 132 := laws.go:135 load
      refine WL.v (by exact r_load1 ty_one28 rfl (by first | assumption | exact st.c0 (by first | decide | omega) | exact st.c1 (by first | decide | omega) | exact st.c2 (by first | decide | omega) | exact st.c3 (by first | decide | omega) | exact st.c4 (by first | decide | omega) | exact st.c5 (by first | decide | omega) | exact st.c6 (by first | decide | omega) | exact st.c7 (by first | decide | omega) | exact st.c8 (by first | decide | omega))) rfl rfl rfl ?_
      -- R27.2 133 := laws.go:135 binOp
      refine WL.v (by first | exact r_eql rfl rfl (decide_eq_true (by omega)) | exact r_eql rfl rfl (decide_eq_false (by omega)) | exact r_eql rfl rfl rfl) rfl rfl rfl ?_
      -- R27.3 134 := laws.go:135 move
      refine WL.v (by first | exact r_move (v := .bool _) rfl | exact r_move rfl) rfl rfl rfl ?_
      -- R27.4 135 := laws.go:135 fieldAddr
      refine WL.no rfl rfl ?_
      -- R27.5 136 := laws.go:135 load
      refine WL.no rfl rfl ?_
      -- R27.6 137 := laws.go:135 binOp
      refine WL.no rfl rfl ?_
      -- R27.7 138 := laws.go:135 pick
      refine WL.v (by first | exact r_pickT (v := .bool _) rfl rfl | exact r_pickF (v := .bool _) rfl rfl) rfl rfl rfl ?_
      refine WL.fin hK933 (fun _ _ h => h) ?_
      refine WC.condF rfl rfl ?_
      refine WC.skipJ hKC (fun _ _ h => h) (sv, t, tb) ⟨⟨hsvo, hsvl, hsvr⟩, (fun h => by rcases hFA.arm h with ⟨q1, _⟩ | ⟨_, q1, q2, q3, q4⟩; exact absurd q1 hk5; obtain ⟨r1, r2, r3⟩ := harm q1; exact ⟨r1.trans q2.symm, r2.trans q3.symm, r3.trans q4.symm⟩), (fun h h4 => by rcases (hFA.dn h).2 with ⟨q1, _⟩ | ⟨_, _, q1, _⟩; exact absurd q1 h4; exact harm q1), st⟩ (by repeat (first | exact sub_nil _ | refine sub_cons rfl rfl ?_))
  rintro ⟨svB, tB, tbB⟩ w ⟨⟨hsvo, hsvl, hsvr⟩, harmB, hdnB, st⟩
  dsimp only at hsvo hsvl hsvr harmB hdnB st
  refine WC.cut (ι := BA) (fun _ => [(1, .func (.func F) #[] #[]), (5, .pointer (some ⟨bs, 0, none⟩)), (6, .pointer (some ⟨bw, 0, none⟩)), (7, .int .i64 (P.lim : Nat)), (8, .pointer (some ⟨b8, 0, none⟩)), (10, .pointer (some ⟨b10, 0, none⟩)), (13, .pointer (some ⟨b13, 0, none⟩)), (24, .slice (some ⟨sb, so, none⟩) n c), (25, .int .i64 (n : Nat)), (26, .int .i64 (i : Nat))]) (fun z w' => ((stepP P (op i)).1.down = false → Bk w0 K (stepP P (op i)).1.sec (stepP P (op i)).1.pc (stepP P (op i)).1.pend z.NS z.f ∧ OwnP 63 2 z.wv (stepP P (op i)).1.pend.length z.XW z.f) ∧ ((stepP P (op i)).1.down = true → Bk w0 K R.sec R.pc R.pend z.NS z.f ∧ OwnP 63 2 z.wv R.pend.length z.XW z.f) ∧ S0 w0 ((b13, Row 37 2 (nth [.int .i64 (stepP P (op i)).2, .slice da dn dc])) :: sI bs D'.bD :: opI b10 (op i) :: bkI bw bm z.wv (.slice none 0 0) 0 0 (.slice none 0 0) 0 :: mpI bm z.NS :: plI b8 svB tB tbB :: DI D' 0 (z.XW ++ K)) w') ?_ ?_
  rotate_left
  · intro KC hKC
    by_cases hsy : (op i).kind = 3 ∧ (stepP P (op i)).2 = 0
    rotate_left
    · have j1 : (stepP P (op i)).1.down = false → Bk w0 K (stepP P (op i)).1.sec (stepP P (op i)).1.pc (stepP P (op i)).1.pend NA fA ∧ OwnP 63 2 wA (stepP P (op i)).1.pend.length XA fA := fun hh => by
        have e := hFA.up hh hsy
        rw [e.sec, e.pc, e.pend, hFA.sec]; exact ⟨hbk, hown⟩
      have j2 : (stepP P (op i)).1.down = true → Bk w0 K R.sec R.pc R.pend NA fA ∧ OwnP 63 2 wA R.pend.length XA fA := fun hh => by rw [hFA.sec]; exact ⟨hbk, hown⟩
      by_cases hk3 : (op i).kind = 3
      · have hc0 : (stepP P (op i)).2 ≠ 0 := fun hh => hsy ⟨hk3, hh⟩
        refine WC.seq fun K934 hK934 => ?_
        -- region 29
        refine WC.region ?_
        -- R29.0 141 := laws.go:138 fieldAddr
        refine WL.v (by exact r_field ty_fld33_0 rfl) rfl rfl rfl ?_
        -- R29.1 142 := laws.go:138 load
        refine WL.v (by exact r_load1 ty_one28 rfl (by first | assumption | exact st.c0 (by first | decide | omega) | exact st.c1 (by first | decide | omega) | exact st.c2 (by first | decide | omega) | exact st.c3 (by first | decide | omega) | exact st.c4 (by first | decide | omega) | exact st.c5 (by first | decide | omega) | exact st.c6 (by first | decide | omega) | exact st.c7 (by first | decide | omega) | exact st.c8 (by first | decide | omega))) rfl rfl rfl ?_
        -- R29.2 143 := laws.go:138 binOp
        refine WL.v (by first | exact r_eql rfl rfl (decide_eq_true (by omega)) | exact r_eql rfl rfl (decide_eq_false (by omega)) | exact r_eql rfl rfl rfl) rfl rfl rfl ?_
        -- R29.3 144 := laws.go:138 move
        refine WL.v (by first | exact r_move (v := .bool _) rfl | exact r_move rfl) rfl rfl rfl ?_
        -- R29.4 145 := laws.go:138 fieldAddr
        refine WL.v (by exact r_field ty_fld37_0 rfl) rfl rfl rfl ?_
        -- R29.5 146 := laws.go:138 load
        refine WL.v (by exact r_load1 ty_one35 rfl (by first | assumption | exact st.c0 (by first | decide | omega) | exact st.c1 (by first | decide | omega) | exact st.c2 (by first | decide | omega) | exact st.c3 (by first | decide | omega) | exact st.c4 (by first | decide | omega) | exact st.c5 (by first | decide | omega) | exact st.c6 (by first | decide | omega) | exact st.c7 (by first | decide | omega) | exact st.c8 (by first | decide | omega))) rfl rfl rfl ?_
        -- R29.6 147 := laws.go:138 binOp
        refine WL.v (by first | exact r_eql rfl rfl (decide_eq_true (by omega)) | exact r_eql rfl rfl (decide_eq_false (by omega)) | exact r_eql rfl rfl rfl) rfl rfl rfl ?_
        -- R29.7 148 := laws.go:138 pick
        refine WL.v (by first | exact r_pickT (v := .bool _) rfl rfl | exact r_pickF (v := .bool _) rfl rfl) rfl rfl rfl ?_
        refine WL.fin hK934 (fun _ _ h => h) ?_
        refine WC.condF rfl rfl ?_
        refine WC.skipJ hKC (fun _ _ h => h) ⟨NA, wA, XA, fA⟩ ⟨j1, j2, st⟩ (by repeat (first | exact sub_nil _ | refine sub_cons rfl rfl ?_))
      · skip
        refine WC.seq fun K935 hK935 => ?_
        -- region 29
        refine WC.region ?_
        -- R29.0 141 := laws.go:138 fieldAddr
        refine WL.v (by exact r_field ty_fld33_0 rfl) rfl rfl rfl ?_
        -- R29.1 142 := laws.go:138 load
        refine WL.v (by exact r_load1 ty_one28 rfl (by first | assumption | exact st.c0 (by first | decide | omega) | exact st.c1 (by first | decide | omega) | exact st.c2 (by first | decide | omega) | exact st.c3 (by first | decide | omega) | exact st.c4 (by first | decide | omega) | exact st.c5 (by first | decide | omega) | exact st.c6 (by first | decide | omega) | exact st.c7 (by first | decide | omega) | exact st.c8 (by first | decide | omega))) rfl rfl rfl ?_
        -- R29.2 143 := laws.go:138 binOp
        refine WL.v (by first | exact r_eql rfl rfl (decide_eq_true (by omega)) | exact r_eql rfl rfl (decide_eq_false (by omega)) | exact r_eql rfl rfl rfl) rfl rfl rfl ?_
        -- R29.3 144 := laws.go:138 move
        refine WL.v (by first | exact r_move (v := .bool _) rfl | exact r_move rfl) rfl rfl rfl ?_
        -- R29.4 145 := laws.go:138 fieldAddr
        refine WL.no rfl rfl ?_
        -- R29.5 146 := laws.go:138 load
        refine WL.no rfl rfl ?_
        -- R29.6 147 := laws.go:138 binOp
        refine WL.no rfl rfl ?_
        -- R29.7 148 := laws.go:138 pick
        refine WL.v (by first | exact r_pickT (v := .bool _) rfl rfl | exact r_pickF (v := .bool _) rfl rfl) rfl rfl rfl ?_
        refine WL.fin hK935 (fun _ _ h => h) ?_
        refine WC.condF rfl rfl ?_
        refine WC.skipJ hKC (fun _ _ h => h) ⟨NA, wA, XA, fA⟩ ⟨j1, j2, st⟩ (by repeat (first | exact sub_nil _ | refine sub_cons rfl rfl ?_))
    have eP' := hFA.syn hsy
    obtain ⟨hk3, hc0⟩ := hsy
    rw [hFA.oth (by omega)] at hbk hown
    obtain ⟨wa, wc, wb, wo, rfl, hwc, hwa, hwrd⟩ := hown.form
    have hpl : P.pend.length ≤ 65536 := by have := h.ple; have := h.l2; omega
    refine WC.seq fun K936 hK936 => ?_
    -- region 29
    refine WC.region ?_
    -- R29.0 141 := laws.go:138 fieldAddr
    refine WL.v (by exact r_field ty_fld33_0 rfl) rfl rfl rfl ?_
    -- R29.1 142 := laws.go:138 load
    refine WL.v (by exact r_load1 ty_one28 rfl (by first | assumption | exact st.c0 (by first | decide | omega) | exact st.c1 (by first | decide | omega) | exact st.c2 (by first | decide | omega) | exact st.c3 (by first | decide | omega) | exact st.c4 (by first | decide | omega) | exact st.c5 (by first | decide | omega) | exact st.c6 (by first | decide | omega) | exact st.c7 (by first | decide | omega) | exact st.c8 (by first | decide | omega))) rfl rfl rfl ?_
    -- R29.2 143 := laws.go:138 binOp
    refine WL.v (by first | exact r_eql rfl rfl (decide_eq_true (by omega)) | exact r_eql rfl rfl (decide_eq_false (by omega)) | exact r_eql rfl rfl rfl) rfl rfl rfl ?_
    -- R29.3 144 := laws.go:138 move
    refine WL.v (by first | exact r_move (v := .bool _) rfl | exact r_move rfl) rfl rfl rfl ?_
    -- R29.4 145 := laws.go:138 fieldAddr
    refine WL.v (by exact r_field ty_fld37_0 rfl) rfl rfl rfl ?_
    -- R29.5 146 := laws.go:138 load
    refine WL.v (by exact r_load1 ty_one35 rfl (by first | assumption | exact st.c0 (by first | decide | omega) | exact st.c1 (by first | decide | omega) | exact st.c2 (by first | decide | omega) | exact st.c3 (by first | decide | omega) | exact st.c4 (by first | decide | omega) | exact st.c5 (by first | decide | omega) | exact st.c6 (by first | decide | omega) | exact st.c7 (by first | decide | omega) | exact st.c8 (by first | decide | omega))) rfl rfl rfl ?_
    -- R29.6 147 := laws.go:138 binOp
    refine WL.v (by first | exact r_eql rfl rfl (decide_eq_true (by omega)) | exact r_eql rfl rfl (decide_eq_false (by omega)) | exact r_eql rfl rfl rfl) rfl rfl rfl ?_
    -- R29.7 148 := laws.go:138 pick
    refine WL.v (by first | exact r_pickT (v := .bool _) rfl rfl | exact r_pickF (v := .bool _) rfl rfl) rfl rfl rfl ?_
    refine WL.fin hK936 (fun _ _ h => h) ?_
    refine WC.condT rfl rfl ?_
    refine WC.seq fun K937 hK937 => ?_
    refine WC.seq fun K938 hK938 => ?_
    -- region 30
    refine WC.region ?_
    -- R30.0 149 := laws.go:139 move
    refine WL.v (by first | exact r_move (v := .pointer _) rfl | exact r_move rfl) rfl rfl rfl ?_
    -- R30.1 150 := laws.go:139 nilCheck
    refine WL.v (by exact r_nilCheck rfl) rfl rfl rfl ?_
    -- R30.2 151 := laws.go:139 fieldAddr
    refine WL.v (by exact r_field ty_fld60_1 rfl) rfl rfl rfl ?_
    -- R30.3 152 := laws.go:139 load
    refine WL.v (by exact r_load1 ty_one46 rfl (by first | assumption | exact st.c0 (by first | decide | omega) | exact st.c1 (by first | decide | omega) | exact st.c2 (by first | decide | omega) | exact st.c3 (by first | decide | omega) | exact st.c4 (by first | decide | omega) | exact st.c5 (by first | decide | omega) | exact st.c6 (by first | decide | omega) | exact st.c7 (by first | decide | omega) | exact st.c8 (by first | decide | omega))) rfl rfl rfl ?_
    -- R30.4 153 := laws.go:139 call
    refine WL.v (by exact r_len ty_usl46 rfl) rfl rfl rfl ?_
    -- R30.5 154 := laws.go:139 move
    refine WL.v (by first | exact r_move (v := .int _ _) rfl | exact r_move rfl) rfl rfl rfl ?_
    refine WL.fin hK938 (fun _ _ h => h) ?_
    refine WC.block ?_
    refine WC.loop (ι := Nat × (Int → Option Value)) (fun z => [(1, .func (.func F) #[] #[]), (5, .pointer (some ⟨bs, 0, none⟩)), (6, .pointer (some ⟨bw, 0, none⟩)), (7, .int .i64 (P.lim : Nat)), (8, .pointer (some ⟨b8, 0, none⟩)), (10, .pointer (some ⟨b10, 0, none⟩)), (13, .pointer (some ⟨b13, 0, none⟩)), (24, .slice (some ⟨sb, so, none⟩) n c), (25, .int .i64 (n : Nat)), (26, .int .i64 (i : Nat)), (152, .slice wa P.pend.length wc), (153, .int .i64 (P.pend.length : Nat)), (154, .int .i64 (z.1 : Nat))])
      (fun z w' => z.1 ≤ P.pend.length ∧ Bk w0 K P.sec (settle P.pc (P.pend.take z.1)) P.pend z.2 fA ∧ S0 w0 ((b13, Row 37 2 (nth [.int .i64 (stepP P (op i)).2, .slice da dn dc])) :: sI bs D'.bD :: opI b10 (op i) :: bkI bw bm (.slice wa P.pend.length wc) (.slice none 0 0) 0 0 (.slice none 0 0) 0 :: mpI bm z.2 :: plI b8 svB tB tbB :: DI D' 0 (XA ++ K)) w') (fun z => P.pend.length - z.1) (0, NA)
      ⟨Nat.zero_le _, hbk, st⟩ ?_ ?_
    · skip
      repeat (first | exact sub_nil _ | refine sub_cons rfl rfl ?_)
    rintro ⟨j, NJ⟩ w ⟨hj, hbj, st⟩ K2 hK2
    dsimp only at hj hbj st ⊢
    by_cases hjl : ¬ j < P.pend.length
    · have et : P.pend.take j = P.pend := List.take_of_length_le (by omega)
      rw [et] at hbj
      refine WC.seq fun K939 hK939 => ?_
      -- region 31
      refine WC.region ?_
      -- R31.0 155 := laws.go:139 binOp
      refine WL.v (by first | exact r_lss rfl rfl (decide_eq_true (by omega)) | exact r_lss rfl rfl (decide_eq_false (by omega)) | exact r_lss rfl rfl rfl) rfl rfl rfl ?_
      refine WL.fin hK939 (fun _ _ h => h) ?_
      refine WC.seq fun K940 hK940 => ?_
      refine WC.condF rfl rfl ?_
      refine WC.exitF hK937 (fun _ _ h => h) ?_
      -- region 35
      refine WC.region ?_
      -- R35.0 167 := laws.go:142 move
      refine WL.v (by first | exact r_move (v := .pointer _) rfl | exact r_move rfl) rfl rfl rfl ?_
      -- R35.1 168 := laws.go:142 nilCheck
      refine WL.v (by exact r_nilCheck rfl) rfl rfl rfl ?_
      -- R35.2 169 := laws.go:142 fieldAddr
      refine WL.v (by exact r_field ty_fld60_1 rfl) rfl rfl rfl ?_
      -- R35.3 None := laws.go:142 store
      refine WL.store (v := .slice none 0 0) st.front3 ty_one46 rfl rfl rfl (by decide) rfl rfl ?_
      intro w st
      have st := (st_nrm (L' := [.map (some bm), .slice none 0 0, .slice none 0 0, .int .i64 (0), .int .i64 (0), .slice none 0 0, .int .i64 (0)]) rfl st).back3
      refine WL.join hKC (fun _ _ h => h) ⟨NJ, .slice none 0 0, [], fun _ => undef⟩ ⟨fun _ => by rw [eP']; exact ⟨⟨hbj.syn, hbj.syz, fun i p hp => by simp at hp⟩, OwnP.nil _ _ _⟩, (fun hh => by rw [eP'] at hh; have hh : P.down = true := hh; rw [hdn] at hh; cases hh), st.sublist (((((((di_sub (List.sublist_append_right _ _)).cons_cons _).cons_cons _).cons_cons _).cons_cons _).cons_cons _).cons_cons _)⟩ (by repeat (first | exact sub_nil _ | refine sub_cons rfl rfl ?_))
    have hjl : j < P.pend.length := by omega
    obtain rfl := hwa (by omega)
    obtain ⟨p, hp⟩ : ∃ p, P.pend[j]? = some p := ⟨_, List.getElem?_eq_getElem hjl⟩
    obtain ⟨hp0, hp1⟩ := hbj.wt j p hp
    have hps := (h.psec p (List.mem_of_getElem? hp)).1
    obtain ⟨ga, gc, hgv⟩ := hp1.sl
    have g0 := hwrd st (fun x hx => List.mem_cons_of_mem _ (List.mem_cons_of_mem _ (List.mem_cons_of_mem _ (List.mem_cons_of_mem _ (List.mem_cons_of_mem _ (List.mem_cons_of_mem _ (mem_in (List.mem_append_left _ hx)))))))) (j * 2) (by omega)
    have g1 := hwrd st (fun x hx => List.mem_cons_of_mem _ (List.mem_cons_of_mem _ (List.mem_cons_of_mem _ (List.mem_cons_of_mem _ (List.mem_cons_of_mem _ (List.mem_cons_of_mem _ (mem_in (List.mem_append_left _ hx)))))))) (j * 2 + 1) (by omega)
    rw [hp0] at g0
    rw [hgv] at g1 hp1
    have ets : settle P.pc (P.pend.take (j + 1)) = stP (settle P.pc (P.pend.take j)) p.1 512 p.2 := by rw [List.take_add_one, hp]; exact settle_app
    refine WC.seq fun K941 hK941 => ?_
    -- region 31
    refine WC.region ?_
    -- R31.0 155 := laws.go:139 binOp
    refine WL.v (by first | exact r_lss rfl rfl (decide_eq_true (by omega)) | exact r_lss rfl rfl (decide_eq_false (by omega)) | exact r_lss rfl rfl rfl) rfl rfl rfl ?_
    refine WL.fin hK941 (fun _ _ h => h) ?_
    refine WC.seq fun K942 hK942 => ?_
    refine WC.condT rfl rfl ?_
    refine WC.skipF hK942 (fun _ _ h => h) ?_
    refine WC.seq fun K943 hK943 => ?_
    refine WC.block ?_
    refine WC.seq fun K944 hK944 => ?_
    -- region 32
    refine WC.region ?_
    -- R32.0 156 := laws.go:139 indexAddr
    refine WL.v (by exact r_indexS (j := j) ty_sl46 rfl rfl rfl hjl) rfl rfl rfl ?_
    -- R32.1 157 := laws.go:139 load
    refine WL.v (v := .agg #[.int .i64 (p.1 : Nat), .slice ga (bytesOf 512 p.2).length gc]) (by exact r_loadL (vs := [_, _]) ty_agg63 rfl ⟨g0, g1, trivial⟩) rfl rfl rfl ?_
    -- R32.2 17 := laws.go:139 alloc
    refine WL.alloc (m := 2) st ty_zero63 rfl rfl rfl ?_
    intro b17 w st
    -- R32.3 None := laws.go:139 store
    first | refine WL.storeW (vs := [_, _]) st ty_agg63 rfl rfl rfl rfl rfl rfl ?_ | refine WL.storeL (vs := [_, _]) st ty_agg63 rfl rfl rfl rfl (by first | decide | omega) rfl rfl ?_ | refine WL.storeW (vs := [_, _]) st.front1 ty_agg63 rfl rfl rfl rfl rfl rfl ?_ | refine WL.storeL (vs := [_, _]) st.front1 ty_agg63 rfl rfl rfl rfl (by first | decide | omega) rfl rfl ?_ | refine WL.storeW (vs := [_, _]) st.front2 ty_agg63 rfl rfl rfl rfl rfl rfl ?_ | refine WL.storeL (vs := [_, _]) st.front2 ty_agg63 rfl rfl rfl rfl (by first | decide | omega) rfl rfl ?_ | refine WL.storeW (vs := [_, _]) st.front3 ty_agg63 rfl rfl rfl rfl rfl rfl ?_ | refine WL.storeL (vs := [_, _]) st.front3 ty_agg63 rfl rfl rfl rfl (by first | decide | omega) rfl rfl ?_ | refine WL.storeW (vs := [_, _]) st.front4 ty_agg63 rfl rfl rfl rfl rfl rfl ?_ | refine WL.storeL (vs := [_, _]) st.front4 ty_agg63 rfl rfl rfl rfl (by first | decide | omega) rfl rfl ?_ | refine WL.storeW (vs := [_, _]) st.front5 ty_agg63 rfl rfl rfl rfl rfl rfl ?_ | refine WL.storeL (vs := [_, _]) st.front5 ty_agg63 rfl rfl rfl rfl (by first | decide | omega) rfl rfl ?_ | refine WL.storeW (vs := [_, _]) st.front6 ty_agg63 rfl rfl rfl rfl rfl rfl ?_ | refine WL.storeL (vs := [_, _]) st.front6 ty_agg63 rfl rfl rfl rfl (by first | decide | omega) rfl rfl ?_ | refine WL.storeW (vs := [_, _]) st.front7 ty_agg63 rfl rfl rfl rfl rfl rfl ?_ | refine WL.storeL (vs := [_, _]) st.front7 ty_agg63 rfl rfl rfl rfl (by first | decide | omega) rfl rfl ?_ | refine WL.storeW (vs := [_, _]) st.front8 ty_agg63 rfl rfl rfl rfl rfl rfl ?_ | refine WL.storeL (vs := [_, _]) st.front8 ty_agg63 rfl rfl rfl rfl (by first | decide | omega) rfl rfl ?_
    intro w st
    refine WL.fin hK944 (fun _ _ h => h) ?_
    -- region 33 (draws)
    refine WC.tailS 8 st ty_mixed (by kernel_rfl) fun w st Kq hKq => ?_
    -- R33.0 158 := laws.go:140 move
    refine SL.v (by first | exact r_move (v := .pointer _) rfl | exact r_move rfl) rfl rfl rfl ?_
    -- R33.1 159 := laws.go:140 nilCheck
    refine SL.v (by exact r_nilCheck rfl) rfl rfl rfl ?_
    -- R33.2 160 := laws.go:140 fieldAddr
    refine SL.v (by exact r_field ty_fld60_0 rfl) rfl rfl rfl ?_
    -- R33.3 161 := laws.go:140 load
    refine SL.v (by exact r_load1 ty_one45 rfl (by first | assumption | exact st.c0 (by first | decide | omega) | exact st.c1 (by first | decide | omega) | exact st.c2 (by first | decide | omega) | exact st.c3 (by first | decide | omega) | exact st.c4 (by first | decide | omega) | exact st.c5 (by first | decide | omega) | exact st.c6 (by first | decide | omega) | exact st.c7 (by first | decide | omega) | exact st.c8 (by first | decide | omega))) rfl rfl rfl ?_
    -- R33.4 162 := laws.go:140 fieldAddr
    refine SL.v (by exact r_field ty_fld63_0 rfl) rfl rfl rfl ?_
    -- R33.5 163 := laws.go:140 load
    refine SL.v (by exact r_load1 ty_one2 rfl (by first | assumption | exact st.c0 (by first | decide | omega) | exact st.c1 (by first | decide | omega) | exact st.c2 (by first | decide | omega) | exact st.c3 (by first | decide | omega) | exact st.c4 (by first | decide | omega) | exact st.c5 (by first | decide | omega) | exact st.c6 (by first | decide | omega) | exact st.c7 (by first | decide | omega) | exact st.c8 (by first | decide | omega))) rfl rfl rfl ?_
    -- R33.6 164 := laws.go:140 fieldAddr
    refine SL.v (by exact r_field ty_fld63_1 rfl) rfl rfl rfl ?_
    -- R33.7 165 := laws.go:140 load
    refine SL.v (by exact r_load1 ty_one29 rfl (by first | assumption | exact st.c0 (by first | decide | omega) | exact st.c1 (by first | decide | omega) | exact st.c2 (by first | decide | omega) | exact st.c3 (by first | decide | omega) | exact st.c4 (by first | decide | omega) | exact st.c5 (by first | decide | omega) | exact st.c6 (by first | decide | omega) | exact st.c7 (by first | decide | omega) | exact st.c8 (by first | decide | omega))) rfl rfl rfl ?_
    refine SL.fin hKq ?_
    -- R33.8 None := laws.go:140 mapUpdate
    refine WL.mapSetI (s := ((p.1 : Nat) : Int)) (val := .slice ga (bytesOf 512 p.2).length gc) ty_kb2 st.front5 ty_mp45 rfl rfl rfl (good64 (by omega) (by omega)) rfl rfl ?_
    intro w st
    have st := st.back5.drop
    refine WL.fin hK943 (fun _ _ h => h) ?_
    -- region 34
    refine WC.region ?_
    -- R34.0 166 := laws.go:139 binOp
    refine WL.v (by exact r_add (r := ((j + 1 : Nat) : Int)) rfl rfl ((wi64 (by omega) (by omega)).trans (by omega))) rfl rfl rfl ?_
    -- R34.1 154 := laws.go:139 move
    refine WL.v (by first | exact r_move (v := .int _ _) rfl | exact r_move rfl) rfl rfl rfl ?_
    refine WL.next hK2 (fun _ _ h => h) (j + 1, _) ⟨by show j + 1 ≤ _; omega, by show Bk w0 K P.sec (settle P.pc (P.pend.take (j + 1))) P.pend _ fA; rw [ets]; exact hbj.set hp1 P.pend hbj.wt, st⟩ (by show _ - (j + 1) < _ - j; omega) (by repeat (first | exact sub_nil _ | refine sub_cons rfl rfl ?_))
  rintro ⟨NC, wC, XC, fC⟩ w ⟨hup, hdo, st⟩
  dsimp only at hup hdo st
  rcases hdP : (stepP P (op i)).1.down with _ | _
  · obtain ⟨hbC, hoC⟩ := hup hdP
    have elim : (stepP P (op i)).1.lim = P.lim := by
      by_cases hsy : (op i).kind = 3 ∧ (stepP P (op i)).2 = 0
      · rw [hFA.syn hsy]
      · exact (hFA.up hdP hsy).lim.trans hFA.lim
    refine WC.seq fun K945 hK945 => ?_
    -- region 36
    refine WC.region ?_
    -- R36.0 170 := laws.go:144 move
    refine WL.v (by first | exact r_move (v := .pointer _) rfl | exact r_move rfl) rfl rfl rfl ?_
    -- R36.1 171 := laws.go:144 nilCheck
    refine WL.v (by exact r_nilCheck rfl) rfl rfl rfl ?_
    -- R36.2 172 := laws.go:144 fieldAddr
    refine WL.v (by exact r_field ty_fld42_0 rfl) rfl rfl rfl ?_
    -- R36.3 173 := laws.go:144 load
    refine WL.v (by exact r_load1 ty_one40 rfl (by first | assumption | exact st.c0 (by first | decide | omega) | exact st.c1 (by first | decide | omega) | exact st.c2 (by first | decide | omega) | exact st.c3 (by first | decide | omega) | exact st.c4 (by first | decide | omega) | exact st.c5 (by first | decide | omega) | exact st.c6 (by first | decide | omega) | exact st.c7 (by first | decide | omega) | exact st.c8 (by first | decide | omega))) rfl rfl rfl ?_
    -- R36.4 174 := laws.go:144 call
    refine WL.call (r_call ty_call17 rfl) rfl rfl rfl (isDown_ok (st_inF [_, _, _, _, _, _] st)) ?_
    rintro _ w ⟨rfl, st⟩
    have st := st_outF [_, _, _, _, _, _] st
    rw [h'.down, hdP]
    refine WL.fin hK945 (fun _ _ h => h) ?_
    refine WC.condF rfl rfl ?_
    refine WC.skipF hK897 (fun _ _ h => h) ?_
    -- region 49
    refine WC.region ?_
    -- R49.0 227 := laws.go:110 binOp
    refine WL.v (by exact r_add (r := ((i + 1 : Nat) : Int)) rfl rfl ((wi64 (by omega) (by omega)).trans (by omega))) rfl rfl rfl ?_
    -- R49.1 26 := laws.go:110 move
    refine WL.v (by first | exact r_move (v := .int _ _) rfl | exact r_move rfl) rfl rfl rfl ?_
    rw [← elim]
    refine WL.next hK1 (fun _ _ h => h) ⟨D', (stepP P (op i)).1, i + 1, bw, bm, NC, wC, XC, fC, K, svB, tB, tbB⟩ ⟨h', by show i + 1 ≤ n; omega, by show (stepP P (op i)).1.wr ≤ 128 * (i + 1); omega, hbC, hoC, hsvo, hsvl, hsvr, harmB, st.drop.drop1⟩ (by show n - (i + 1) < n - i; omega) (by repeat (first | exact sub_nil _ | refine sub_cons rfl rfl ?_))
  obtain ⟨hbC, hoC⟩ := hdo hdP
  obtain ⟨_, hdn2⟩ := hFA.dn hdP
  refine WC.seq fun K946 hK946 => ?_
  -- region 36
  refine WC.region ?_
  -- R36.0 170 := laws.go:144 move
  refine WL.v (by first | exact r_move (v := .pointer _) rfl | exact r_move rfl) rfl rfl rfl ?_
  -- R36.1 171 := laws.go:144 nilCheck
  refine WL.v (by exact r_nilCheck rfl) rfl rfl rfl ?_
  -- R36.2 172 := laws.go:144 fieldAddr
  refine WL.v (by exact r_field ty_fld42_0 rfl) rfl rfl rfl ?_
  -- R36.3 173 := laws.go:144 load
  refine WL.v (by exact r_load1 ty_one40 rfl (by first | assumption | exact st.c0 (by first | decide | omega) | exact st.c1 (by first | decide | omega) | exact st.c2 (by first | decide | omega) | exact st.c3 (by first | decide | omega) | exact st.c4 (by first | decide | omega) | exact st.c5 (by first | decide | omega) | exact st.c6 (by first | decide | omega) | exact st.c7 (by first | decide | omega) | exact st.c8 (by first | decide | omega))) rfl rfl rfl ?_
  -- R36.4 174 := laws.go:144 call
  refine WL.call (r_call ty_call17 rfl) rfl rfl rfl (isDown_ok (st_inF [_, _, _, _, _, _] st)) ?_
  rintro _ w ⟨rfl, st⟩
  have st := st_outF [_, _, _, _, _, _] st
  rw [h'.down, hdP]
  refine WL.fin hK946 (fun _ _ h => h) ?_
  refine WC.condT rfl rfl ?_
  refine WC.seq fun K947 hK947 => ?_
  -- region 37
  refine WC.region ?_
  -- R37.0 175 := laws.go:145 move
  refine WL.v (by first | exact r_move (v := .pointer _) rfl | exact r_move rfl) rfl rfl rfl ?_
  -- R37.1 176 := laws.go:145 load
  refine WL.v (by exact r_loadL (vs := [_, _, _]) ty_agg31 rfl ⟨(by first | assumption | exact st.c0 (by first | decide | omega) | exact st.c1 (by first | decide | omega) | exact st.c2 (by first | decide | omega) | exact st.c3 (by first | decide | omega) | exact st.c4 (by first | decide | omega) | exact st.c5 (by first | decide | omega) | exact st.c6 (by first | decide | omega) | exact st.c7 (by first | decide | omega) | exact st.c8 (by first | decide | omega)), (by first | assumption | exact st.c0 (by first | decide | omega) | exact st.c1 (by first | decide | omega) | exact st.c2 (by first | decide | omega) | exact st.c3 (by first | decide | omega) | exact st.c4 (by first | decide | omega) | exact st.c5 (by first | decide | omega) | exact st.c6 (by first | decide | omega) | exact st.c7 (by first | decide | omega) | exact st.c8 (by first | decide | omega)), (by first | assumption | exact st.c0 (by first | decide | omega) | exact st.c1 (by first | decide | omega) | exact st.c2 (by first | decide | omega) | exact st.c3 (by first | decide | omega) | exact st.c4 (by first | decide | omega) | exact st.c5 (by first | decide | omega) | exact st.c6 (by first | decide | omega) | exact st.c7 (by first | decide | omega) | exact st.c8 (by first | decide | omega)), trivial⟩) rfl rfl rfl ?_
  -- R37.2 177 := laws.go:145 nilCheck
  refine WL.v (by exact r_nilCheck rfl) rfl rfl rfl ?_
  -- R37.3 178 := laws.go:145 fieldAddr
  refine WL.v (by exact r_field ty_fld60_2 rfl) rfl rfl rfl ?_
  -- R37.4 None := laws.go:145 store
  refine WL.storeL (vs := [_, _, _]) st.front3 ty_agg31 rfl rfl rfl rfl (by decide) rfl rfl ?_
  intro w st
  have st := (st_nrm (L' := [.map (some bm), wC, .slice svB.a svB.bs.length svB.c, .int .i64 (tB), .int .i64 (tbB), .slice none 0 0, .int .i64 (0)]) rfl st).back3
  refine WL.fin hK947 (fun _ _ h => h) ?_
  refine WC.cut (ι := SV × Int × Int) (fun _ => [(1, .func (.func F) #[] #[]), (5, .pointer (some ⟨bs, 0, none⟩)), (6, .pointer (some ⟨bw, 0, none⟩)), (7, .int .i64 (P.lim : Nat)), (8, .pointer (some ⟨b8, 0, none⟩)), (10, .pointer (some ⟨b10, 0, none⟩)), (13, .pointer (some ⟨b13, 0, none⟩)), (24, .slice (some ⟨sb, so, none⟩) n c), (25, .int .i64 (n : Nat)), (26, .int .i64 (i : Nat))]) (fun z w' => (z.1.ok ∧ z.1.bs.length ≤ 65536 ∧ z.1.rd w0) ∧ (stepP P (op i)).1 = crashP R z.1.bs z.2.1 z.2.2 ∧ S0 w0 ((b13, Row 37 2 (nth [.int .i64 (stepP P (op i)).2, .slice da dn dc])) :: sI bs D'.bD :: opI b10 (op i) :: bkI bw bm wC (.slice z.1.a z.1.bs.length z.1.c) z.2.1 z.2.2 (.slice none 0 0) 0 :: mpI bm NC :: plI b8 svB tB tbB :: DI D' 0 (XC ++ K)) w') ?_ ?_
  rotate_left
  · intro KC hKC
    by_cases hk4 : (op i).kind = 4
    · skip
      have ec : (stepP P (op i)).1 = crashP R (op i).kp.bs (op i).tear (op i).tb := by
        rcases hdn2 with ⟨_, q1⟩ | ⟨q1, _⟩
        · exact q1
        · exact absurd hk4 q1
      refine WC.seq fun K948 hK948 => ?_
      -- region 38
      refine WC.region ?_
      -- R38.0 179 := laws.go:146 fieldAddr
      refine WL.v (by exact r_field ty_fld33_0 rfl) rfl rfl rfl ?_
      -- R38.1 180 := laws.go:146 load
      refine WL.v (by exact r_load1 ty_one28 rfl (by first | assumption | exact st.c0 (by first | decide | omega) | exact st.c1 (by first | decide | omega) | exact st.c2 (by first | decide | omega) | exact st.c3 (by first | decide | omega) | exact st.c4 (by first | decide | omega) | exact st.c5 (by first | decide | omega) | exact st.c6 (by first | decide | omega) | exact st.c7 (by first | decide | omega) | exact st.c8 (by first | decide | omega))) rfl rfl rfl ?_
      -- R38.2 181 := laws.go:146 binOp
      refine WL.v (by first | exact r_eql rfl rfl (decide_eq_true (by omega)) | exact r_eql rfl rfl (decide_eq_false (by omega)) | exact r_eql rfl rfl rfl) rfl rfl rfl ?_
      refine WL.fin hK948 (fun _ _ h => h) ?_
      refine WC.condT rfl rfl ?_
      -- region 39
      refine WC.region ?_
      -- R39.0 182 := laws.go:147 move
      refine WL.v (by first | exact r_move (v := .pointer _) rfl | exact r_move rfl) rfl rfl rfl ?_
      -- R39.1 183 := laws.go:147 fieldAddr
      refine WL.v (by exact r_field ty_fld33_6 rfl) rfl rfl rfl ?_
      -- R39.2 184 := laws.go:147 load
      refine WL.v (by exact r_loadL (vs := [_, _, _]) ty_agg31 rfl ⟨(by first | assumption | exact st.c0 (by first | decide | omega) | exact st.c1 (by first | decide | omega) | exact st.c2 (by first | decide | omega) | exact st.c3 (by first | decide | omega) | exact st.c4 (by first | decide | omega) | exact st.c5 (by first | decide | omega) | exact st.c6 (by first | decide | omega) | exact st.c7 (by first | decide | omega) | exact st.c8 (by first | decide | omega)), (by first | assumption | exact st.c0 (by first | decide | omega) | exact st.c1 (by first | decide | omega) | exact st.c2 (by first | decide | omega) | exact st.c3 (by first | decide | omega) | exact st.c4 (by first | decide | omega) | exact st.c5 (by first | decide | omega) | exact st.c6 (by first | decide | omega) | exact st.c7 (by first | decide | omega) | exact st.c8 (by first | decide | omega)), (by first | assumption | exact st.c0 (by first | decide | omega) | exact st.c1 (by first | decide | omega) | exact st.c2 (by first | decide | omega) | exact st.c3 (by first | decide | omega) | exact st.c4 (by first | decide | omega) | exact st.c5 (by first | decide | omega) | exact st.c6 (by first | decide | omega) | exact st.c7 (by first | decide | omega) | exact st.c8 (by first | decide | omega)), trivial⟩) rfl rfl rfl ?_
      -- R39.3 185 := laws.go:147 nilCheck
      refine WL.v (by exact r_nilCheck rfl) rfl rfl rfl ?_
      -- R39.4 186 := laws.go:147 fieldAddr
      refine WL.v (by exact r_field ty_fld60_2 rfl) rfl rfl rfl ?_
      -- R39.5 None := laws.go:147 store
      refine WL.storeL (vs := [_, _, _]) st.front3 ty_agg31 rfl rfl rfl rfl (by decide) rfl rfl ?_
      intro w st
      have st := (st_nrm (L' := [.map (some bm), wC, .slice (op i).kp.a (op i).kp.bs.length (op i).kp.c, .int .i64 ((op i).tear), .int .i64 ((op i).tb), .slice none 0 0, .int .i64 (0)]) rfl st).back3
      refine WL.join hKC (fun _ _ h => h) ((op i).kp, (op i).tear, (op i).tb) ⟨⟨hok.kp, hok.kpl, hok.kpr⟩, ec, st⟩ (by repeat (first | exact sub_nil _ | refine sub_cons rfl rfl ?_))
    · have ec : (stepP P (op i)).1 = crashP R svB.bs tB tbB := by
        obtain ⟨r1, r2, r3⟩ := hdnB hdP hk4
        rcases hdn2 with ⟨q1, _⟩ | ⟨_, _, _, q1⟩
        · exact absurd q1 hk4
        · rw [r1, r2, r3]; exact q1
      refine WC.seq fun K949 hK949 => ?_
      -- region 38
      refine WC.region ?_
      -- R38.0 179 := laws.go:146 fieldAddr
      refine WL.v (by exact r_field ty_fld33_0 rfl) rfl rfl rfl ?_
      -- R38.1 180 := laws.go:146 load
      refine WL.v (by exact r_load1 ty_one28 rfl (by first | assumption | exact st.c0 (by first | decide | omega) | exact st.c1 (by first | decide | omega) | exact st.c2 (by first | decide | omega) | exact st.c3 (by first | decide | omega) | exact st.c4 (by first | decide | omega) | exact st.c5 (by first | decide | omega) | exact st.c6 (by first | decide | omega) | exact st.c7 (by first | decide | omega) | exact st.c8 (by first | decide | omega))) rfl rfl rfl ?_
      -- R38.2 181 := laws.go:146 binOp
      refine WL.v (by first | exact r_eql rfl rfl (decide_eq_true (by omega)) | exact r_eql rfl rfl (decide_eq_false (by omega)) | exact r_eql rfl rfl rfl) rfl rfl rfl ?_
      refine WL.fin hK949 (fun _ _ h => h) ?_
      refine WC.condF rfl rfl ?_
      refine WC.skipJ hKC (fun _ _ h => h) (svB, tB, tbB) ⟨⟨hsvo, hsvl, hsvr⟩, ec, st⟩ (by repeat (first | exact sub_nil _ | refine sub_cons rfl rfl ?_))
  rintro ⟨kp, kt, ktb⟩ w ⟨⟨hkpo, hkpl, hkpr⟩, ec, st⟩
  dsimp only at hkpo hkpl hkpr ec st
  have esec : (stepP P (op i)).1.sec = P.sec := by rw [ec]; exact hFA.sec
  have epc : (stepP P (op i)).1.pc = crashPc kp.bs kt (kOf ktb) 0 R.pc R.pend := by rw [ec]; rfl
  have epe : (stepP P (op i)).1.pend = [] := by rw [ec]; rfl
  have ear : (stepP P (op i)).1.armed = false := by rw [ec]; rfl
  have elim : (stepP P (op i)).1.lim = P.lim := by rw [ec]; exact hFA.lim
  have hs1 := h.s1
  obtain ⟨wa, wc, wb, wo, rfl, hwc, hwa, hwrd⟩ := hoC.form
  refine WC.seq fun K950 hK950 => ?_
  -- region 40 (draws)
  refine WC.mixLS [12, 13, 14] [(0, true), (1, true), (2, true), (4, true), (5, true), (6, true), (7, true), (3, false), (8, false), (9, false), (10, false), (11, false), (12, false), (13, false), (14, false)] st (st_p2 st) ty_mixed (by kernel_rfl) fun w st => ?_
  -- R40.0 187 := laws.go:149 move
  refine MLL.v (fun w st => by first | exact r_move (v := .pointer _) rfl | exact r_move rfl) rfl rfl rfl ?_
  -- R40.1 188 := laws.go:149 move
  refine MLL.v (fun w st => by first | exact r_move (v := .pointer _) rfl | exact r_move rfl) rfl rfl rfl ?_
  -- R40.2 189 := laws.go:149 move
  refine MLL.v (fun w st => by first | exact r_move (v := .pointer _) rfl | exact r_move rfl) rfl rfl rfl ?_
  -- R40.4 191 := laws.go:149 move
  refine MLL.v (fun w st => by first | exact r_move (v := .pointer _) rfl | exact r_move rfl) rfl rfl rfl ?_
  -- R40.5 192 := laws.go:149 nilCheck
  refine MLL.v (fun w st => by exact r_nilCheck rfl) rfl rfl rfl ?_
  -- R40.6 193 := laws.go:149 fieldAddr
  refine MLL.v (fun w st => by exact r_field ty_fld42_0 rfl) rfl rfl rfl ?_
  -- R40.7 194 := laws.go:149 load
  refine MLL.v (fun w st => by exact r_load1 ty_one40 rfl (by first | assumption | exact st.c0 (by first | decide | omega) | exact st.c1 (by first | decide | omega) | exact st.c2 (by first | decide | omega) | exact st.c3 (by first | decide | omega) | exact st.c4 (by first | decide | omega) | exact st.c5 (by first | decide | omega) | exact st.c6 (by first | decide | omega) | exact st.c7 (by first | decide | omega) | exact st.c8 (by first | decide | omega))) rfl rfl rfl ?_
  refine MLL.at ?_
  -- R40.3 190 := laws.go:149 call
  refine WL.call (r_call ty_call20 rfl) rfl rfl rfl (platter_ok (bs := bs) h' (by simp) (st_inF [_, _, _, _, _, _] st)) ?_
  rintro _ w ⟨bb, rfl, st⟩
  rw [esec] at st ⊢
  have st := st_img [_, _, _, _, _, _] XC st
  refine MLL.nxt (st_p2 st) ?_
  refine MLL.at ?_
  -- R40.8 195 := laws.go:149 call
  refine WL.call (r_call ty_call19 rfl) rfl rfl rfl (sectors_ok (st_inF [_, _, _, _, _, _] st)) ?_
  rintro _ w ⟨rfl, st⟩
  have st := st_outF [_, _, _, _, _, _] st
  rw [h'.sec, esec]
  refine MLL.nxt (st_p2 st) ?_
  refine MLL.at ?_
  -- R40.9 196 := laws.go:149 nilCheck
  refine WL.v (by exact r_nilCheck rfl) rfl rfl rfl ?_
  refine MLL.nxt (st_p2 st) ?_
  refine MLL.at ?_
  -- R40.10 197 := laws.go:149 fieldAddr
  refine WL.v (by exact r_field ty_fld60_3 rfl) rfl rfl rfl ?_
  refine MLL.nxt (st_p2 st) ?_
  refine MLL.at ?_
  -- R40.11 None := laws.go:149 store
  refine WL.store (v := .slice (some ⟨bb, 0, none⟩) (P.sec * 512) (P.sec * 512)) st.front3 ty_one29 rfl rfl rfl (by decide) rfl rfl ?_
  intro w st
  have st := (st_nrm (L' := [.map (some bm), .slice wa R.pend.length wc, .slice kp.a kp.bs.length kp.c, .int .i64 (kt), .int .i64 (ktb), .slice (some ⟨bb, 0, none⟩) (P.sec * 512) (P.sec * 512), .int .i64 (0)]) rfl st).back3
  refine MLL.nxt (st_p2 st) ?_
  refine MLL.at ?_
  -- R40.12 198 := laws.go:149 nilCheck
  refine WL.v (by exact r_nilCheck rfl) rfl rfl rfl ?_
  refine MLL.nxt' rfl ?_
  refine MLL.at ?_
  -- R40.13 199 := laws.go:149 fieldAddr
  refine WL.v (by exact r_field ty_fld60_4 rfl) rfl rfl rfl ?_
  refine MLL.nxt' rfl ?_
  refine MLL.at ?_
  -- R40.14 None := laws.go:149 store
  refine WL.store (v := .int .i64 (P.sec : Nat)) st.front3 ty_one2 rfl rfl rfl (by decide) rfl rfl ?_
  intro w st
  have st := (st_nrm (L' := [.map (some bm), .slice wa R.pend.length wc, .slice kp.a kp.bs.length kp.c, .int .i64 (kt), .int .i64 (ktb), .slice (some ⟨bb, 0, none⟩) (P.sec * 512) (P.sec * 512), .int .i64 ((P.sec : Nat))]) rfl st).back3
  refine MLL.nxt' rfl ?_
  refine MLL.wl ?_
  refine WL.fin hK950 (fun _ _ h => h) ?_
  refine WC.seq fun K951 hK951 => ?_
  refine WC.seq fun K952 hK952 => ?_
  -- region 41
  refine WC.region ?_
  -- R41.0 200 := laws.go:150 move
  refine WL.v (by first | exact r_move (v := .func _ _ _) rfl | exact r_move (v := .nilFunc) rfl | exact r_move rfl) rfl rfl rfl ?_
  -- R41.1 201 := laws.go:150 move
  refine WL.v (by first | exact r_move (v := .pointer _) rfl | exact r_move rfl) rfl rfl rfl ?_
  -- R41.2 202 := laws.go:150 call
  have st := st.front3.front4.front1
  have hjr : Calls Tryd.prog F #[.pointer (some ⟨bw, 0, none⟩)] w _ := hJ R kp kt ktb bw bm bb NC (.slice wa R.pend.length wc) XC fC K ((b13, Row 37 2 (nth [.int .i64 (stepP P (op i)).2, .slice da dn dc])) :: sI bs D'.bD :: opI b10 (op i) :: plI b8 svB tB tbB :: DI D' 0 (XC ++ (iI bb (P.sec * 512) (img (stepP P (op i)).1.pc) :: K))) w hFA.wf hkpo hkpl hkpr hbC hoC (fun x hx => List.mem_cons_of_mem _ (List.mem_cons_of_mem _ (List.mem_cons_of_mem _ (List.mem_cons_of_mem _ (mem_in (List.mem_append_left _ hx)))))) (fun x hx => List.mem_cons_of_mem _ (List.mem_cons_of_mem _ (List.mem_cons_of_mem _ (List.mem_cons_of_mem _ (mem_in (List.mem_append_right _ (List.mem_cons_of_mem _ hx))))))) (by rw [hFA.sec, ← epc]; exact List.mem_cons_of_mem _ (List.mem_cons_of_mem _ (List.mem_cons_of_mem _ (List.mem_cons_of_mem _ (mem_in (List.mem_append_right _ List.mem_cons_self)))))) (by rw [hFA.sec]; exact st)
  refine WL.call (r_callv hF rfl rfl) rfl rfl rfl hjr ?_
  rintro _ w ⟨rfl, st⟩
  rw [hFA.sec] at st
  -- R41.3 203 := laws.go:150 unOp
  refine WL.v (by first | exact r_notT rfl | exact r_notF rfl | exact r_not rfl) rfl rfl rfl ?_
  refine WL.fin hK952 (fun _ _ h => h) ?_
  refine WC.condF rfl rfl ?_
  refine WC.skipF hK951 (fun _ _ h => h) ?_
  refine WC.seq fun K953 hK953 => ?_
  -- region 43
  refine WC.region ?_
  -- R43.0 204 := laws.go:153 makeMap
  refine WL.mkmap (keyGood Tryd.prog 2) st rfl rfl ?_
  intro b204 w st
  -- R43.1 205 := laws.go:153 build
  refine WL.v (by exact r_build (ps := [(0, .map _)]) (vs := [_, _, _, _, _, _, _]) ty_pl60 ty_zero60 rfl (fill_step (pv := [_]) (cs' := [_, _, _, _, _, _, _]) rfl rfl rfl rfl (fill_nil))) rfl rfl rfl ?_
  -- R43.2 206 := laws.go:153 box
  first | refine WL.box (m := 7) (vs := [.map _, .slice _ _ _, .slice _ _ _, .int _ _, .int _ _, .slice _ _ _, .int _ _]) st rfl rfl rfl rfl rfl rfl ?_ | refine WL.box (m := 7) (vs := [_, _, _, _, _, _, _]) st rfl rfl rfl rfl rfl rfl ?_ | refine WL.box st rfl rfl rfl rfl rfl rfl ?_
  intro b206 w st
  -- R43.3 18 := laws.go:153 assign
  refine WL.v (by first | exact r_assign (v := .pointer _) rfl | exact r_assign rfl) rfl rfl rfl ?_
  refine WL.fin hK953 (fun _ _ h => h) ?_
  refine WC.seq fun K954 hK954 => ?_
  refine WC.seq fun K955 hK955 => ?_
  -- region 44
  refine WC.region ?_
  -- R44.0 19 := laws.go:154 assign
  refine WL.v (by first | exact r_assign (v := .int _ _) rfl | exact r_assign rfl) rfl rfl rfl ?_
  refine WL.fin hK955 (fun _ _ h => h) ?_
  refine WC.block ?_
  have st : S0 w0 (bkI b206 b204 (.slice none 0 0) (.slice none 0 0) 0 0 (.slice none 0 0) 0 :: mpI b204 (fun _ => none) :: bkI bw bm (.slice wa R.pend.length wc) (.slice kp.a kp.bs.length kp.c) kt ktb (.slice (some ⟨bb, 0, none⟩) (P.sec * 512) (P.sec * 512)) (P.sec : Nat) :: sI bs D'.bD :: plI b8 svB tB tbB :: DI D' 0 (iI bb (P.sec * 512) (img (stepP P (op i)).1.pc) :: K)) w := by
    unfold mpI; rw [gOf_none]; exact (st.drop3.drop3.drop4).sublist ((((((di_sub (List.sublist_append_right _ _)).cons_cons _).cons_cons _).cons_cons _).cons_cons _).cons_cons _)
  refine WC.loop (ι := Nat × (Int → Option Value)) (fun z => [(1, .func (.func F) #[] #[]), (5, .pointer (some ⟨bs, 0, none⟩)), (6, .pointer (some ⟨bw, 0, none⟩)), (7, .int .i64 (P.lim : Nat)), (8, .pointer (some ⟨b8, 0, none⟩)), (18, .pointer (some ⟨b206, 0, none⟩)), (19, .int .i64 (z.1 : Nat)), (24, .slice (some ⟨sb, so, none⟩) n c), (25, .int .i64 (n : Nat)), (26, .int .i64 (i : Nat))])
    (fun z w' => z.1 ≤ P.sec ∧ (∀ u : Nat, u < z.1 → z.2 (u : Int) = some (.slice (some ⟨bb, u * 512, none⟩) 512 (P.sec * 512 - u * 512))) ∧ S0 w0 (bkI b206 b204 (.slice none 0 0) (.slice none 0 0) 0 0 (.slice none 0 0) 0 :: mpI b204 z.2 :: bkI bw bm (.slice wa R.pend.length wc) (.slice kp.a kp.bs.length kp.c) kt ktb (.slice (some ⟨bb, 0, none⟩) (P.sec * 512) (P.sec * 512)) (P.sec : Nat) :: sI bs D'.bD :: plI b8 svB tB tbB :: DI D' 0 (iI bb (P.sec * 512) (img (stepP P (op i)).1.pc) :: K)) w') (fun z => P.sec - z.1) (0, fun _ => none)
    ⟨Nat.zero_le _, fun u hu => absurd hu (Nat.not_lt_zero _), st⟩ ?_ ?_
  · skip
    repeat (first | exact sub_nil _ | refine sub_cons rfl rfl ?_)
  rintro ⟨s, NZ⟩ w ⟨hs, hNZ, st⟩ K2 hK2
  dsimp only at hs hNZ st ⊢
  by_cases hsl : ¬ s < P.sec
  · obtain rfl : s = P.sec := by omega
    have hbF : Bk w0 (iI bb (P.sec * 512) (img (stepP P (op i)).1.pc) :: K) (stepP P (op i)).1.sec (stepP P (op i)).1.pc (stepP P (op i)).1.pend NZ (fun _ => undef) := by
      rw [esec, epe]
      refine ⟨fun u hu v hv => ?_, fun u hu hn => ?_, fun i p hp => by simp at hp⟩
      · rw [hNZ u hu] at hv
        cases hv
        have e : bytesOf 512 ((stepP P (op i)).1.pc u) = bytesOf 512 (fun k => img (stepP P (op i)).1.pc (u * 512 + k)) := bytesOf_congr fun k hk => by
          show _ = (stepP P (op i)).1.pc ((u * 512 + k) / 512) ((u * 512 + k) % 512)
          rw [show (u * 512 + k) / 512 = u by omega, show (u * 512 + k) % 512 = k by omega]
        rw [e]
        exact (Sees.part (img_range h'.pcr) (by omega) (by omega)).mono (by intro x hx; simp only [List.mem_singleton] at hx; subst hx; exact List.mem_cons_self)
      · rw [hNZ u hu] at hn; cases hn
    refine WC.seq fun K956 hK956 => ?_
    refine WC.seq fun K957 hK957 => ?_
    -- region 45
    refine WC.region ?_
    -- R45.0 207 := laws.go:154 move
    refine WL.v (by first | exact r_move (v := .int _ _) rfl | exact r_move rfl) rfl rfl rfl ?_
    -- R45.1 208 := laws.go:154 move
    refine WL.v (by first | exact r_move (v := .pointer _) rfl | exact r_move rfl) rfl rfl rfl ?_
    -- R45.2 209 := laws.go:154 nilCheck
    refine WL.v (by exact r_nilCheck rfl) rfl rfl rfl ?_
    -- R45.3 210 := laws.go:154 fieldAddr
    refine WL.v (by exact r_field ty_fld60_4 rfl) rfl rfl rfl ?_
    -- R45.4 211 := laws.go:154 load
    refine WL.v (by exact r_load1 ty_one2 rfl (by first | assumption | exact st.c0 (by first | decide | omega) | exact st.c1 (by first | decide | omega) | exact st.c2 (by first | decide | omega) | exact st.c3 (by first | decide | omega) | exact st.c4 (by first | decide | omega) | exact st.c5 (by first | decide | omega) | exact st.c6 (by first | decide | omega) | exact st.c7 (by first | decide | omega) | exact st.c8 (by first | decide | omega))) rfl rfl rfl ?_
    -- R45.5 212 := laws.go:154 binOp
    refine WL.v (by first | exact r_lss rfl rfl (decide_eq_true (by omega)) | exact r_lss rfl rfl (decide_eq_false (by omega)) | exact r_lss rfl rfl rfl) rfl rfl rfl ?_
    refine WL.fin hK957 (fun _ _ h => h) ?_
    refine WC.condF rfl rfl ?_
    refine WC.exitF hK954 (fun _ _ h => h) ?_
    -- region 48
    refine WC.region ?_
    -- R48.0 226 := laws.go:157 move
    refine WL.v (by first | exact r_move (v := .pointer _) rfl | exact r_move rfl) rfl rfl rfl ?_
    -- R48.1 6 := laws.go:157 assign
    refine WL.v (by first | exact r_assign (v := .pointer _) rfl | exact r_assign rfl) rfl rfl rfl ?_
    refine WL.fin hK897 (fun _ _ h => h) ?_
    -- region 49
    refine WC.region ?_
    -- R49.0 227 := laws.go:110 binOp
    refine WL.v (by exact r_add (r := ((i + 1 : Nat) : Int)) rfl rfl ((wi64 (by omega) (by omega)).trans (by omega))) rfl rfl rfl ?_
    -- R49.1 26 := laws.go:110 move
    refine WL.v (by first | exact r_move (v := .int _ _) rfl | exact r_move rfl) rfl rfl rfl ?_
    rw [← elim]
    refine WL.next hK1 (fun _ _ h => h) ⟨D', (stepP P (op i)).1, i + 1, b206, b204, NZ, .slice none 0 0, [], fun _ => undef, iI bb (P.sec * 512) (img (stepP P (op i)).1.pc) :: K, svB, tB, tbB⟩ ⟨h', by show i + 1 ≤ n; omega, by show (stepP P (op i)).1.wr ≤ 128 * (i + 1); omega, hbF, by show OwnP _ _ _ (stepP P (op i)).1.pend.length _ _; rw [epe]; exact OwnP.nil _ _ _, hsvo, hsvl, hsvr, (fun h => by rw [ear] at h; cases h), st.drop2.front2⟩ (by show n - (i + 1) < n - i; omega) (by repeat (first | exact sub_nil _ | refine sub_cons rfl rfl ?_))
  have hsl : s < P.sec := by omega
  refine WC.seq fun K958 hK958 => ?_
  refine WC.seq fun K959 hK959 => ?_
  -- region 45
  refine WC.region ?_
  -- R45.0 207 := laws.go:154 move
  refine WL.v (by first | exact r_move (v := .int _ _) rfl | exact r_move rfl) rfl rfl rfl ?_
  -- R45.1 208 := laws.go:154 move
  refine WL.v (by first | exact r_move (v := .pointer _) rfl | exact r_move rfl) rfl rfl rfl ?_
  -- R45.2 209 := laws.go:154 nilCheck
  refine WL.v (by exact r_nilCheck rfl) rfl rfl rfl ?_
  -- R45.3 210 := laws.go:154 fieldAddr
  refine WL.v (by exact r_field ty_fld60_4 rfl) rfl rfl rfl ?_
  -- R45.4 211 := laws.go:154 load
  refine WL.v (by exact r_load1 ty_one2 rfl (by first | assumption | exact st.c0 (by first | decide | omega) | exact st.c1 (by first | decide | omega) | exact st.c2 (by first | decide | omega) | exact st.c3 (by first | decide | omega) | exact st.c4 (by first | decide | omega) | exact st.c5 (by first | decide | omega) | exact st.c6 (by first | decide | omega) | exact st.c7 (by first | decide | omega) | exact st.c8 (by first | decide | omega))) rfl rfl rfl ?_
  -- R45.5 212 := laws.go:154 binOp
  refine WL.v (by first | exact r_lss rfl rfl (decide_eq_true (by omega)) | exact r_lss rfl rfl (decide_eq_false (by omega)) | exact r_lss rfl rfl rfl) rfl rfl rfl ?_
  refine WL.fin hK959 (fun _ _ h => h) ?_
  refine WC.condT rfl rfl ?_
  refine WC.skipF hK958 (fun _ _ h => h) ?_
  refine WC.seq fun K960 hK960 => ?_
  refine WC.block ?_
  -- region 47 (draws)
  refine WC.mixLS [11] [(0, true), (1, true), (2, true), (3, true), (4, true), (5, true), (6, true), (7, true), (8, true), (9, false), (10, false), (11, false)] st (st_p3 st) ty_mixed (by kernel_rfl) fun w st => ?_
  -- R47.0 215 := laws.go:155 move
  refine MLL.v (fun w st => by first | exact r_move (v := .pointer _) rfl | exact r_move rfl) rfl rfl rfl ?_
  -- R47.1 216 := laws.go:155 nilCheck
  refine MLL.v (fun w st => by exact r_nilCheck rfl) rfl rfl rfl ?_
  -- R47.2 217 := laws.go:155 fieldAddr
  refine MLL.v (fun w st => by exact r_field ty_fld60_0 rfl) rfl rfl rfl ?_
  -- R47.3 218 := laws.go:155 load
  refine MLL.v (fun w st => by exact r_load1 ty_one45 rfl (by first | assumption | exact st.c0 (by first | decide | omega) | exact st.c1 (by first | decide | omega) | exact st.c2 (by first | decide | omega) | exact st.c3 (by first | decide | omega) | exact st.c4 (by first | decide | omega) | exact st.c5 (by first | decide | omega) | exact st.c6 (by first | decide | omega) | exact st.c7 (by first | decide | omega) | exact st.c8 (by first | decide | omega))) rfl rfl rfl ?_
  -- R47.4 219 := laws.go:155 move
  refine MLL.v (fun w st => by first | exact r_move (v := .int _ _) rfl | exact r_move rfl) rfl rfl rfl ?_
  -- R47.5 220 := laws.go:155 move
  refine MLL.v (fun w st => by first | exact r_move (v := .pointer _) rfl | exact r_move rfl) rfl rfl rfl ?_
  -- R47.6 221 := laws.go:155 nilCheck
  refine MLL.v (fun w st => by exact r_nilCheck rfl) rfl rfl rfl ?_
  -- R47.7 222 := laws.go:155 fieldAddr
  refine MLL.v (fun w st => by exact r_field ty_fld60_3 rfl) rfl rfl rfl ?_
  -- R47.8 223 := laws.go:155 load
  refine MLL.v (fun w st => by exact r_load1 ty_one29 rfl (by first | assumption | exact st.c0 (by first | decide | omega) | exact st.c1 (by first | decide | omega) | exact st.c2 (by first | decide | omega) | exact st.c3 (by first | decide | omega) | exact st.c4 (by first | decide | omega) | exact st.c5 (by first | decide | omega) | exact st.c6 (by first | decide | omega) | exact st.c7 (by first | decide | omega) | exact st.c8 (by first | decide | omega))) rfl rfl rfl ?_
  refine MLL.at ?_
  -- R47.9 224 := laws.go:155 move
  refine WL.v (by first | exact r_move (v := .int _ _) rfl | exact r_move rfl) rfl rfl rfl ?_
  refine MLL.nxt (st_p3 st) ?_
  refine MLL.at ?_
  -- R47.10 225 := laws.go:155 call
  refine WL.call (r_call ty_call23 rfl) rfl rfl rfl (cut_ok (s := s) (by omega) (Nat.le_refl _) (by omega) st) ?_
  rintro _ w ⟨rfl, st⟩
  rw [Nat.zero_add]
  refine MLL.nxt (st_p3 st) ?_
  refine MLL.at ?_
  -- R47.11 None := laws.go:155 mapUpdate
  refine WL.mapSetI (s := ((s : Nat) : Int)) (val := .slice (some ⟨bb, s * 512, none⟩) 512 (P.sec * 512 - s * 512)) ty_kb2 st.front1 ty_mp45 rfl rfl rfl (good64 (by omega) (by omega)) rfl rfl ?_
  intro w st
  have st := st.back1
  refine MLL.nxt' rfl ?_
  refine MLL.wl ?_
  refine WL.fin hK960 (fun _ _ h => h) ?_
  -- region 46
  refine WC.region ?_
  -- R46.0 213 := laws.go:154 move
  refine WL.v (by first | exact r_move (v := .int _ _) rfl | exact r_move rfl) rfl rfl rfl ?_
  -- R46.1 214 := laws.go:154 binOp
  refine WL.v (by exact r_add (r := ((s + 1 : Nat) : Int)) rfl rfl ((wi64 (by omega) (by omega)).trans (by omega))) rfl rfl rfl ?_
  -- R46.2 19 := laws.go:154 assign
  refine WL.v (by first | exact r_assign (v := .int _ _) rfl | exact r_assign rfl) rfl rfl rfl ?_
  refine WL.next hK2 (fun _ _ h => h) (s + 1, _) ⟨by show s + 1 ≤ P.sec; omega, fun u hu => ?_, st⟩ (by show _ - (s + 1) < _ - s; omega) (by repeat (first | exact sub_nil _ | refine sub_cons rfl rfl ?_))
  have hu : u < s + 1 := hu
  show setN NZ (s : Int) _ (u : Int) = _
  unfold setN
  by_cases hus : u = s
  · subst hus; rw [if_pos rfl]
  · rw [if_neg (by omega)]; exact hNZ u (by omega)
end Go.Proofs.Qxb6500837aDoor

