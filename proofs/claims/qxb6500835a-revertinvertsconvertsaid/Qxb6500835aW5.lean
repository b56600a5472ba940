import Derived.Test.Qxb6500835aW4
set_option linter.unusedVariables false
set_option linter.unusedSimpArgs false
namespace Go.Proofs.Qxb6500835a
open Go.RowKit Go.E1 Go.Conv

/-- Groups that stay readable whatever is added. -/
def GIs (w0 : World) (M : Nat → Prop) (its : List HI) (gb q : Nat) (S : Nat → Nat) (A : Nat → Pr) : Prop :=
  ∃ db dc, ∀ l w', St w0 M l w' → its ⊆ l → GAt w' gb 0 q (fun t => (A (S t)).2) (fun _ => db) S (fun t => S (t + 1) - S t) dc (fun t j => (A (S t + j)).1)

/-- What a conversion leaves. -/
def Made (w0 : World) (M : Nat → Prop) (L : List HI) (cb n : Nat) (X : Nat → Pr) (v : Value) (w' : World) : Prop :=
  ∃ gb gc q S A its F' fv' FI', v = .slice (some ⟨gb, 0, none⟩) q gc ∧ Out n X A q S ∧ GIs w0 M its gb q S A ∧ ConvF F' fv' ∧ FewOk fv' FI' ∧ St w0 M ((cb, Row 27 513 F') :: (FI' ++ (its ++ L))) w'

theorem Grouped.made {w0 : World} {M : Nat → Prop} {L : List HI} {cb n : Nat} {X : Nat → Pr} {v : Value} {w' : World} (h : Grouped w0 M L cb n X v w') : Made w0 M L cb n X v w' := by
  obtain ⟨gb, gc, db, q, S, A, g, fd, F', fv', FI', hv, hO, hG, hD, hq, hF, hfew, st⟩ := h
  refine ⟨gb, gc, q, S, A, [(gb, Row 60 (gc * 2) g), (db, Row 50 (n * 1) fd)], F', fv', FI', hv, hO, ?_, hF, hfew, ?_⟩
  · refine ⟨db, fun t => if h : t < q then Classical.choose (hG t h).2 else 0, fun l w' st' hsub t ht => ⟨?_, ?_, fun j hj => ?_⟩⟩
    · rw [← (hG t ht).1]
      exact st'.cell (t := 60) (n := gc * 2) (hsub (by simp)) (by omega)
    · have h := Classical.choose_spec (hG t ht).2
      simp only [dif_pos ht]
      rw [← h]
      exact st'.cell (t := 60) (n := gc * 2) (hsub (by simp)) (by omega)
    · simp only at hj ⊢
      have h1 := S_le hO.lt (t + 1) q (by omega) (Nat.le_refl _)
      rw [hO.sq] at h1
      have h2 := hD (S t + j) (by omega)
      have h3 := st'.cell (b := db) (off := 0 + (S t + j) * 1) (t := 50) (n := n * 1) (f := fd) (hsub (by simp)) (by omega)
      rw [h2] at h3
      rw [← h3]
      congr 2
      omega
  · refine st.perm ?_
    simp only [List.cons_append, List.nil_append]
    have p1 : ((gb, Row 60 (gc * 2) g) :: (db, Row 50 (n * 1) fd) :: (cb, Row 27 513 F') :: (FI' ++ L)).Perm ((cb, Row 27 513 F') :: (gb, Row 60 (gc * 2) g) :: (db, Row 50 (n * 1) fd) :: (FI' ++ L)) :=
      List.perm_middle (l₁ := [(gb, Row 60 (gc * 2) g), (db, Row 50 (n * 1) fd)])
    refine p1.trans (List.Perm.cons _ ?_)
    have p2 := List.perm_append_comm_assoc [(gb, Row 60 (gc * 2) g), (db, Row 50 (n * 1) fd)] FI' L
    simpa using p2

theorem GIs.mono {w0 : World} {M : Nat → Prop} {its its' : List HI} {gb q : Nat} {S : Nat → Nat} {A : Nat → Pr} (h : GIs w0 M its gb q S A) (hs : its ⊆ its') : GIs w0 M its' gb q S A := by
  obtain ⟨db, dc, h⟩ := h
  exact ⟨db, dc, fun l w' st hl => h l w' st (fun x hx => hl (hs hx))⟩

theorem groups_ok (cb lb lo n lcap : Nat) (a : Option Addr) (X : Nat → Pr) (V : Nat → Nat) (F : Nat → Value) (fv : Value) (FI : List HI) {w0 : World} {M : Nat → Prop} {L : List HI} {w : World} (hn2 : n ≤ 65536) (ha : 0 < n → a = some ⟨lb, lo, none⟩)
    (hX : ∀ a b, a < b → b < n → (X a).1 < (X b).1) (hV : ∀ k, k < n → (X k).2 = (V k : Int) ∧ V k < 256) (hrd : ∀ its w', St w0 M (its ++ L) w' → LAt w' lb lo n X) (hF : ConvF F fv) (hfew : FewOk fv FI)
    (st : St w0 M ((cb, Row 27 513 F) :: (FI ++ L)) w) :
    Calls Try.prog 10 #[.pointer (some ⟨cb, 0, none⟩), .slice a n lcap] w
      (Ret fun v w' => (n = 0 ∧ v = .slice none 0 0 ∧ St w0 M ((cb, Row 27 513 F) :: (FI ++ L)) w') ∨ (1 ≤ n ∧ Made w0 M L cb n X v w')) := by
  by_cases h0 : n = 0
  · subst h0
    refine enter [.pointer (some ⟨cb, 0, none⟩), .slice a 0 lcap] Try.func10 rfl Try.ntmps10 rfl ?_
    show WC _ _ _ 19 [] [(0, .pointer (some ⟨cb, 0, none⟩)), (1, .slice a 0 lcap)] _
    refine WC.seq fun K112 hK112 => ?_
    -- region 0
    refine WC.region ?_
    -- R0.0 4 := convert.go:64 assign
    refine WL.v (by first | exact r_assign (v := .slice _ _ _) rfl | exact r_assign rfl) rfl rfl rfl ?_
    refine WL.fin hK112 (fun _ _ h => h) ?_
    refine WC.seq fun K113 hK113 => ?_
    refine WC.block ?_
    refine WC.seq fun K114 hK114 => ?_
    -- region 1
    refine WC.region ?_
    -- R1.0 6 := convert.go:66 move
    refine WL.v (by first | exact r_move (v := .slice _ _ _) rfl | exact r_move rfl) rfl rfl rfl ?_
    -- R1.1 7 := convert.go:66 call
    refine WL.v (by exact r_len ty_usl25 rfl) rfl rfl rfl ?_
    -- R1.2 8 := convert.go:66 binOp
    refine WL.v (by first | exact r_eql rfl rfl (decide_eq_true (by omega)) | exact r_eql rfl rfl (decide_eq_false (by omega)) | exact r_eql rfl rfl rfl) rfl rfl rfl ?_
    -- R1.3 5 := convert.go:66 assign
    refine WL.v (by first | exact r_assign (v := .bool _) rfl | exact r_assign rfl) rfl rfl rfl ?_
    refine WL.fin hK114 (fun _ _ h => h) ?_
    refine WC.condT rfl rfl ?_
    refine WC.seq fun K115 hK115 => ?_
    -- region 2
    refine WC.region ?_
    -- R2.0 4 := convert.go:67 assign
    refine WL.v (by first | exact r_assign (v := .slice _ _ _) rfl | exact r_assign rfl) rfl rfl rfl ?_
    refine WL.fin hK115 (fun _ _ h => h) ?_
    refine WC.ret1 Try.results10 (fun _ _ h => h) rfl ?_
    exact ⟨_, rfl, .inl ⟨rfl, rfl, st⟩⟩
  · obtain rfl := ha (by omega)
    by_cases h12 : n ≤ 12
    · skip
      refine enter [.pointer (some ⟨cb, 0, none⟩), .slice (some ⟨lb, lo, none⟩) n lcap] Try.func10 rfl Try.ntmps10 rfl ?_
      show WC _ _ _ 19 [] [(0, .pointer (some ⟨cb, 0, none⟩)), (1, .slice (some ⟨lb, lo, none⟩) n lcap)] _
      refine WC.seq fun K116 hK116 => ?_
      -- region 0
      refine WC.region ?_
      -- R0.0 4 := convert.go:64 assign
      refine WL.v (by first | exact r_assign (v := .slice _ _ _) rfl | exact r_assign rfl) rfl rfl rfl ?_
      refine WL.fin hK116 (fun _ _ h => h) ?_
      refine WC.seq fun K117 hK117 => ?_
      refine WC.block ?_
      refine WC.seq fun K118 hK118 => ?_
      -- region 1
      refine WC.region ?_
      -- R1.0 6 := convert.go:66 move
      refine WL.v (by first | exact r_move (v := .slice _ _ _) rfl | exact r_move rfl) rfl rfl rfl ?_
      -- R1.1 7 := convert.go:66 call
      refine WL.v (by exact r_len ty_usl25 rfl) rfl rfl rfl ?_
      -- R1.2 8 := convert.go:66 binOp
      refine WL.v (by first | exact r_eql rfl rfl (decide_eq_true (by omega)) | exact r_eql rfl rfl (decide_eq_false (by omega)) | exact r_eql rfl rfl rfl) rfl rfl rfl ?_
      -- R1.3 5 := convert.go:66 assign
      refine WL.v (by first | exact r_assign (v := .bool _) rfl | exact r_assign rfl) rfl rfl rfl ?_
      refine WL.fin hK118 (fun _ _ h => h) ?_
      refine WC.condF rfl rfl ?_
      refine WC.seq fun K119 hK119 => ?_
      -- region 3
      refine WC.region ?_
      -- R3.0 10 := convert.go:68 move
      refine WL.v (by first | exact r_move (v := .slice _ _ _) rfl | exact r_move rfl) rfl rfl rfl ?_
      -- R3.1 11 := convert.go:68 call
      refine WL.v (by exact r_len ty_usl25 rfl) rfl rfl rfl ?_
      -- R3.2 12 := convert.go:68 binOp
      refine WL.v (by first | exact r_leq rfl rfl (decide_eq_true (by omega)) | exact r_leq rfl rfl (decide_eq_false (by omega)) | exact r_leq rfl rfl rfl) rfl rfl rfl ?_
      -- R3.3 9 := convert.go:68 assign
      refine WL.v (by first | exact r_assign (v := .bool _) rfl | exact r_assign rfl) rfl rfl rfl ?_
      refine WL.fin hK119 (fun _ _ h => h) ?_
      refine WC.condT rfl rfl ?_
      refine WC.seq fun K120 hK120 => ?_
      -- region 4
      refine WC.region ?_
      -- R4.0 13 := convert.go:69 move
      refine WL.v (by first | exact r_move (v := .pointer _) rfl | exact r_move rfl) rfl rfl rfl ?_
      -- R4.1 14 := convert.go:69 move
      refine WL.v (by first | exact r_move (v := .slice _ _ _) rfl | exact r_move rfl) rfl rfl rfl ?_
      -- R4.2 15 := convert.go:69 call
      refine WL.call (r_call ty_call19 rfl) rfl rfl rfl (few_ok cb lb lo n lcap X F fv FI (by omega) h12 hX hrd hF hfew st) ?_
      intro v w hv
      -- R4.3 4 := convert.go:69 assign
      refine WL.v (by first | exact r_assign (v := .slice _ _ _) rfl | exact r_assign rfl) rfl rfl rfl ?_
      refine WL.fin hK120 (fun _ _ h => h) ?_
      refine WC.ret1 Try.results10 (fun _ _ h => h) rfl ?_
      exact ⟨_, rfl, .inr ⟨by omega, hv.made⟩⟩
    · skip
      refine enter [.pointer (some ⟨cb, 0, none⟩), .slice (some ⟨lb, lo, none⟩) n lcap] Try.func10 rfl Try.ntmps10 rfl ?_
      show WC _ _ _ 19 [] [(0, .pointer (some ⟨cb, 0, none⟩)), (1, .slice (some ⟨lb, lo, none⟩) n lcap)] _
      refine WC.seq fun K121 hK121 => ?_
      -- region 0
      refine WC.region ?_
      -- R0.0 4 := convert.go:64 assign
      refine WL.v (by first | exact r_assign (v := .slice _ _ _) rfl | exact r_assign rfl) rfl rfl rfl ?_
      refine WL.fin hK121 (fun _ _ h => h) ?_
      refine WC.seq fun K122 hK122 => ?_
      refine WC.block ?_
      refine WC.seq fun K123 hK123 => ?_
      -- region 1
      refine WC.region ?_
      -- R1.0 6 := convert.go:66 move
      refine WL.v (by first | exact r_move (v := .slice _ _ _) rfl | exact r_move rfl) rfl rfl rfl ?_
      -- R1.1 7 := convert.go:66 call
      refine WL.v (by exact r_len ty_usl25 rfl) rfl rfl rfl ?_
      -- R1.2 8 := convert.go:66 binOp
      refine WL.v (by first | exact r_eql rfl rfl (decide_eq_true (by omega)) | exact r_eql rfl rfl (decide_eq_false (by omega)) | exact r_eql rfl rfl rfl) rfl rfl rfl ?_
      -- R1.3 5 := convert.go:66 assign
      refine WL.v (by first | exact r_assign (v := .bool _) rfl | exact r_assign rfl) rfl rfl rfl ?_
      refine WL.fin hK123 (fun _ _ h => h) ?_
      refine WC.condF rfl rfl ?_
      refine WC.seq fun K124 hK124 => ?_
      -- region 3
      refine WC.region ?_
      -- R3.0 10 := convert.go:68 move
      refine WL.v (by first | exact r_move (v := .slice _ _ _) rfl | exact r_move rfl) rfl rfl rfl ?_
      -- R3.1 11 := convert.go:68 call
      refine WL.v (by exact r_len ty_usl25 rfl) rfl rfl rfl ?_
      -- R3.2 12 := convert.go:68 binOp
      refine WL.v (by first | exact r_leq rfl rfl (decide_eq_true (by omega)) | exact r_leq rfl rfl (decide_eq_false (by omega)) | exact r_leq rfl rfl rfl) rfl rfl rfl ?_
      -- R3.3 9 := convert.go:68 assign
      refine WL.v (by first | exact r_assign (v := .bool _) rfl | exact r_assign rfl) rfl rfl rfl ?_
      refine WL.fin hK124 (fun _ _ h => h) ?_
      refine WC.condF rfl rfl ?_
      refine WC.skipF hK122 (fun _ _ h => h) ?_
      refine WC.seq fun K125 hK125 => ?_
      -- region 5
      refine WC.region ?_
      -- R5.0 16 := convert.go:71 move
      refine WL.v (by first | exact r_move (v := .pointer _) rfl | exact r_move rfl) rfl rfl rfl ?_
      -- R5.1 17 := convert.go:71 move
      refine WL.v (by first | exact r_move (v := .slice _ _ _) rfl | exact r_move rfl) rfl rfl rfl ?_
      -- R5.2 18 := convert.go:71 call
      refine WL.call (r_call ty_call20 rfl) rfl rfl rfl (many_ok cb lb lo n lcap X V F fv FI (by omega) hn2 hX hV hrd hF hfew st) ?_
      intro v w hv
      -- R5.3 4 := convert.go:71 assign
      refine WL.v (by first | exact r_assign (v := .slice _ _ _) rfl | exact r_assign rfl) rfl rfl rfl ?_
      refine WL.fin hK125 (fun _ _ h => h) ?_
      refine WC.ret1 Try.results10 (fun _ _ h => h) rfl ?_
      exact ⟨_, rfl, .inr ⟨by omega, hv.made⟩⟩

/-- A list that may be converted. -/
def OKL (n : Nat) (X : Nat → Pr) : Prop := ∀ j, j < n → (X j).2 ≠ 0 ∧ (0 < j → (X (j - 1)).1 < (X j).1)

theorem OKL.rise {n : Nat} {X : Nat → Pr} (h : OKL n X) : ∀ a b, a < b → b < n → (X a).1 < (X b).1 := by
  intro a b
  induction b with
  | zero => intro h1; omega
  | succ b ih =>
    intro h1 h2
    have := (h (b + 1) h2).2 (by omega)
    rw [show b + 1 - 1 = b by omega] at this
    by_cases hab : a = b
    · subst hab; exact this
    · have := ih (by omega) (by omega); omega

set_option maxHeartbeats 4000000 in
theorem convert_ok (cb lb lo n lcap : Nat) (a : Option Addr) (X : Nat → Pr) (V : Nat → Nat) (F : Nat → Value) (fv : Value) (FI : List HI) {w0 : World} {M : Nat → Prop} {L : List HI} {w : World} (hn2 : n ≤ 65536) (ha : 0 < n → a = some ⟨lb, lo, none⟩)
    (hV : ∀ k, k < n → (X k).2 = (V k : Int) ∧ V k < 256) (hD : ∀ k, k < n → 0 ≤ (X k).1 ∧ (X k).1 < 4294967296) (hrd : ∀ its w', St w0 M (its ++ L) w' → LAt w' lb lo n X) (hF : ConvF F fv) (hfew : FewOk fv FI)
    (st : St w0 M ((cb, Row 27 513 F) :: (FI ++ L)) w) :
    Calls Try.prog 5 #[.pointer (some ⟨cb, 0, none⟩), .slice a n lcap] w
      (Ret fun v w' => (¬ OKL n X ∧ (∃ b, v = .tuple #[.slice none 0 0, .iface 75 (.pointer (some ⟨b, 0, none⟩))]) ∧ St w0 M ((cb, Row 27 513 F) :: (FI ++ L)) w') ∨
        (OKL n X ∧ n = 0 ∧ v = .tuple #[.slice none 0 0, .nilIface] ∧ St w0 M ((cb, Row 27 513 F) :: (FI ++ L)) w') ∨
        (OKL n X ∧ 1 ≤ n ∧ ∃ gv, v = .tuple #[gv, .nilIface] ∧ Made w0 M L cb n X gv w')) := by
  have hrd1 : ∀ its w', St w0 M (its ++ (FI ++ L)) w' → LAt w' lb lo n X := fun its w' s => hrd (its ++ FI) w' (by rw [List.append_assoc]; exact s)
  refine enter [.pointer (some ⟨cb, 0, none⟩), .slice a n lcap] Try.func5 rfl Try.ntmps5 rfl ?_
  show WC _ _ _ 43 [] [(0, .pointer (some ⟨cb, 0, none⟩)), (1, .slice a n lcap)] _
  refine WC.seq fun K126 hK126 => ?_
  -- region 0
  refine WC.region ?_
  -- R0.0 4 := convert.go:21 assign
  refine WL.v (by first | exact r_assign (v := .slice _ _ _) rfl | exact r_assign rfl) rfl rfl rfl ?_
  -- R0.1 5 := convert.go:21 assign
  refine WL.v (by first | exact r_assign (v := .nilIface) rfl | exact r_assign (v := .iface _ _) rfl | exact r_assign rfl) rfl rfl rfl ?_
  refine WL.fin hK126 (fun _ _ h => h) ?_
  refine WC.seq fun K127 hK127 => ?_
  refine WC.seq fun K128 hK128 => ?_
  -- region 1
  refine WC.region ?_
  -- R1.0 8 := convert.go:22 move
  refine WL.v (by first | exact r_move (v := .slice _ _ _) rfl | exact r_move rfl) rfl rfl rfl ?_
  -- R1.1 9 := convert.go:22 call
  refine WL.v (by exact r_len ty_usl25 rfl) rfl rfl rfl ?_
  -- R1.2 10 := convert.go:22 move
  refine WL.v (by first | exact r_move (v := .int _ _) rfl | exact r_move rfl) rfl rfl rfl ?_
  refine WL.fin hK128 (fun _ _ h => h) ?_
  refine WC.block ?_
  refine WC.loop (ι := Nat) (fun k => [(0, .pointer (some ⟨cb, 0, none⟩)), (1, .slice a n lcap), (8, .slice a n lcap), (9, .int .i64 (n : Nat)), (10, .int .i64 (k : Nat))])
    (fun k w' => St w0 M ((cb, Row 27 513 F) :: (FI ++ L)) w' ∧ k ≤ n ∧ OKL k X) (fun k => n - k) 0 ⟨st, Nat.zero_le _, fun j hj => by omega⟩ ?_ ?_
  · skip
    repeat (first | exact sub_nil _ | refine sub_cons rfl rfl ?_)
  rintro k w ⟨st, hk, hok⟩ K1 hK1
  by_cases hlt : k < n
  · obtain rfl := ha (by omega)
    have hd := hD k hlt
    have hl := fun w' (s' : St w0 M ((cb, Row 27 513 F) :: (FI ++ L)) w') => hrd1 [_] w' s' k hlt
    by_cases hz : (X k).2 = 0
    · skip
      refine WC.seq fun K129 hK129 => ?_
      -- region 2
      refine WC.region ?_
      -- R2.0 11 := convert.go:22 binOp
      refine WL.v (by first | exact r_lss rfl rfl (decide_eq_true (by omega)) | exact r_lss rfl rfl (decide_eq_false (by omega)) | exact r_lss rfl rfl rfl) rfl rfl rfl ?_
      refine WL.fin hK129 (fun _ _ h => h) ?_
      refine WC.seq fun K130 hK130 => ?_
      refine WC.condT rfl rfl ?_
      refine WC.skipF hK130 (fun _ _ h => h) ?_
      refine WC.seq fun K131 hK131 => ?_
      refine WC.block ?_
      refine WC.seq fun K132 hK132 => ?_
      -- region 3
      refine WC.region ?_
      -- R3.0 12 := convert.go:22 move
      refine WL.v (by first | exact r_move (v := .int _ _) rfl | exact r_move rfl) rfl rfl rfl ?_
      -- R3.1 13 := convert.go:22 indexAddr
      refine WL.v (by exact r_indexS ty_sl25 rfl rfl rfl (by omega)) rfl rfl rfl ?_
      -- R3.2 14 := convert.go:22 load
      refine WL.v (by exact r_loadL (vs := [_, _]) ty_agg63 rfl ⟨((hl _ st).1), ((hl _ st).2), trivial⟩) rfl rfl rfl ?_
      -- R3.3 7 := convert.go:22 alloc
      refine WL.alloc st ty_zero63 rfl rfl rfl ?_
      intro b7 w st
      -- R3.4 6 := convert.go:22 assign
      refine WL.v (by first | exact r_assign (v := .int _ _) rfl | exact r_assign rfl) rfl rfl rfl ?_
      -- R3.5 None := convert.go:22 store
      first | refine WL.storeW (vs := [_, _]) st ty_agg63 rfl rfl rfl rfl rfl rfl ?_ | refine WL.storeL (vs := [_, _]) st ty_agg63 rfl rfl rfl rfl (by first | decide | omega) rfl rfl ?_ | refine WL.storeW (vs := [_, _]) st.front1 ty_agg63 rfl rfl rfl rfl rfl rfl ?_ | refine WL.storeL (vs := [_, _]) st.front1 ty_agg63 rfl rfl rfl rfl (by first | decide | omega) rfl rfl ?_ | refine WL.storeW (vs := [_, _]) st.front2 ty_agg63 rfl rfl rfl rfl rfl rfl ?_ | refine WL.storeL (vs := [_, _]) st.front2 ty_agg63 rfl rfl rfl rfl (by first | decide | omega) rfl rfl ?_ | refine WL.storeW (vs := [_, _]) st.front3 ty_agg63 rfl rfl rfl rfl rfl rfl ?_ | refine WL.storeL (vs := [_, _]) st.front3 ty_agg63 rfl rfl rfl rfl (by first | decide | omega) rfl rfl ?_ | refine WL.storeW (vs := [_, _]) st.front4 ty_agg63 rfl rfl rfl rfl rfl rfl ?_ | refine WL.storeL (vs := [_, _]) st.front4 ty_agg63 rfl rfl rfl rfl (by first | decide | omega) rfl rfl ?_ | refine WL.storeW (vs := [_, _]) st.front5 ty_agg63 rfl rfl rfl rfl rfl rfl ?_ | refine WL.storeL (vs := [_, _]) st.front5 ty_agg63 rfl rfl rfl rfl (by first | decide | omega) rfl rfl ?_ | refine WL.storeW (vs := [_, _]) st.front6 ty_agg63 rfl rfl rfl rfl rfl rfl ?_ | refine WL.storeL (vs := [_, _]) st.front6 ty_agg63 rfl rfl rfl rfl (by first | decide | omega) rfl rfl ?_ | refine WL.storeW (vs := [_, _]) st.front7 ty_agg63 rfl rfl rfl rfl rfl rfl ?_ | refine WL.storeL (vs := [_, _]) st.front7 ty_agg63 rfl rfl rfl rfl (by first | decide | omega) rfl rfl ?_ | refine WL.storeW (vs := [_, _]) st.front8 ty_agg63 rfl rfl rfl rfl rfl rfl ?_ | refine WL.storeL (vs := [_, _]) st.front8 ty_agg63 rfl rfl rfl rfl (by first | decide | omega) rfl rfl ?_
      intro w st
      refine WL.fin hK132 (fun _ _ h => h) ?_
      refine WC.seq fun K133 hK133 => ?_
      refine WC.seq fun K134 hK134 => ?_
      -- region 4
      refine WC.region ?_
      -- R4.0 15 := convert.go:23 fieldAddr
      refine WL.v (by exact r_field ty_fld63_1 rfl) rfl rfl rfl ?_
      -- R4.1 16 := convert.go:23 load
      refine WL.v (by exact r_load1 ty_one5 rfl (by first | assumption | exact st.c0 (by first | decide | omega) | exact st.c1 (by first | decide | omega) | exact st.c2 (by first | decide | omega) | exact st.c3 (by first | decide | omega) | exact st.c4 (by first | decide | omega) | exact st.c5 (by first | decide | omega) | exact st.c6 (by first | decide | omega) | exact st.c7 (by first | decide | omega) | exact st.c8 (by first | decide | omega))) rfl rfl rfl ?_
      -- R4.2 17 := convert.go:23 binOp
      refine WL.v (by first | exact r_eql rfl rfl (decide_eq_true (by omega)) | exact r_eql rfl rfl (decide_eq_false (by omega)) | exact r_eql rfl rfl rfl) rfl rfl rfl ?_
      refine WL.fin hK134 (fun _ _ h => h) ?_
      refine WC.condT rfl rfl ?_
      refine WC.seq fun K135 hK135 => ?_
      -- region 5
      refine WC.region ?_
      -- R5.0 18 := convert.go:24 fieldAddr
      refine WL.v (by exact r_field ty_fld63_0 rfl) rfl rfl rfl ?_
      -- R5.1 19 := convert.go:24 load
      refine WL.v (by exact r_load1 ty_one50 rfl (by first | assumption | exact st.c0 (by first | decide | omega) | exact st.c1 (by first | decide | omega) | exact st.c2 (by first | decide | omega) | exact st.c3 (by first | decide | omega) | exact st.c4 (by first | decide | omega) | exact st.c5 (by first | decide | omega) | exact st.c6 (by first | decide | omega) | exact st.c7 (by first | decide | omega) | exact st.c8 (by first | decide | omega))) rfl rfl rfl ?_
      -- R5.2 20 := convert.go:24 convert
      refine WL.v (by first | exact r_conv ty_cv50_3 rfl (wi64 (by omega) (by omega)) | exact r_conv ty_cv50_3 rfl rfl) rfl rfl rfl ?_
      -- R5.3 21 := convert.go:24 call
      refine WL.call (r_call ty_call9 rfl) rfl rfl rfl (badInput_ok _ _ _ st) ?_
      rintro _ w ⟨eb, rfl, st⟩
      -- R5.4 4 := convert.go:24 assign
      refine WL.v (by first | exact r_assign (v := .slice _ _ _) rfl | exact r_assign rfl) rfl rfl rfl ?_
      -- R5.5 5 := convert.go:24 assign
      refine WL.v (by first | exact r_assign (v := .nilIface) rfl | exact r_assign (v := .iface _ _) rfl | exact r_assign rfl) rfl rfl rfl ?_
      refine WL.fin hK135 (fun _ _ h => h) ?_
      refine WC.ret2 Try.results5 (fun _ _ h => h) rfl ?_
      exact ⟨_, rfl, .inl ⟨fun h => (h k hlt).1 hz, ⟨_, rfl⟩, st.drop.drop⟩⟩
    · by_cases hk0 : 0 < k
      · skip
        by_cases hge : (X k).1 ≤ (X (k - 1)).1
        · skip
          refine WC.seq fun K136 hK136 => ?_
          -- region 2
          refine WC.region ?_
          -- R2.0 11 := convert.go:22 binOp
          refine WL.v (by first | exact r_lss rfl rfl (decide_eq_true (by omega)) | exact r_lss rfl rfl (decide_eq_false (by omega)) | exact r_lss rfl rfl rfl) rfl rfl rfl ?_
          refine WL.fin hK136 (fun _ _ h => h) ?_
          refine WC.seq fun K137 hK137 => ?_
          refine WC.condT rfl rfl ?_
          refine WC.skipF hK137 (fun _ _ h => h) ?_
          refine WC.seq fun K138 hK138 => ?_
          refine WC.block ?_
          refine WC.seq fun K139 hK139 => ?_
          -- region 3
          refine WC.region ?_
          -- R3.0 12 := convert.go:22 move
          refine WL.v (by first | exact r_move (v := .int _ _) rfl | exact r_move rfl) rfl rfl rfl ?_
          -- R3.1 13 := convert.go:22 indexAddr
          refine WL.v (by exact r_indexS ty_sl25 rfl rfl rfl (by omega)) rfl rfl rfl ?_
          -- R3.2 14 := convert.go:22 load
          refine WL.v (by exact r_loadL (vs := [_, _]) ty_agg63 rfl ⟨((hl _ st).1), ((hl _ st).2), trivial⟩) rfl rfl rfl ?_
          -- R3.3 7 := convert.go:22 alloc
          refine WL.alloc st ty_zero63 rfl rfl rfl ?_
          intro b7 w st
          -- R3.4 6 := convert.go:22 assign
          refine WL.v (by first | exact r_assign (v := .int _ _) rfl | exact r_assign rfl) rfl rfl rfl ?_
          -- R3.5 None := convert.go:22 store
          first | refine WL.storeW (vs := [_, _]) st ty_agg63 rfl rfl rfl rfl rfl rfl ?_ | refine WL.storeL (vs := [_, _]) st ty_agg63 rfl rfl rfl rfl (by first | decide | omega) rfl rfl ?_ | refine WL.storeW (vs := [_, _]) st.front1 ty_agg63 rfl rfl rfl rfl rfl rfl ?_ | refine WL.storeL (vs := [_, _]) st.front1 ty_agg63 rfl rfl rfl rfl (by first | decide | omega) rfl rfl ?_ | refine WL.storeW (vs := [_, _]) st.front2 ty_agg63 rfl rfl rfl rfl rfl rfl ?_ | refine WL.storeL (vs := [_, _]) st.front2 ty_agg63 rfl rfl rfl rfl (by first | decide | omega) rfl rfl ?_ | refine WL.storeW (vs := [_, _]) st.front3 ty_agg63 rfl rfl rfl rfl rfl rfl ?_ | refine WL.storeL (vs := [_, _]) st.front3 ty_agg63 rfl rfl rfl rfl (by first | decide | omega) rfl rfl ?_ | refine WL.storeW (vs := [_, _]) st.front4 ty_agg63 rfl rfl rfl rfl rfl rfl ?_ | refine WL.storeL (vs := [_, _]) st.front4 ty_agg63 rfl rfl rfl rfl (by first | decide | omega) rfl rfl ?_ | refine WL.storeW (vs := [_, _]) st.front5 ty_agg63 rfl rfl rfl rfl rfl rfl ?_ | refine WL.storeL (vs := [_, _]) st.front5 ty_agg63 rfl rfl rfl rfl (by first | decide | omega) rfl rfl ?_ | refine WL.storeW (vs := [_, _]) st.front6 ty_agg63 rfl rfl rfl rfl rfl rfl ?_ | refine WL.storeL (vs := [_, _]) st.front6 ty_agg63 rfl rfl rfl rfl (by first | decide | omega) rfl rfl ?_ | refine WL.storeW (vs := [_, _]) st.front7 ty_agg63 rfl rfl rfl rfl rfl rfl ?_ | refine WL.storeL (vs := [_, _]) st.front7 ty_agg63 rfl rfl rfl rfl (by first | decide | omega) rfl rfl ?_ | refine WL.storeW (vs := [_, _]) st.front8 ty_agg63 rfl rfl rfl rfl rfl rfl ?_ | refine WL.storeL (vs := [_, _]) st.front8 ty_agg63 rfl rfl rfl rfl (by first | decide | omega) rfl rfl ?_
          intro w st
          refine WL.fin hK139 (fun _ _ h => h) ?_
          refine WC.seq fun K140 hK140 => ?_
          refine WC.seq fun K141 hK141 => ?_
          -- region 4
          refine WC.region ?_
          -- R4.0 15 := convert.go:23 fieldAddr
          refine WL.v (by exact r_field ty_fld63_1 rfl) rfl rfl rfl ?_
          -- R4.1 16 := convert.go:23 load
          refine WL.v (by exact r_load1 ty_one5 rfl (by first | assumption | exact st.c0 (by first | decide | omega) | exact st.c1 (by first | decide | omega) | exact st.c2 (by first | decide | omega) | exact st.c3 (by first | decide | omega) | exact st.c4 (by first | decide | omega) | exact st.c5 (by first | decide | omega) | exact st.c6 (by first | decide | omega) | exact st.c7 (by first | decide | omega) | exact st.c8 (by first | decide | omega))) rfl rfl rfl ?_
          -- R4.2 17 := convert.go:23 binOp
          refine WL.v (by first | exact r_eql rfl rfl (decide_eq_true (by omega)) | exact r_eql rfl rfl (decide_eq_false (by omega)) | exact r_eql rfl rfl rfl) rfl rfl rfl ?_
          refine WL.fin hK141 (fun _ _ h => h) ?_
          refine WC.condF rfl rfl ?_
          refine WC.skipF hK140 (fun _ _ h => h) ?_
          refine WC.seq fun K142 hK142 => ?_
          -- region 6 (draws)
          refine WC.quietS st ty_mixed (by kernel_rfl) fun Kq hKq => ?_
          -- R6.0 22 := convert.go:26 move
          refine QL.v (fun w st => by first | exact r_move (v := .int _ _) rfl | exact r_move rfl) rfl rfl rfl ?_
          -- R6.1 23 := convert.go:26 binOp
          refine QL.v (fun w st => by first | exact r_gtr rfl rfl (decide_eq_true (by omega)) | exact r_gtr rfl rfl (decide_eq_false (by omega)) | exact r_gtr rfl rfl rfl) rfl rfl rfl ?_
          -- R6.2 24 := convert.go:26 move
          refine QL.v (fun w st => by first | exact r_move (v := .bool _) rfl | exact r_move rfl) rfl rfl rfl ?_
          -- R6.3 25 := convert.go:26 move
          refine QL.v (fun w st => by first | exact r_move (v := .slice _ _ _) rfl | exact r_move rfl) rfl rfl rfl ?_
          -- R6.4 26 := convert.go:26 move
          refine QL.v (fun w st => by first | exact r_move (v := .int _ _) rfl | exact r_move rfl) rfl rfl rfl ?_
          -- R6.5 27 := convert.go:26 binOp
          refine QL.v (fun w st => by first | exact r_sub rfl rfl (wi64 (by omega) (by omega)) | exact r_sub rfl rfl rfl) rfl rfl rfl ?_
          -- R6.6 28 := convert.go:26 indexAddr
          refine QL.v (fun w st => by exact r_indexS (j := k - 1) ty_sl25 rfl rfl (by omega) (by omega)) rfl rfl rfl ?_
          -- R6.7 29 := convert.go:26 fieldAddr
          refine QL.v (fun w st => by exact r_field ty_fld63_0 rfl) rfl rfl rfl ?_
          -- R6.8 30 := convert.go:26 load
          refine QL.v (fun w st => by exact r_load1 ty_one50 rfl ((hrd1 [_, _] _ st (k - 1) (by omega)).1)) rfl rfl rfl ?_
          -- R6.9 31 := convert.go:26 fieldAddr
          refine QL.v (fun w st => by exact r_field ty_fld63_0 rfl) rfl rfl rfl ?_
          -- R6.10 32 := convert.go:26 load
          refine QL.v (fun w st => by exact r_load1 ty_one50 rfl (by first | assumption | exact st.c0 (by first | decide | omega) | exact st.c1 (by first | decide | omega) | exact st.c2 (by first | decide | omega) | exact st.c3 (by first | decide | omega) | exact st.c4 (by first | decide | omega) | exact st.c5 (by first | decide | omega) | exact st.c6 (by first | decide | omega) | exact st.c7 (by first | decide | omega) | exact st.c8 (by first | decide | omega))) rfl rfl rfl ?_
          -- R6.11 33 := convert.go:26 binOp
          refine QL.v (fun w st => by first | exact r_geq rfl rfl (decide_eq_true (by omega)) | exact r_geq rfl rfl (decide_eq_false (by omega)) | exact r_geq rfl rfl rfl) rfl rfl rfl ?_
          -- R6.12 34 := convert.go:26 pick
          refine QL.v (fun w st => by first | exact r_pickT (v := .bool _) rfl rfl | exact r_pickF (v := .bool _) rfl rfl) rfl rfl rfl ?_
          refine QL.wl hKq fun w st => ?_
          refine WL.fin hK142 (fun _ _ h => h) ?_
          refine WC.condT rfl rfl ?_
          refine WC.seq fun K143 hK143 => ?_
          -- region 7
          refine WC.region ?_
          -- R7.0 35 := convert.go:27 fieldAddr
          refine WL.v (by exact r_field ty_fld63_0 rfl) rfl rfl rfl ?_
          -- R7.1 36 := convert.go:27 load
          refine WL.v (by exact r_load1 ty_one50 rfl (by first | assumption | exact st.c0 (by first | decide | omega) | exact st.c1 (by first | decide | omega) | exact st.c2 (by first | decide | omega) | exact st.c3 (by first | decide | omega) | exact st.c4 (by first | decide | omega) | exact st.c5 (by first | decide | omega) | exact st.c6 (by first | decide | omega) | exact st.c7 (by first | decide | omega) | exact st.c8 (by first | decide | omega))) rfl rfl rfl ?_
          -- R7.2 37 := convert.go:27 convert
          refine WL.v (by first | exact r_conv ty_cv50_3 rfl (wi64 (by omega) (by omega)) | exact r_conv ty_cv50_3 rfl rfl) rfl rfl rfl ?_
          -- R7.3 38 := convert.go:27 call
          refine WL.call (r_call ty_call9 rfl) rfl rfl rfl (badInput_ok _ _ _ st) ?_
          rintro _ w ⟨eb, rfl, st⟩
          -- R7.4 4 := convert.go:27 assign
          refine WL.v (by first | exact r_assign (v := .slice _ _ _) rfl | exact r_assign rfl) rfl rfl rfl ?_
          -- R7.5 5 := convert.go:27 assign
          refine WL.v (by first | exact r_assign (v := .nilIface) rfl | exact r_assign (v := .iface _ _) rfl | exact r_assign rfl) rfl rfl rfl ?_
          refine WL.fin hK143 (fun _ _ h => h) ?_
          refine WC.ret2 Try.results5 (fun _ _ h => h) rfl ?_
          exact ⟨_, rfl, .inl ⟨fun h => by have := (h k hlt).2 hk0; omega, ⟨_, rfl⟩, st.drop.drop⟩⟩
        · skip
          refine WC.seq fun K144 hK144 => ?_
          -- region 2
          refine WC.region ?_
          -- R2.0 11 := convert.go:22 binOp
          refine WL.v (by first | exact r_lss rfl rfl (decide_eq_true (by omega)) | exact r_lss rfl rfl (decide_eq_false (by omega)) | exact r_lss rfl rfl rfl) rfl rfl rfl ?_
          refine WL.fin hK144 (fun _ _ h => h) ?_
          refine WC.seq fun K145 hK145 => ?_
          refine WC.condT rfl rfl ?_
          refine WC.skipF hK145 (fun _ _ h => h) ?_
          refine WC.seq fun K146 hK146 => ?_
          refine WC.block ?_
          refine WC.seq fun K147 hK147 => ?_
          -- region 3
          refine WC.region ?_
          -- R3.0 12 := convert.go:22 move
          refine WL.v (by first | exact r_move (v := .int _ _) rfl | exact r_move rfl) rfl rfl rfl ?_
          -- R3.1 13 := convert.go:22 indexAddr
          refine WL.v (by exact r_indexS ty_sl25 rfl rfl rfl (by omega)) rfl rfl rfl ?_
          -- R3.2 14 := convert.go:22 load
          refine WL.v (by exact r_loadL (vs := [_, _]) ty_agg63 rfl ⟨((hl _ st).1), ((hl _ st).2), trivial⟩) rfl rfl rfl ?_
          -- R3.3 7 := convert.go:22 alloc
          refine WL.alloc st ty_zero63 rfl rfl rfl ?_
          intro b7 w st
          -- R3.4 6 := convert.go:22 assign
          refine WL.v (by first | exact r_assign (v := .int _ _) rfl | exact r_assign rfl) rfl rfl rfl ?_
          -- R3.5 None := convert.go:22 store
          first | refine WL.storeW (vs := [_, _]) st ty_agg63 rfl rfl rfl rfl rfl rfl ?_ | refine WL.storeL (vs := [_, _]) st ty_agg63 rfl rfl rfl rfl (by first | decide | omega) rfl rfl ?_ | refine WL.storeW (vs := [_, _]) st.front1 ty_agg63 rfl rfl rfl rfl rfl rfl ?_ | refine WL.storeL (vs := [_, _]) st.front1 ty_agg63 rfl rfl rfl rfl (by first | decide | omega) rfl rfl ?_ | refine WL.storeW (vs := [_, _]) st.front2 ty_agg63 rfl rfl rfl rfl rfl rfl ?_ | refine WL.storeL (vs := [_, _]) st.front2 ty_agg63 rfl rfl rfl rfl (by first | decide | omega) rfl rfl ?_ | refine WL.storeW (vs := [_, _]) st.front3 ty_agg63 rfl rfl rfl rfl rfl rfl ?_ | refine WL.storeL (vs := [_, _]) st.front3 ty_agg63 rfl rfl rfl rfl (by first | decide | omega) rfl rfl ?_ | refine WL.storeW (vs := [_, _]) st.front4 ty_agg63 rfl rfl rfl rfl rfl rfl ?_ | refine WL.storeL (vs := [_, _]) st.front4 ty_agg63 rfl rfl rfl rfl (by first | decide | omega) rfl rfl ?_ | refine WL.storeW (vs := [_, _]) st.front5 ty_agg63 rfl rfl rfl rfl rfl rfl ?_ | refine WL.storeL (vs := [_, _]) st.front5 ty_agg63 rfl rfl rfl rfl (by first | decide | omega) rfl rfl ?_ | refine WL.storeW (vs := [_, _]) st.front6 ty_agg63 rfl rfl rfl rfl rfl rfl ?_ | refine WL.storeL (vs := [_, _]) st.front6 ty_agg63 rfl rfl rfl rfl (by first | decide | omega) rfl rfl ?_ | refine WL.storeW (vs := [_, _]) st.front7 ty_agg63 rfl rfl rfl rfl rfl rfl ?_ | refine WL.storeL (vs := [_, _]) st.front7 ty_agg63 rfl rfl rfl rfl (by first | decide | omega) rfl rfl ?_ | refine WL.storeW (vs := [_, _]) st.front8 ty_agg63 rfl rfl rfl rfl rfl rfl ?_ | refine WL.storeL (vs := [_, _]) st.front8 ty_agg63 rfl rfl rfl rfl (by first | decide | omega) rfl rfl ?_
          intro w st
          refine WL.fin hK147 (fun _ _ h => h) ?_
          refine WC.seq fun K148 hK148 => ?_
          refine WC.seq fun K149 hK149 => ?_
          -- region 4
          refine WC.region ?_
          -- R4.0 15 := convert.go:23 fieldAddr
          refine WL.v (by exact r_field ty_fld63_1 rfl) rfl rfl rfl ?_
          -- R4.1 16 := convert.go:23 load
          refine WL.v (by exact r_load1 ty_one5 rfl (by first | assumption | exact st.c0 (by first | decide | omega) | exact st.c1 (by first | decide | omega) | exact st.c2 (by first | decide | omega) | exact st.c3 (by first | decide | omega) | exact st.c4 (by first | decide | omega) | exact st.c5 (by first | decide | omega) | exact st.c6 (by first | decide | omega) | exact st.c7 (by first | decide | omega) | exact st.c8 (by first | decide | omega))) rfl rfl rfl ?_
          -- R4.2 17 := convert.go:23 binOp
          refine WL.v (by first | exact r_eql rfl rfl (decide_eq_true (by omega)) | exact r_eql rfl rfl (decide_eq_false (by omega)) | exact r_eql rfl rfl rfl) rfl rfl rfl ?_
          refine WL.fin hK149 (fun _ _ h => h) ?_
          refine WC.condF rfl rfl ?_
          refine WC.skipF hK148 (fun _ _ h => h) ?_
          refine WC.seq fun K150 hK150 => ?_
          -- region 6 (draws)
          refine WC.quietS st ty_mixed (by kernel_rfl) fun Kq hKq => ?_
          -- R6.0 22 := convert.go:26 move
          refine QL.v (fun w st => by first | exact r_move (v := .int _ _) rfl | exact r_move rfl) rfl rfl rfl ?_
          -- R6.1 23 := convert.go:26 binOp
          refine QL.v (fun w st => by first | exact r_gtr rfl rfl (decide_eq_true (by omega)) | exact r_gtr rfl rfl (decide_eq_false (by omega)) | exact r_gtr rfl rfl rfl) rfl rfl rfl ?_
          -- R6.2 24 := convert.go:26 move
          refine QL.v (fun w st => by first | exact r_move (v := .bool _) rfl | exact r_move rfl) rfl rfl rfl ?_
          -- R6.3 25 := convert.go:26 move
          refine QL.v (fun w st => by first | exact r_move (v := .slice _ _ _) rfl | exact r_move rfl) rfl rfl rfl ?_
          -- R6.4 26 := convert.go:26 move
          refine QL.v (fun w st => by first | exact r_move (v := .int _ _) rfl | exact r_move rfl) rfl rfl rfl ?_
          -- R6.5 27 := convert.go:26 binOp
          refine QL.v (fun w st => by first | exact r_sub rfl rfl (wi64 (by omega) (by omega)) | exact r_sub rfl rfl rfl) rfl rfl rfl ?_
          -- R6.6 28 := convert.go:26 indexAddr
          refine QL.v (fun w st => by exact r_indexS (j := k - 1) ty_sl25 rfl rfl (by omega) (by omega)) rfl rfl rfl ?_
          -- R6.7 29 := convert.go:26 fieldAddr
          refine QL.v (fun w st => by exact r_field ty_fld63_0 rfl) rfl rfl rfl ?_
          -- R6.8 30 := convert.go:26 load
          refine QL.v (fun w st => by exact r_load1 ty_one50 rfl ((hrd1 [_, _] _ st (k - 1) (by omega)).1)) rfl rfl rfl ?_
          -- R6.9 31 := convert.go:26 fieldAddr
          refine QL.v (fun w st => by exact r_field ty_fld63_0 rfl) rfl rfl rfl ?_
          -- R6.10 32 := convert.go:26 load
          refine QL.v (fun w st => by exact r_load1 ty_one50 rfl (by first | assumption | exact st.c0 (by first | decide | omega) | exact st.c1 (by first | decide | omega) | exact st.c2 (by first | decide | omega) | exact st.c3 (by first | decide | omega) | exact st.c4 (by first | decide | omega) | exact st.c5 (by first | decide | omega) | exact st.c6 (by first | decide | omega) | exact st.c7 (by first | decide | omega) | exact st.c8 (by first | decide | omega))) rfl rfl rfl ?_
          -- R6.11 33 := convert.go:26 binOp
          refine QL.v (fun w st => by first | exact r_geq rfl rfl (decide_eq_true (by omega)) | exact r_geq rfl rfl (decide_eq_false (by omega)) | exact r_geq rfl rfl rfl) rfl rfl rfl ?_
          -- R6.12 34 := convert.go:26 pick
          refine QL.v (fun w st => by first | exact r_pickT (v := .bool _) rfl rfl | exact r_pickF (v := .bool _) rfl rfl) rfl rfl rfl ?_
          refine QL.wl hKq fun w st => ?_
          refine WL.fin hK150 (fun _ _ h => h) ?_
          refine WC.condF rfl rfl ?_
          refine WC.skipF hK146 (fun _ _ h => h) ?_
          -- region 8
          refine WC.region ?_
          -- R8.0 39 := convert.go:22 binOp
          refine WL.v (by first | exact r_add rfl rfl (wi64 (by omega) (by omega)) | exact r_add rfl rfl rfl) rfl rfl rfl ?_
          -- R8.1 10 := convert.go:22 move
          refine WL.v (by first | exact r_move (v := .int _ _) rfl | exact r_move rfl) rfl rfl rfl ?_
          refine WL.next hK1 (fun _ _ h => h) (k + 1) ⟨st.drop, by omega, fun j hj => ?_⟩ (by show n - (k + 1) < n - k; omega) (by repeat (first | exact sub_nil _ | refine sub_cons rfl rfl ?_))
          by_cases hjk : j = k
          · subst hjk; exact ⟨hz, fun _ => by omega⟩
          · exact hok j (by omega)
      · skip
        refine WC.seq fun K151 hK151 => ?_
        -- region 2
        refine WC.region ?_
        -- R2.0 11 := convert.go:22 binOp
        refine WL.v (by first | exact r_lss rfl rfl (decide_eq_true (by omega)) | exact r_lss rfl rfl (decide_eq_false (by omega)) | exact r_lss rfl rfl rfl) rfl rfl rfl ?_
        refine WL.fin hK151 (fun _ _ h => h) ?_
        refine WC.seq fun K152 hK152 => ?_
        refine WC.condT rfl rfl ?_
        refine WC.skipF hK152 (fun _ _ h => h) ?_
        refine WC.seq fun K153 hK153 => ?_
        refine WC.block ?_
        refine WC.seq fun K154 hK154 => ?_
        -- region 3
        refine WC.region ?_
        -- R3.0 12 := convert.go:22 move
        refine WL.v (by first | exact r_move (v := .int _ _) rfl | exact r_move rfl) rfl rfl rfl ?_
        -- R3.1 13 := convert.go:22 indexAddr
        refine WL.v (by exact r_indexS ty_sl25 rfl rfl rfl (by omega)) rfl rfl rfl ?_
        -- R3.2 14 := convert.go:22 load
        refine WL.v (by exact r_loadL (vs := [_, _]) ty_agg63 rfl ⟨((hl _ st).1), ((hl _ st).2), trivial⟩) rfl rfl rfl ?_
        -- R3.3 7 := convert.go:22 alloc
        refine WL.alloc st ty_zero63 rfl rfl rfl ?_
        intro b7 w st
        -- R3.4 6 := convert.go:22 assign
        refine WL.v (by first | exact r_assign (v := .int _ _) rfl | exact r_assign rfl) rfl rfl rfl ?_
        -- R3.5 None := convert.go:22 store
        first | refine WL.storeW (vs := [_, _]) st ty_agg63 rfl rfl rfl rfl rfl rfl ?_ | refine WL.storeL (vs := [_, _]) st ty_agg63 rfl rfl rfl rfl (by first | decide | omega) rfl rfl ?_ | refine WL.storeW (vs := [_, _]) st.front1 ty_agg63 rfl rfl rfl rfl rfl rfl ?_ | refine WL.storeL (vs := [_, _]) st.front1 ty_agg63 rfl rfl rfl rfl (by first | decide | omega) rfl rfl ?_ | refine WL.storeW (vs := [_, _]) st.front2 ty_agg63 rfl rfl rfl rfl rfl rfl ?_ | refine WL.storeL (vs := [_, _]) st.front2 ty_agg63 rfl rfl rfl rfl (by first | decide | omega) rfl rfl ?_ | refine WL.storeW (vs := [_, _]) st.front3 ty_agg63 rfl rfl rfl rfl rfl rfl ?_ | refine WL.storeL (vs := [_, _]) st.front3 ty_agg63 rfl rfl rfl rfl (by first | decide | omega) rfl rfl ?_ | refine WL.storeW (vs := [_, _]) st.front4 ty_agg63 rfl rfl rfl rfl rfl rfl ?_ | refine WL.storeL (vs := [_, _]) st.front4 ty_agg63 rfl rfl rfl rfl (by first | decide | omega) rfl rfl ?_ | refine WL.storeW (vs := [_, _]) st.front5 ty_agg63 rfl rfl rfl rfl rfl rfl ?_ | refine WL.storeL (vs := [_, _]) st.front5 ty_agg63 rfl rfl rfl rfl (by first | decide | omega) rfl rfl ?_ | refine WL.storeW (vs := [_, _]) st.front6 ty_agg63 rfl rfl rfl rfl rfl rfl ?_ | refine WL.storeL (vs := [_, _]) st.front6 ty_agg63 rfl rfl rfl rfl (by first | decide | omega) rfl rfl ?_ | refine WL.storeW (vs := [_, _]) st.front7 ty_agg63 rfl rfl rfl rfl rfl rfl ?_ | refine WL.storeL (vs := [_, _]) st.front7 ty_agg63 rfl rfl rfl rfl (by first | decide | omega) rfl rfl ?_ | refine WL.storeW (vs := [_, _]) st.front8 ty_agg63 rfl rfl rfl rfl rfl rfl ?_ | refine WL.storeL (vs := [_, _]) st.front8 ty_agg63 rfl rfl rfl rfl (by first | decide | omega) rfl rfl ?_
        intro w st
        refine WL.fin hK154 (fun _ _ h => h) ?_
        refine WC.seq fun K155 hK155 => ?_
        refine WC.seq fun K156 hK156 => ?_
        -- region 4
        refine WC.region ?_
        -- R4.0 15 := convert.go:23 fieldAddr
        refine WL.v (by exact r_field ty_fld63_1 rfl) rfl rfl rfl ?_
        -- R4.1 16 := convert.go:23 load
        refine WL.v (by exact r_load1 ty_one5 rfl (by first | assumption | exact st.c0 (by first | decide | omega) | exact st.c1 (by first | decide | omega) | exact st.c2 (by first | decide | omega) | exact st.c3 (by first | decide | omega) | exact st.c4 (by first | decide | omega) | exact st.c5 (by first | decide | omega) | exact st.c6 (by first | decide | omega) | exact st.c7 (by first | decide | omega) | exact st.c8 (by first | decide | omega))) rfl rfl rfl ?_
        -- R4.2 17 := convert.go:23 binOp
        refine WL.v (by first | exact r_eql rfl rfl (decide_eq_true (by omega)) | exact r_eql rfl rfl (decide_eq_false (by omega)) | exact r_eql rfl rfl rfl) rfl rfl rfl ?_
        refine WL.fin hK156 (fun _ _ h => h) ?_
        refine WC.condF rfl rfl ?_
        refine WC.skipF hK155 (fun _ _ h => h) ?_
        refine WC.seq fun K157 hK157 => ?_
        -- region 6 (draws)
        refine WC.quietS st ty_mixed (by kernel_rfl) fun Kq hKq => ?_
        -- R6.0 22 := convert.go:26 move
        refine QL.v (fun w st => by first | exact r_move (v := .int _ _) rfl | exact r_move rfl) rfl rfl rfl ?_
        -- R6.1 23 := convert.go:26 binOp
        refine QL.v (fun w st => by first | exact r_gtr rfl rfl (decide_eq_true (by omega)) | exact r_gtr rfl rfl (decide_eq_false (by omega)) | exact r_gtr rfl rfl rfl) rfl rfl rfl ?_
        -- R6.2 24 := convert.go:26 move
        refine QL.v (fun w st => by first | exact r_move (v := .bool _) rfl | exact r_move rfl) rfl rfl rfl ?_
        -- R6.3 25 := convert.go:26 move
        refine QL.no rfl rfl ?_
        -- R6.4 26 := convert.go:26 move
        refine QL.no rfl rfl ?_
        -- R6.5 27 := convert.go:26 binOp
        refine QL.no rfl rfl ?_
        -- R6.6 28 := convert.go:26 indexAddr
        refine QL.no rfl rfl ?_
        -- R6.7 29 := convert.go:26 fieldAddr
        refine QL.no rfl rfl ?_
        -- R6.8 30 := convert.go:26 load
        refine QL.no rfl rfl ?_
        -- R6.9 31 := convert.go:26 fieldAddr
        refine QL.no rfl rfl ?_
        -- R6.10 32 := convert.go:26 load
        refine QL.no rfl rfl ?_
        -- R6.11 33 := convert.go:26 binOp
        refine QL.no rfl rfl ?_
        -- R6.12 34 := convert.go:26 pick
        refine QL.v (fun w st => by first | exact r_pickT (v := .bool _) rfl rfl | exact r_pickF (v := .bool _) rfl rfl) rfl rfl rfl ?_
        refine QL.wl hKq fun w st => ?_
        refine WL.fin hK157 (fun _ _ h => h) ?_
        refine WC.condF rfl rfl ?_
        refine WC.skipF hK153 (fun _ _ h => h) ?_
        -- region 8
        refine WC.region ?_
        -- R8.0 39 := convert.go:22 binOp
        refine WL.v (by first | exact r_add rfl rfl (wi64 (by omega) (by omega)) | exact r_add rfl rfl rfl) rfl rfl rfl ?_
        -- R8.1 10 := convert.go:22 move
        refine WL.v (by first | exact r_move (v := .int _ _) rfl | exact r_move rfl) rfl rfl rfl ?_
        refine WL.next hK1 (fun _ _ h => h) (k + 1) ⟨st.drop, by omega, fun j hj => ?_⟩ (by show n - (k + 1) < n - k; omega) (by repeat (first | exact sub_nil _ | refine sub_cons rfl rfl ?_))
        by_cases hjk : j = k
        · subst hjk; exact ⟨hz, fun h => by omega⟩
        · exact hok j (by omega)
  · obtain rfl : k = n := by omega
    refine WC.seq fun K158 hK158 => ?_
    -- region 2
    refine WC.region ?_
    -- R2.0 11 := convert.go:22 binOp
    refine WL.v (by first | exact r_lss rfl rfl (decide_eq_true (by omega)) | exact r_lss rfl rfl (decide_eq_false (by omega)) | exact r_lss rfl rfl rfl) rfl rfl rfl ?_
    refine WL.fin hK158 (fun _ _ h => h) ?_
    refine WC.seq fun K159 hK159 => ?_
    refine WC.condF rfl rfl ?_
    refine WC.exitF hK127 (fun _ _ h => h) ?_
    refine WC.seq fun K160 hK160 => ?_
    -- region 9
    refine WC.region ?_
    -- R9.0 40 := convert.go:30 move
    refine WL.v (by first | exact r_move (v := .pointer _) rfl | exact r_move rfl) rfl rfl rfl ?_
    -- R9.1 41 := convert.go:30 move
    refine WL.v (by first | exact r_move (v := .slice _ _ _) rfl | exact r_move rfl) rfl rfl rfl ?_
    -- R9.2 42 := convert.go:30 call
    refine WL.call (r_call ty_call10 rfl) rfl rfl rfl (groups_ok cb lb lo k lcap a X V F fv FI hn2 ha hok.rise hV hrd hF hfew st) ?_
    intro v w hv
    -- R9.3 4 := convert.go:30 assign
    refine WL.v (by first | exact r_assign (v := .slice _ _ _) rfl | exact r_assign rfl) rfl rfl rfl ?_
    -- R9.4 5 := convert.go:30 assign
    refine WL.v (by first | exact r_assign (v := .nilIface) rfl | exact r_assign (v := .iface _ _) rfl | exact r_assign rfl) rfl rfl rfl ?_
    refine WL.fin hK160 (fun _ _ h => h) ?_
    refine WC.ret2 Try.results5 (fun _ _ h => h) rfl ?_
    rcases hv with ⟨h0, rfl, st⟩ | ⟨h1, hm⟩
    · exact ⟨_, rfl, .inr (.inl ⟨hok, h0, rfl, st⟩)⟩
    · exact ⟨_, rfl, .inr (.inr ⟨hok, h1, _, rfl, hm⟩)⟩

end Go.Proofs.Qxb6500835a

