import Derived.Test.Qxb6500841aDoorX3
set_option linter.unusedVariables false
set_option linter.unusedSimpArgs false
namespace Go.Proofs.Qxb6500841aDoor
open Go.RowKit Go.E1 Go.Wire
variable {w0 : World} {L : List HI} {w : World} {ET : Nat → TypeId} {EU : Nat → Value}

theorem ba2 {w : World} {b o k : Nat} {bs : List Int} (h : BA w b o bs) (hk : k + 2 ≤ bs.length) : BA w b (o + k * 1) [bs.getD k 0, bs.getD (k + 1) 0] := fun i hi => by
  have := h (k + i) (by simp at hi; omega)
  rw [show o + k * 1 + i = o + (k + i) by omega, this]
  match i, hi with
  | 0, _ => rfl
  | 1, _ => rfl
theorem ba4 {w : World} {b o k : Nat} {bs : List Int} (h : BA w b o bs) (hk : k + 4 ≤ bs.length) : BA w b (o + k * 1) [bs.getD k 0, bs.getD (k + 1) 0, bs.getD (k + 2) 0, bs.getD (k + 3) 0] := fun i hi => by
  have := h (k + i) (by simp at hi; omega)
  rw [show o + k * 1 + i = o + (k + i) by omega, this]
  match i, hi with
  | 0, _ => rfl
  | 1, _ => rfl
  | 2, _ => rfl
  | 3, _ => rfl

theorem u16_at (b o k n c : Nat) (bs : List Int) (y : Int) (hy : bs.getD k 0 * 256 + bs.getD (k + 1) 0 = y) (hk : k + 2 ≤ bs.length) (hn : n = 2) (hb : ∀ x, x ∈ bs → 0 ≤ x ∧ x < 256) (hrd : ∀ its w', S0 w0 (its ++ L) w' → BA w' b o bs) (st : S0 w0 L w) :
    Calls Tryd.prog 38 #[.agg #[], .slice (some ⟨b, o + k * 1, none⟩) n c] w (Ret fun v w' => v = .int .u16 y ∧ S0 w0 L w') := by
  subst hn hy
  exact u16_ok b (o + k * 1) 2 c [bs.getD k 0, bs.getD (k + 1) 0] (Nat.le_refl _) (hb _ (getD_mem (by omega))) (hb _ (getD_mem (by omega))) rfl (fun its w' s => ba2 (hrd its w' s) hk) st
theorem u32_at (b o k n c : Nat) (bs : List Int) (y : Int) (hy : bs.getD k 0 * 16777216 + bs.getD (k + 1) 0 * 65536 + bs.getD (k + 2) 0 * 256 + bs.getD (k + 3) 0 = y) (hk : k + 4 ≤ bs.length) (hn : n = 4) (hb : ∀ x, x ∈ bs → 0 ≤ x ∧ x < 256) (hrd : ∀ its w', S0 w0 (its ++ L) w' → BA w' b o bs) (st : S0 w0 L w) :
    Calls Tryd.prog 37 #[.agg #[], .slice (some ⟨b, o + k * 1, none⟩) n c] w (Ret fun v w' => v = .int .u32 y ∧ S0 w0 L w') := by
  subst hn hy
  exact u32_ok b (o + k * 1) 4 c [bs.getD k 0, bs.getD (k + 1) 0, bs.getD (k + 2) 0, bs.getD (k + 3) 0] (Nat.le_refl _) (hb _ (getD_mem (by omega))) (hb _ (getD_mem (by omega))) (hb _ (getD_mem (by omega))) (hb _ (getD_mem (by omega))) rfl (fun its w' s => ba4 (hrd its w' s) hk) st

theorem moreL {w0 : World} {L : List HI} {φ : World → Prop} (h : ∀ its w', S0 w0 (its ++ L) w' → φ w') (P : List HI) : ∀ its w', S0 w0 (its ++ (P ++ L)) w' → φ w' := fun its w' s => h (its ++ P) w' (by rw [List.append_assoc]; exact s)

/-- An IPv4 header's numbers, off its bytes. -/
def ipX (B : List Int) : Nat → Int
  | 0 => B.getD 1 0
  | 1 => B.getD 2 0 * 256 + B.getD 3 0
  | 2 => B.getD 4 0 * 256 + B.getD 5 0
  | 3 => (B.getD 6 0 * 256 + B.getD 7 0) / 8192
  | 4 => (B.getD 6 0 * 256 + B.getD 7 0) % 8192
  | 5 => B.getD 8 0
  | 6 => B.getD 9 0
  | 7 => B.getD 10 0 * 256 + B.getD 11 0
  | k + 8 => B.getD (k + 12) 0

def ipHl (B : List Int) : Nat := (B.getD 0 0 % 16).toNat * 4
/-- The bytes begin with an IPv4 header. -/
structure IpIn (B : List Int) : Prop where
  len : 20 ≤ B.length
  ver : B.getD 0 0 / 16 = 4
  hl : 20 ≤ ipHl B
  in_ : ipHl B ≤ B.length
  tot : (ipHl B : Int) ≤ B.getD 2 0 * 256 + B.getD 3 0

abbrev ipZ : List Value := ipL (fun _ => 0) (.slice none 0 0)

/-- What ParseIPv4 hands back. -/
def IpOut (s : SV) (v : Value) : Prop :=
  (∃ T u, v = .tuple #[.agg ipZ.toArray, .slice none 0 0, .iface T u]) ∨
  (IpIn s.bs ∧ ∃ t : SV, t.ok ∧ t.bs = (s.bs.take (ipHl s.bs)).drop 20 ∧ (∀ w', s.rd w' → t.rd w') ∧
    v = .tuple #[.agg (ipL (ipX s.bs) t.v).toArray, (s.sub (ipHl s.bs) s.bs.length s.c).v, .nilIface])

set_option maxHeartbeats 4000000 in
set_option maxRecDepth 20000 in
theorem parseIp_ok (hE : ErrOk w0 ET EU) (s : SV) (hs : s.ok) (hl : s.bs.length ≤ 10000000000) (hrd : ∀ its w', S0 w0 (its ++ L) w' → s.rd w') (st : S0 w0 L w) :
    Calls Tryd.prog 28 #[.slice s.a s.bs.length s.c] w (Ret fun v w' => IpOut s v ∧ S0 w0 L w') := by
  obtain ⟨a, c, b, o, bs⟩ := s
  obtain ⟨hle, hcap, hadr, hbyt⟩ := hs
  simp only [SV.rd] at hle hcap hadr hbyt hl hrd ⊢
  have hsok : SV.ok ⟨a, c, b, o, bs⟩ := ⟨hle, hcap, hadr, hbyt⟩
  by_cases h20 : bs.length < 20
  · skip
    refine enter [.slice a bs.length c] Tryd.func28 rfl Tryd.ntmps28 rfl ?_
    show WC _ _ _ 95 [] [(0, .slice a bs.length c)] _
    refine WC.seq fun K223 hK223 => ?_
    -- region 0
    refine WC.region ?_
    -- R0.0 2 := ipv4.go:25 alloc
    refine WL.alloc (m := 17) st ty_zero36 rfl rfl rfl ?_
    intro b2 w st
    -- R0.1 3 := ipv4.go:25 assign
    refine WL.v (by first | exact r_assign (v := .slice _ _ _) rfl | exact r_assign rfl) rfl rfl rfl ?_
    -- R0.2 4 := ipv4.go:25 assign
    refine WL.v (by first | exact r_assign (v := .nilIface) rfl | exact r_assign (v := .iface _ _) rfl | exact r_assign rfl) rfl rfl rfl ?_
    refine WL.fin hK223 (fun _ _ h => h) ?_
    refine WC.seq fun K224 hK224 => ?_
    refine WC.seq fun K225 hK225 => ?_
    -- region 1
    refine WC.region ?_
    -- R1.0 8 := ipv4.go:26 move
    refine WL.v (by first | exact r_move (v := .slice _ _ _) rfl | exact r_move rfl) rfl rfl rfl ?_
    -- R1.1 9 := ipv4.go:26 call
    refine WL.v (by exact r_len ty_usl25 rfl) rfl rfl rfl ?_
    -- R1.2 10 := ipv4.go:26 binOp
    refine WL.v (by first | exact r_lss rfl rfl (decide_eq_true (by omega)) | exact r_lss rfl rfl (decide_eq_false (by omega)) | exact r_lss rfl rfl rfl) rfl rfl rfl ?_
    refine WL.fin hK225 (fun _ _ h => h) ?_
    refine WC.condT rfl rfl ?_
    refine WC.seq fun K226 hK226 => ?_
    -- region 2
    refine WC.region ?_
    -- R2.0 11 := ipv4.go:27 build
    refine WL.v (by exact r_build (ps := []) (vs := [_, _, _, _, _, _, _, _, _, _, _, _, _, _, _, _, _]) ty_pl36 ty_zero36 rfl (fill_nil)) rfl rfl rfl ?_
    -- R2.1 12 := ipv4.go:27 load
    refine WL.v (by exact r_load1 ty_one47 rfl (st.old (fun h => h) (hE 3 (by decide)))) rfl rfl rfl ?_
    -- R2.2 None := ipv4.go:27 store
    first | refine WL.storeW (vs := [_, _, _, _, _, _, _, _, _, _, _, _, _, _, _, _, _]) st ty_agg36 rfl rfl rfl rfl rfl rfl ?_ | refine WL.storeL (vs := [_, _, _, _, _, _, _, _, _, _, _, _, _, _, _, _, _]) st ty_agg36 rfl rfl rfl rfl (by first | decide | omega) rfl rfl ?_ | refine WL.storeW (vs := [_, _, _, _, _, _, _, _, _, _, _, _, _, _, _, _, _]) st.front1 ty_agg36 rfl rfl rfl rfl rfl rfl ?_ | refine WL.storeL (vs := [_, _, _, _, _, _, _, _, _, _, _, _, _, _, _, _, _]) st.front1 ty_agg36 rfl rfl rfl rfl (by first | decide | omega) rfl rfl ?_ | refine WL.storeW (vs := [_, _, _, _, _, _, _, _, _, _, _, _, _, _, _, _, _]) st.front2 ty_agg36 rfl rfl rfl rfl rfl rfl ?_ | refine WL.storeL (vs := [_, _, _, _, _, _, _, _, _, _, _, _, _, _, _, _, _]) st.front2 ty_agg36 rfl rfl rfl rfl (by first | decide | omega) rfl rfl ?_ | refine WL.storeW (vs := [_, _, _, _, _, _, _, _, _, _, _, _, _, _, _, _, _]) st.front3 ty_agg36 rfl rfl rfl rfl rfl rfl ?_ | refine WL.storeL (vs := [_, _, _, _, _, _, _, _, _, _, _, _, _, _, _, _, _]) st.front3 ty_agg36 rfl rfl rfl rfl (by first | decide | omega) rfl rfl ?_ | refine WL.storeW (vs := [_, _, _, _, _, _, _, _, _, _, _, _, _, _, _, _, _]) st.front4 ty_agg36 rfl rfl rfl rfl rfl rfl ?_ | refine WL.storeL (vs := [_, _, _, _, _, _, _, _, _, _, _, _, _, _, _, _, _]) st.front4 ty_agg36 rfl rfl rfl rfl (by first | decide | omega) rfl rfl ?_ | refine WL.storeW (vs := [_, _, _, _, _, _, _, _, _, _, _, _, _, _, _, _, _]) st.front5 ty_agg36 rfl rfl rfl rfl rfl rfl ?_ | refine WL.storeL (vs := [_, _, _, _, _, _, _, _, _, _, _, _, _, _, _, _, _]) st.front5 ty_agg36 rfl rfl rfl rfl (by first | decide | omega) rfl rfl ?_ | refine WL.storeW (vs := [_, _, _, _, _, _, _, _, _, _, _, _, _, _, _, _, _]) st.front6 ty_agg36 rfl rfl rfl rfl rfl rfl ?_ | refine WL.storeL (vs := [_, _, _, _, _, _, _, _, _, _, _, _, _, _, _, _, _]) st.front6 ty_agg36 rfl rfl rfl rfl (by first | decide | omega) rfl rfl ?_ | refine WL.storeW (vs := [_, _, _, _, _, _, _, _, _, _, _, _, _, _, _, _, _]) st.front7 ty_agg36 rfl rfl rfl rfl rfl rfl ?_ | refine WL.storeL (vs := [_, _, _, _, _, _, _, _, _, _, _, _, _, _, _, _, _]) st.front7 ty_agg36 rfl rfl rfl rfl (by first | decide | omega) rfl rfl ?_ | refine WL.storeW (vs := [_, _, _, _, _, _, _, _, _, _, _, _, _, _, _, _, _]) st.front8 ty_agg36 rfl rfl rfl rfl rfl rfl ?_ | refine WL.storeL (vs := [_, _, _, _, _, _, _, _, _, _, _, _, _, _, _, _, _]) st.front8 ty_agg36 rfl rfl rfl rfl (by first | decide | omega) rfl rfl ?_
    intro w st
    -- R2.3 3 := ipv4.go:27 assign
    refine WL.v (by first | exact r_assign (v := .slice _ _ _) rfl | exact r_assign rfl) rfl rfl rfl ?_
    -- R2.4 4 := ipv4.go:27 assign
    refine WL.v (by first | exact r_assign (v := .nilIface) rfl | exact r_assign (v := .iface _ _) rfl | exact r_assign rfl) rfl rfl rfl ?_
    refine WL.fin hK226 (fun _ _ h => h) ?_
    refine WC.retCTT (vs := [_, _, _, _, _, _, _, _, _, _, _, _, _, _, _, _, _]) Tryd.results28 (fun _ _ h => h) rfl ty_agg36 rfl ⟨(by first | assumption | exact st.c0 (by first | decide | omega) | exact st.c1 (by first | decide | omega) | exact st.c2 (by first | decide | omega) | exact st.c3 (by first | decide | omega) | exact st.c4 (by first | decide | omega) | exact st.c5 (by first | decide | omega) | exact st.c6 (by first | decide | omega) | exact st.c7 (by first | decide | omega) | exact st.c8 (by first | decide | omega)), (by first | assumption | exact st.c0 (by first | decide | omega) | exact st.c1 (by first | decide | omega) | exact st.c2 (by first | decide | omega) | exact st.c3 (by first | decide | omega) | exact st.c4 (by first | decide | omega) | exact st.c5 (by first | decide | omega) | exact st.c6 (by first | decide | omega) | exact st.c7 (by first | decide | omega) | exact st.c8 (by first | decide | omega)), (by first | assumption | exact st.c0 (by first | decide | omega) | exact st.c1 (by first | decide | omega) | exact st.c2 (by first | decide | omega) | exact st.c3 (by first | decide | omega) | exact st.c4 (by first | decide | omega) | exact st.c5 (by first | decide | omega) | exact st.c6 (by first | decide | omega) | exact st.c7 (by first | decide | omega) | exact st.c8 (by first | decide | omega)), (by first | assumption | exact st.c0 (by first | decide | omega) | exact st.c1 (by first | decide | omega) | exact st.c2 (by first | decide | omega) | exact st.c3 (by first | decide | omega) | exact st.c4 (by first | decide | omega) | exact st.c5 (by first | decide | omega) | exact st.c6 (by first | decide | omega) | exact st.c7 (by first | decide | omega) | exact st.c8 (by first | decide | omega)), (by first | assumption | exact st.c0 (by first | decide | omega) | exact st.c1 (by first | decide | omega) | exact st.c2 (by first | decide | omega) | exact st.c3 (by first | decide | omega) | exact st.c4 (by first | decide | omega) | exact st.c5 (by first | decide | omega) | exact st.c6 (by first | decide | omega) | exact st.c7 (by first | decide | omega) | exact st.c8 (by first | decide | omega)), (by first | assumption | exact st.c0 (by first | decide | omega) | exact st.c1 (by first | decide | omega) | exact st.c2 (by first | decide | omega) | exact st.c3 (by first | decide | omega) | exact st.c4 (by first | decide | omega) | exact st.c5 (by first | decide | omega) | exact st.c6 (by first | decide | omega) | exact st.c7 (by first | decide | omega) | exact st.c8 (by first | decide | omega)), (by first | assumption | exact st.c0 (by first | decide | omega) | exact st.c1 (by first | decide | omega) | exact st.c2 (by first | decide | omega) | exact st.c3 (by first | decide | omega) | exact st.c4 (by first | decide | omega) | exact st.c5 (by first | decide | omega) | exact st.c6 (by first | decide | omega) | exact st.c7 (by first | decide | omega) | exact st.c8 (by first | decide | omega)), (by first | assumption | exact st.c0 (by first | decide | omega) | exact st.c1 (by first | decide | omega) | exact st.c2 (by first | decide | omega) | exact st.c3 (by first | decide | omega) | exact st.c4 (by first | decide | omega) | exact st.c5 (by first | decide | omega) | exact st.c6 (by first | decide | omega) | exact st.c7 (by first | decide | omega) | exact st.c8 (by first | decide | omega)), (by first | assumption | exact st.c0 (by first | decide | omega) | exact st.c1 (by first | decide | omega) | exact st.c2 (by first | decide | omega) | exact st.c3 (by first | decide | omega) | exact st.c4 (by first | decide | omega) | exact st.c5 (by first | decide | omega) | exact st.c6 (by first | decide | omega) | exact st.c7 (by first | decide | omega) | exact st.c8 (by first | decide | omega)), (by first | assumption | exact st.c0 (by first | decide | omega) | exact st.c1 (by first | decide | omega) | exact st.c2 (by first | decide | omega) | exact st.c3 (by first | decide | omega) | exact st.c4 (by first | decide | omega) | exact st.c5 (by first | decide | omega) | exact st.c6 (by first | decide | omega) | exact st.c7 (by first | decide | omega) | exact st.c8 (by first | decide | omega)), (by first | assumption | exact st.c0 (by first | decide | omega) | exact st.c1 (by first | decide | omega) | exact st.c2 (by first | decide | omega) | exact st.c3 (by first | decide | omega) | exact st.c4 (by first | decide | omega) | exact st.c5 (by first | decide | omega) | exact st.c6 (by first | decide | omega) | exact st.c7 (by first | decide | omega) | exact st.c8 (by first | decide | omega)), (by first | assumption | exact st.c0 (by first | decide | omega) | exact st.c1 (by first | decide | omega) | exact st.c2 (by first | decide | omega) | exact st.c3 (by first | decide | omega) | exact st.c4 (by first | decide | omega) | exact st.c5 (by first | decide | omega) | exact st.c6 (by first | decide | omega) | exact st.c7 (by first | decide | omega) | exact st.c8 (by first | decide | omega)), (by first | assumption | exact st.c0 (by first | decide | omega) | exact st.c1 (by first | decide | omega) | exact st.c2 (by first | decide | omega) | exact st.c3 (by first | decide | omega) | exact st.c4 (by first | decide | omega) | exact st.c5 (by first | decide | omega) | exact st.c6 (by first | decide | omega) | exact st.c7 (by first | decide | omega) | exact st.c8 (by first | decide | omega)), (by first | assumption | exact st.c0 (by first | decide | omega) | exact st.c1 (by first | decide | omega) | exact st.c2 (by first | decide | omega) | exact st.c3 (by first | decide | omega) | exact st.c4 (by first | decide | omega) | exact st.c5 (by first | decide | omega) | exact st.c6 (by first | decide | omega) | exact st.c7 (by first | decide | omega) | exact st.c8 (by first | decide | omega)), (by first | assumption | exact st.c0 (by first | decide | omega) | exact st.c1 (by first | decide | omega) | exact st.c2 (by first | decide | omega) | exact st.c3 (by first | decide | omega) | exact st.c4 (by first | decide | omega) | exact st.c5 (by first | decide | omega) | exact st.c6 (by first | decide | omega) | exact st.c7 (by first | decide | omega) | exact st.c8 (by first | decide | omega)), (by first | assumption | exact st.c0 (by first | decide | omega) | exact st.c1 (by first | decide | omega) | exact st.c2 (by first | decide | omega) | exact st.c3 (by first | decide | omega) | exact st.c4 (by first | decide | omega) | exact st.c5 (by first | decide | omega) | exact st.c6 (by first | decide | omega) | exact st.c7 (by first | decide | omega) | exact st.c8 (by first | decide | omega)), (by first | assumption | exact st.c0 (by first | decide | omega) | exact st.c1 (by first | decide | omega) | exact st.c2 (by first | decide | omega) | exact st.c3 (by first | decide | omega) | exact st.c4 (by first | decide | omega) | exact st.c5 (by first | decide | omega) | exact st.c6 (by first | decide | omega) | exact st.c7 (by first | decide | omega) | exact st.c8 (by first | decide | omega)), trivial⟩ ?_
    exact ⟨_, rfl, .inl ⟨_, _, rfl⟩, st.drop⟩
  obtain rfl := hadr (by omega)
  have hat : ∀ i, i < bs.length → 0 ≤ bs.getD i 0 ∧ bs.getD i 0 < 256 := fun i hi => hbyt _ (getD_mem hi)
  have g0 := hat 0 (by omega)
  have g2 := hat 2 (by omega)
  have g3 := hat 3 (by omega)
  have g6 := hat 6 (by omega)
  have g7 := hat 7 (by omega)
  obtain ⟨q, hq⟩ : ∃ q : Nat, bs.getD 0 0 % 16 = (q : Int) := ⟨(bs.getD 0 0 % 16).toNat, by omega⟩
  have hqh : ipHl bs = q * 4 := by unfold ipHl; rw [hq]; rfl
  by_cases hv : bs.getD 0 0 / 16 = 4
  case neg =>
    refine enter [.slice (some ⟨b, o, none⟩) bs.length c] Tryd.func28 rfl Tryd.ntmps28 rfl ?_
    show WC _ _ _ 95 [] [(0, .slice (some ⟨b, o, none⟩) bs.length c)] _
    refine WC.seq fun K227 hK227 => ?_
    -- region 0
    refine WC.region ?_
    -- R0.0 2 := ipv4.go:25 alloc
    refine WL.alloc (m := 17) st ty_zero36 rfl rfl rfl ?_
    intro b2 w st
    -- R0.1 3 := ipv4.go:25 assign
    refine WL.v (by first | exact r_assign (v := .slice _ _ _) rfl | exact r_assign rfl) rfl rfl rfl ?_
    -- R0.2 4 := ipv4.go:25 assign
    refine WL.v (by first | exact r_assign (v := .nilIface) rfl | exact r_assign (v := .iface _ _) rfl | exact r_assign rfl) rfl rfl rfl ?_
    refine WL.fin hK227 (fun _ _ h => h) ?_
    refine WC.seq fun K228 hK228 => ?_
    refine WC.seq fun K229 hK229 => ?_
    -- region 1
    refine WC.region ?_
    -- R1.0 8 := ipv4.go:26 move
    refine WL.v (by first | exact r_move (v := .slice _ _ _) rfl | exact r_move rfl) rfl rfl rfl ?_
    -- R1.1 9 := ipv4.go:26 call
    refine WL.v (by exact r_len ty_usl25 rfl) rfl rfl rfl ?_
    -- R1.2 10 := ipv4.go:26 binOp
    refine WL.v (by first | exact r_lss rfl rfl (decide_eq_true (by omega)) | exact r_lss rfl rfl (decide_eq_false (by omega)) | exact r_lss rfl rfl rfl) rfl rfl rfl ?_
    refine WL.fin hK229 (fun _ _ h => h) ?_
    refine WC.condF rfl rfl ?_
    refine WC.skipF hK228 (fun _ _ h => h) ?_
    refine WC.seq fun K230 hK230 => ?_
    refine WC.seq fun K231 hK231 => ?_
    -- region 3
    refine WC.region ?_
    -- R3.0 13 := ipv4.go:29 move
    refine WL.v (by first | exact r_move (v := .slice _ _ _) rfl | exact r_move rfl) rfl rfl rfl ?_
    -- R3.1 14 := ipv4.go:29 indexAddr
    refine WL.v (by exact r_indexS (j := 0) ty_sl25 rfl rfl rfl (by first | decide | omega)) rfl rfl rfl ?_
    -- R3.2 15 := ipv4.go:29 load
    refine WL.v (by exact r_load1 ty_one5 rfl (hrd [_] _ st 0 (by omega))) rfl rfl rfl ?_
    -- R3.3 16 := ipv4.go:29 binOp
    refine WL.v (by exact r_shr (r := bs.getD 0 0 / 16) rfl rfl (by omega) (shr_u 4)) rfl rfl rfl ?_
    -- R3.4 17 := ipv4.go:29 binOp
    refine WL.v (by first | exact r_neq rfl rfl (decide_eq_true (by omega)) | exact r_neq rfl rfl (decide_eq_false (by omega)) | exact r_neq rfl rfl rfl) rfl rfl rfl ?_
    refine WL.fin hK231 (fun _ _ h => h) ?_
    refine WC.condT rfl rfl ?_
    refine WC.seq fun K232 hK232 => ?_
    -- region 4
    refine WC.region ?_
    -- R4.0 18 := ipv4.go:30 build
    refine WL.v (by exact r_build (ps := []) (vs := [_, _, _, _, _, _, _, _, _, _, _, _, _, _, _, _, _]) ty_pl36 ty_zero36 rfl (fill_nil)) rfl rfl rfl ?_
    -- R4.1 19 := ipv4.go:30 load
    refine WL.v (by exact r_load1 ty_one47 rfl (st.old (fun h => h) (hE 4 (by decide)))) rfl rfl rfl ?_
    -- R4.2 None := ipv4.go:30 store
    first | refine WL.storeW (vs := [_, _, _, _, _, _, _, _, _, _, _, _, _, _, _, _, _]) st ty_agg36 rfl rfl rfl rfl rfl rfl ?_ | refine WL.storeL (vs := [_, _, _, _, _, _, _, _, _, _, _, _, _, _, _, _, _]) st ty_agg36 rfl rfl rfl rfl (by first | decide | omega) rfl rfl ?_ | refine WL.storeW (vs := [_, _, _, _, _, _, _, _, _, _, _, _, _, _, _, _, _]) st.front1 ty_agg36 rfl rfl rfl rfl rfl rfl ?_ | refine WL.storeL (vs := [_, _, _, _, _, _, _, _, _, _, _, _, _, _, _, _, _]) st.front1 ty_agg36 rfl rfl rfl rfl (by first | decide | omega) rfl rfl ?_ | refine WL.storeW (vs := [_, _, _, _, _, _, _, _, _, _, _, _, _, _, _, _, _]) st.front2 ty_agg36 rfl rfl rfl rfl rfl rfl ?_ | refine WL.storeL (vs := [_, _, _, _, _, _, _, _, _, _, _, _, _, _, _, _, _]) st.front2 ty_agg36 rfl rfl rfl rfl (by first | decide | omega) rfl rfl ?_ | refine WL.storeW (vs := [_, _, _, _, _, _, _, _, _, _, _, _, _, _, _, _, _]) st.front3 ty_agg36 rfl rfl rfl rfl rfl rfl ?_ | refine WL.storeL (vs := [_, _, _, _, _, _, _, _, _, _, _, _, _, _, _, _, _]) st.front3 ty_agg36 rfl rfl rfl rfl (by first | decide | omega) rfl rfl ?_ | refine WL.storeW (vs := [_, _, _, _, _, _, _, _, _, _, _, _, _, _, _, _, _]) st.front4 ty_agg36 rfl rfl rfl rfl rfl rfl ?_ | refine WL.storeL (vs := [_, _, _, _, _, _, _, _, _, _, _, _, _, _, _, _, _]) st.front4 ty_agg36 rfl rfl rfl rfl (by first | decide | omega) rfl rfl ?_ | refine WL.storeW (vs := [_, _, _, _, _, _, _, _, _, _, _, _, _, _, _, _, _]) st.front5 ty_agg36 rfl rfl rfl rfl rfl rfl ?_ | refine WL.storeL (vs := [_, _, _, _, _, _, _, _, _, _, _, _, _, _, _, _, _]) st.front5 ty_agg36 rfl rfl rfl rfl (by first | decide | omega) rfl rfl ?_ | refine WL.storeW (vs := [_, _, _, _, _, _, _, _, _, _, _, _, _, _, _, _, _]) st.front6 ty_agg36 rfl rfl rfl rfl rfl rfl ?_ | refine WL.storeL (vs := [_, _, _, _, _, _, _, _, _, _, _, _, _, _, _, _, _]) st.front6 ty_agg36 rfl rfl rfl rfl (by first | decide | omega) rfl rfl ?_ | refine WL.storeW (vs := [_, _, _, _, _, _, _, _, _, _, _, _, _, _, _, _, _]) st.front7 ty_agg36 rfl rfl rfl rfl rfl rfl ?_ | refine WL.storeL (vs := [_, _, _, _, _, _, _, _, _, _, _, _, _, _, _, _, _]) st.front7 ty_agg36 rfl rfl rfl rfl (by first | decide | omega) rfl rfl ?_ | refine WL.storeW (vs := [_, _, _, _, _, _, _, _, _, _, _, _, _, _, _, _, _]) st.front8 ty_agg36 rfl rfl rfl rfl rfl rfl ?_ | refine WL.storeL (vs := [_, _, _, _, _, _, _, _, _, _, _, _, _, _, _, _, _]) st.front8 ty_agg36 rfl rfl rfl rfl (by first | decide | omega) rfl rfl ?_
    intro w st
    -- R4.3 3 := ipv4.go:30 assign
    refine WL.v (by first | exact r_assign (v := .slice _ _ _) rfl | exact r_assign rfl) rfl rfl rfl ?_
    -- R4.4 4 := ipv4.go:30 assign
    refine WL.v (by first | exact r_assign (v := .nilIface) rfl | exact r_assign (v := .iface _ _) rfl | exact r_assign rfl) rfl rfl rfl ?_
    refine WL.fin hK232 (fun _ _ h => h) ?_
    refine WC.retCTT (vs := [_, _, _, _, _, _, _, _, _, _, _, _, _, _, _, _, _]) Tryd.results28 (fun _ _ h => h) rfl ty_agg36 rfl ⟨(by first | assumption | exact st.c0 (by first | decide | omega) | exact st.c1 (by first | decide | omega) | exact st.c2 (by first | decide | omega) | exact st.c3 (by first | decide | omega) | exact st.c4 (by first | decide | omega) | exact st.c5 (by first | decide | omega) | exact st.c6 (by first | decide | omega) | exact st.c7 (by first | decide | omega) | exact st.c8 (by first | decide | omega)), (by first | assumption | exact st.c0 (by first | decide | omega) | exact st.c1 (by first | decide | omega) | exact st.c2 (by first | decide | omega) | exact st.c3 (by first | decide | omega) | exact st.c4 (by first | decide | omega) | exact st.c5 (by first | decide | omega) | exact st.c6 (by first | decide | omega) | exact st.c7 (by first | decide | omega) | exact st.c8 (by first | decide | omega)), (by first | assumption | exact st.c0 (by first | decide | omega) | exact st.c1 (by first | decide | omega) | exact st.c2 (by first | decide | omega) | exact st.c3 (by first | decide | omega) | exact st.c4 (by first | decide | omega) | exact st.c5 (by first | decide | omega) | exact st.c6 (by first | decide | omega) | exact st.c7 (by first | decide | omega) | exact st.c8 (by first | decide | omega)), (by first | assumption | exact st.c0 (by first | decide | omega) | exact st.c1 (by first | decide | omega) | exact st.c2 (by first | decide | omega) | exact st.c3 (by first | decide | omega) | exact st.c4 (by first | decide | omega) | exact st.c5 (by first | decide | omega) | exact st.c6 (by first | decide | omega) | exact st.c7 (by first | decide | omega) | exact st.c8 (by first | decide | omega)), (by first | assumption | exact st.c0 (by first | decide | omega) | exact st.c1 (by first | decide | omega) | exact st.c2 (by first | decide | omega) | exact st.c3 (by first | decide | omega) | exact st.c4 (by first | decide | omega) | exact st.c5 (by first | decide | omega) | exact st.c6 (by first | decide | omega) | exact st.c7 (by first | decide | omega) | exact st.c8 (by first | decide | omega)), (by first | assumption | exact st.c0 (by first | decide | omega) | exact st.c1 (by first | decide | omega) | exact st.c2 (by first | decide | omega) | exact st.c3 (by first | decide | omega) | exact st.c4 (by first | decide | omega) | exact st.c5 (by first | decide | omega) | exact st.c6 (by first | decide | omega) | exact st.c7 (by first | decide | omega) | exact st.c8 (by first | decide | omega)), (by first | assumption | exact st.c0 (by first | decide | omega) | exact st.c1 (by first | decide | omega) | exact st.c2 (by first | decide | omega) | exact st.c3 (by first | decide | omega) | exact st.c4 (by first | decide | omega) | exact st.c5 (by first | decide | omega) | exact st.c6 (by first | decide | omega) | exact st.c7 (by first | decide | omega) | exact st.c8 (by first | decide | omega)), (by first | assumption | exact st.c0 (by first | decide | omega) | exact st.c1 (by first | decide | omega) | exact st.c2 (by first | decide | omega) | exact st.c3 (by first | decide | omega) | exact st.c4 (by first | decide | omega) | exact st.c5 (by first | decide | omega) | exact st.c6 (by first | decide | omega) | exact st.c7 (by first | decide | omega) | exact st.c8 (by first | decide | omega)), (by first | assumption | exact st.c0 (by first | decide | omega) | exact st.c1 (by first | decide | omega) | exact st.c2 (by first | decide | omega) | exact st.c3 (by first | decide | omega) | exact st.c4 (by first | decide | omega) | exact st.c5 (by first | decide | omega) | exact st.c6 (by first | decide | omega) | exact st.c7 (by first | decide | omega) | exact st.c8 (by first | decide | omega)), (by first | assumption | exact st.c0 (by first | decide | omega) | exact st.c1 (by first | decide | omega) | exact st.c2 (by first | decide | omega) | exact st.c3 (by first | decide | omega) | exact st.c4 (by first | decide | omega) | exact st.c5 (by first | decide | omega) | exact st.c6 (by first | decide | omega) | exact st.c7 (by first | decide | omega) | exact st.c8 (by first | decide | omega)), (by first | assumption | exact st.c0 (by first | decide | omega) | exact st.c1 (by first | decide | omega) | exact st.c2 (by first | decide | omega) | exact st.c3 (by first | decide | omega) | exact st.c4 (by first | decide | omega) | exact st.c5 (by first | decide | omega) | exact st.c6 (by first | decide | omega) | exact st.c7 (by first | decide | omega) | exact st.c8 (by first | decide | omega)), (by first | assumption | exact st.c0 (by first | decide | omega) | exact st.c1 (by first | decide | omega) | exact st.c2 (by first | decide | omega) | exact st.c3 (by first | decide | omega) | exact st.c4 (by first | decide | omega) | exact st.c5 (by first | decide | omega) | exact st.c6 (by first | decide | omega) | exact st.c7 (by first | decide | omega) | exact st.c8 (by first | decide | omega)), (by first | assumption | exact st.c0 (by first | decide | omega) | exact st.c1 (by first | decide | omega) | exact st.c2 (by first | decide | omega) | exact st.c3 (by first | decide | omega) | exact st.c4 (by first | decide | omega) | exact st.c5 (by first | decide | omega) | exact st.c6 (by first | decide | omega) | exact st.c7 (by first | decide | omega) | exact st.c8 (by first | decide | omega)), (by first | assumption | exact st.c0 (by first | decide | omega) | exact st.c1 (by first | decide | omega) | exact st.c2 (by first | decide | omega) | exact st.c3 (by first | decide | omega) | exact st.c4 (by first | decide | omega) | exact st.c5 (by first | decide | omega) | exact st.c6 (by first | decide | omega) | exact st.c7 (by first | decide | omega) | exact st.c8 (by first | decide | omega)), (by first | assumption | exact st.c0 (by first | decide | omega) | exact st.c1 (by first | decide | omega) | exact st.c2 (by first | decide | omega) | exact st.c3 (by first | decide | omega) | exact st.c4 (by first | decide | omega) | exact st.c5 (by first | decide | omega) | exact st.c6 (by first | decide | omega) | exact st.c7 (by first | decide | omega) | exact st.c8 (by first | decide | omega)), (by first | assumption | exact st.c0 (by first | decide | omega) | exact st.c1 (by first | decide | omega) | exact st.c2 (by first | decide | omega) | exact st.c3 (by first | decide | omega) | exact st.c4 (by first | decide | omega) | exact st.c5 (by first | decide | omega) | exact st.c6 (by first | decide | omega) | exact st.c7 (by first | decide | omega) | exact st.c8 (by first | decide | omega)), (by first | assumption | exact st.c0 (by first | decide | omega) | exact st.c1 (by first | decide | omega) | exact st.c2 (by first | decide | omega) | exact st.c3 (by first | decide | omega) | exact st.c4 (by first | decide | omega) | exact st.c5 (by first | decide | omega) | exact st.c6 (by first | decide | omega) | exact st.c7 (by first | decide | omega) | exact st.c8 (by first | decide | omega)), trivial⟩ ?_
    exact ⟨_, rfl, .inl ⟨_, _, rfl⟩, st.drop⟩
  by_cases h5 : q * 4 < 20
  · skip
    refine enter [.slice (some ⟨b, o, none⟩) bs.length c] Tryd.func28 rfl Tryd.ntmps28 rfl ?_
    show WC _ _ _ 95 [] [(0, .slice (some ⟨b, o, none⟩) bs.length c)] _
    refine WC.seq fun K233 hK233 => ?_
    -- region 0
    refine WC.region ?_
    -- R0.0 2 := ipv4.go:25 alloc
    refine WL.alloc (m := 17) st ty_zero36 rfl rfl rfl ?_
    intro b2 w st
    -- R0.1 3 := ipv4.go:25 assign
    refine WL.v (by first | exact r_assign (v := .slice _ _ _) rfl | exact r_assign rfl) rfl rfl rfl ?_
    -- R0.2 4 := ipv4.go:25 assign
    refine WL.v (by first | exact r_assign (v := .nilIface) rfl | exact r_assign (v := .iface _ _) rfl | exact r_assign rfl) rfl rfl rfl ?_
    refine WL.fin hK233 (fun _ _ h => h) ?_
    refine WC.seq fun K234 hK234 => ?_
    refine WC.seq fun K235 hK235 => ?_
    -- region 1
    refine WC.region ?_
    -- R1.0 8 := ipv4.go:26 move
    refine WL.v (by first | exact r_move (v := .slice _ _ _) rfl | exact r_move rfl) rfl rfl rfl ?_
    -- R1.1 9 := ipv4.go:26 call
    refine WL.v (by exact r_len ty_usl25 rfl) rfl rfl rfl ?_
    -- R1.2 10 := ipv4.go:26 binOp
    refine WL.v (by first | exact r_lss rfl rfl (decide_eq_true (by omega)) | exact r_lss rfl rfl (decide_eq_false (by omega)) | exact r_lss rfl rfl rfl) rfl rfl rfl ?_
    refine WL.fin hK235 (fun _ _ h => h) ?_
    refine WC.condF rfl rfl ?_
    refine WC.skipF hK234 (fun _ _ h => h) ?_
    refine WC.seq fun K236 hK236 => ?_
    refine WC.seq fun K237 hK237 => ?_
    -- region 3
    refine WC.region ?_
    -- R3.0 13 := ipv4.go:29 move
    refine WL.v (by first | exact r_move (v := .slice _ _ _) rfl | exact r_move rfl) rfl rfl rfl ?_
    -- R3.1 14 := ipv4.go:29 indexAddr
    refine WL.v (by exact r_indexS (j := 0) ty_sl25 rfl rfl rfl (by first | decide | omega)) rfl rfl rfl ?_
    -- R3.2 15 := ipv4.go:29 load
    refine WL.v (by exact r_load1 ty_one5 rfl (hrd [_] _ st 0 (by omega))) rfl rfl rfl ?_
    -- R3.3 16 := ipv4.go:29 binOp
    refine WL.v (by exact r_shr (r := bs.getD 0 0 / 16) rfl rfl (by omega) (shr_u 4)) rfl rfl rfl ?_
    -- R3.4 17 := ipv4.go:29 binOp
    refine WL.v (by first | exact r_neq rfl rfl (decide_eq_true (by omega)) | exact r_neq rfl rfl (decide_eq_false (by omega)) | exact r_neq rfl rfl rfl) rfl rfl rfl ?_
    refine WL.fin hK237 (fun _ _ h => h) ?_
    refine WC.condF rfl rfl ?_
    refine WC.skipF hK236 (fun _ _ h => h) ?_
    refine WC.seq fun K238 hK238 => ?_
    -- region 5
    refine WC.region ?_
    -- R5.0 20 := ipv4.go:32 move
    refine WL.v (by first | exact r_move (v := .slice _ _ _) rfl | exact r_move rfl) rfl rfl rfl ?_
    -- R5.1 21 := ipv4.go:32 indexAddr
    refine WL.v (by exact r_indexS (j := 0) ty_sl25 rfl rfl rfl (by first | decide | omega)) rfl rfl rfl ?_
    -- R5.2 22 := ipv4.go:32 load
    refine WL.v (by exact r_load1 ty_one5 rfl (hrd [_] _ st 0 (by omega))) rfl rfl rfl ?_
    -- R5.3 23 := ipv4.go:32 binOp
    refine WL.v (by exact r_and (r := (q : Int)) rfl rfl ((congrArg IntKind.u8.wrap ((and_u 8 4 g0.1 (by omega) (by omega)).trans hq)).trans (wu8 (by omega) (by omega)))) rfl rfl rfl ?_
    -- R5.4 24 := ipv4.go:32 convert
    refine WL.v (by first | exact r_conv ty_cv5_3 rfl (wi64 (by omega) (by omega)) | exact r_conv ty_cv5_3 rfl rfl) rfl rfl rfl ?_
    -- R5.5 25 := ipv4.go:32 binOp
    refine WL.v (by exact r_mul (r := ((q * 4 : Nat) : Int)) rfl rfl (by rw [wi64 (by omega) (by omega)]; omega)) rfl rfl rfl ?_
    -- R5.6 5 := ipv4.go:32 assign
    refine WL.v (by first | exact r_assign (v := .int _ _) rfl | exact r_assign rfl) rfl rfl rfl ?_
    refine WL.fin hK238 (fun _ _ h => h) ?_
    refine WC.seq fun K239 hK239 => ?_
    refine WC.seq fun K240 hK240 => ?_
    -- region 6
    refine WC.region ?_
    -- R6.0 26 := ipv4.go:33 move
    refine WL.v (by first | exact r_move (v := .int _ _) rfl | exact r_move rfl) rfl rfl rfl ?_
    -- R6.1 27 := ipv4.go:33 binOp
    refine WL.v (by first | exact r_lss rfl rfl (decide_eq_true (by omega)) | exact r_lss rfl rfl (decide_eq_false (by omega)) | exact r_lss rfl rfl rfl) rfl rfl rfl ?_
    refine WL.fin hK240 (fun _ _ h => h) ?_
    refine WC.condT rfl rfl ?_
    refine WC.seq fun K241 hK241 => ?_
    -- region 7
    refine WC.region ?_
    -- R7.0 28 := ipv4.go:34 build
    refine WL.v (by exact r_build (ps := []) (vs := [_, _, _, _, _, _, _, _, _, _, _, _, _, _, _, _, _]) ty_pl36 ty_zero36 rfl (fill_nil)) rfl rfl rfl ?_
    -- R7.1 29 := ipv4.go:34 load
    refine WL.v (by exact r_load1 ty_one47 rfl (st.old (fun h => h) (hE 5 (by decide)))) rfl rfl rfl ?_
    -- R7.2 None := ipv4.go:34 store
    first | refine WL.storeW (vs := [_, _, _, _, _, _, _, _, _, _, _, _, _, _, _, _, _]) st ty_agg36 rfl rfl rfl rfl rfl rfl ?_ | refine WL.storeL (vs := [_, _, _, _, _, _, _, _, _, _, _, _, _, _, _, _, _]) st ty_agg36 rfl rfl rfl rfl (by first | decide | omega) rfl rfl ?_ | refine WL.storeW (vs := [_, _, _, _, _, _, _, _, _, _, _, _, _, _, _, _, _]) st.front1 ty_agg36 rfl rfl rfl rfl rfl rfl ?_ | refine WL.storeL (vs := [_, _, _, _, _, _, _, _, _, _, _, _, _, _, _, _, _]) st.front1 ty_agg36 rfl rfl rfl rfl (by first | decide | omega) rfl rfl ?_ | refine WL.storeW (vs := [_, _, _, _, _, _, _, _, _, _, _, _, _, _, _, _, _]) st.front2 ty_agg36 rfl rfl rfl rfl rfl rfl ?_ | refine WL.storeL (vs := [_, _, _, _, _, _, _, _, _, _, _, _, _, _, _, _, _]) st.front2 ty_agg36 rfl rfl rfl rfl (by first | decide | omega) rfl rfl ?_ | refine WL.storeW (vs := [_, _, _, _, _, _, _, _, _, _, _, _, _, _, _, _, _]) st.front3 ty_agg36 rfl rfl rfl rfl rfl rfl ?_ | refine WL.storeL (vs := [_, _, _, _, _, _, _, _, _, _, _, _, _, _, _, _, _]) st.front3 ty_agg36 rfl rfl rfl rfl (by first | decide | omega) rfl rfl ?_ | refine WL.storeW (vs := [_, _, _, _, _, _, _, _, _, _, _, _, _, _, _, _, _]) st.front4 ty_agg36 rfl rfl rfl rfl rfl rfl ?_ | refine WL.storeL (vs := [_, _, _, _, _, _, _, _, _, _, _, _, _, _, _, _, _]) st.front4 ty_agg36 rfl rfl rfl rfl (by first | decide | omega) rfl rfl ?_ | refine WL.storeW (vs := [_, _, _, _, _, _, _, _, _, _, _, _, _, _, _, _, _]) st.front5 ty_agg36 rfl rfl rfl rfl rfl rfl ?_ | refine WL.storeL (vs := [_, _, _, _, _, _, _, _, _, _, _, _, _, _, _, _, _]) st.front5 ty_agg36 rfl rfl rfl rfl (by first | decide | omega) rfl rfl ?_ | refine WL.storeW (vs := [_, _, _, _, _, _, _, _, _, _, _, _, _, _, _, _, _]) st.front6 ty_agg36 rfl rfl rfl rfl rfl rfl ?_ | refine WL.storeL (vs := [_, _, _, _, _, _, _, _, _, _, _, _, _, _, _, _, _]) st.front6 ty_agg36 rfl rfl rfl rfl (by first | decide | omega) rfl rfl ?_ | refine WL.storeW (vs := [_, _, _, _, _, _, _, _, _, _, _, _, _, _, _, _, _]) st.front7 ty_agg36 rfl rfl rfl rfl rfl rfl ?_ | refine WL.storeL (vs := [_, _, _, _, _, _, _, _, _, _, _, _, _, _, _, _, _]) st.front7 ty_agg36 rfl rfl rfl rfl (by first | decide | omega) rfl rfl ?_ | refine WL.storeW (vs := [_, _, _, _, _, _, _, _, _, _, _, _, _, _, _, _, _]) st.front8 ty_agg36 rfl rfl rfl rfl rfl rfl ?_ | refine WL.storeL (vs := [_, _, _, _, _, _, _, _, _, _, _, _, _, _, _, _, _]) st.front8 ty_agg36 rfl rfl rfl rfl (by first | decide | omega) rfl rfl ?_
    intro w st
    -- R7.3 3 := ipv4.go:34 assign
    refine WL.v (by first | exact r_assign (v := .slice _ _ _) rfl | exact r_assign rfl) rfl rfl rfl ?_
    -- R7.4 4 := ipv4.go:34 assign
    refine WL.v (by first | exact r_assign (v := .nilIface) rfl | exact r_assign (v := .iface _ _) rfl | exact r_assign rfl) rfl rfl rfl ?_
    refine WL.fin hK241 (fun _ _ h => h) ?_
    refine WC.retCTT (vs := [_, _, _, _, _, _, _, _, _, _, _, _, _, _, _, _, _]) Tryd.results28 (fun _ _ h => h) rfl ty_agg36 rfl ⟨(by first | assumption | exact st.c0 (by first | decide | omega) | exact st.c1 (by first | decide | omega) | exact st.c2 (by first | decide | omega) | exact st.c3 (by first | decide | omega) | exact st.c4 (by first | decide | omega) | exact st.c5 (by first | decide | omega) | exact st.c6 (by first | decide | omega) | exact st.c7 (by first | decide | omega) | exact st.c8 (by first | decide | omega)), (by first | assumption | exact st.c0 (by first | decide | omega) | exact st.c1 (by first | decide | omega) | exact st.c2 (by first | decide | omega) | exact st.c3 (by first | decide | omega) | exact st.c4 (by first | decide | omega) | exact st.c5 (by first | decide | omega) | exact st.c6 (by first | decide | omega) | exact st.c7 (by first | decide | omega) | exact st.c8 (by first | decide | omega)), (by first | assumption | exact st.c0 (by first | decide | omega) | exact st.c1 (by first | decide | omega) | exact st.c2 (by first | decide | omega) | exact st.c3 (by first | decide | omega) | exact st.c4 (by first | decide | omega) | exact st.c5 (by first | decide | omega) | exact st.c6 (by first | decide | omega) | exact st.c7 (by first | decide | omega) | exact st.c8 (by first | decide | omega)), (by first | assumption | exact st.c0 (by first | decide | omega) | exact st.c1 (by first | decide | omega) | exact st.c2 (by first | decide | omega) | exact st.c3 (by first | decide | omega) | exact st.c4 (by first | decide | omega) | exact st.c5 (by first | decide | omega) | exact st.c6 (by first | decide | omega) | exact st.c7 (by first | decide | omega) | exact st.c8 (by first | decide | omega)), (by first | assumption | exact st.c0 (by first | decide | omega) | exact st.c1 (by first | decide | omega) | exact st.c2 (by first | decide | omega) | exact st.c3 (by first | decide | omega) | exact st.c4 (by first | decide | omega) | exact st.c5 (by first | decide | omega) | exact st.c6 (by first | decide | omega) | exact st.c7 (by first | decide | omega) | exact st.c8 (by first | decide | omega)), (by first | assumption | exact st.c0 (by first | decide | omega) | exact st.c1 (by first | decide | omega) | exact st.c2 (by first | decide | omega) | exact st.c3 (by first | decide | omega) | exact st.c4 (by first | decide | omega) | exact st.c5 (by first | decide | omega) | exact st.c6 (by first | decide | omega) | exact st.c7 (by first | decide | omega) | exact st.c8 (by first | decide | omega)), (by first | assumption | exact st.c0 (by first | decide | omega) | exact st.c1 (by first | decide | omega) | exact st.c2 (by first | decide | omega) | exact st.c3 (by first | decide | omega) | exact st.c4 (by first | decide | omega) | exact st.c5 (by first | decide | omega) | exact st.c6 (by first | decide | omega) | exact st.c7 (by first | decide | omega) | exact st.c8 (by first | decide | omega)), (by first | assumption | exact st.c0 (by first | decide | omega) | exact st.c1 (by first | decide | omega) | exact st.c2 (by first | decide | omega) | exact st.c3 (by first | decide | omega) | exact st.c4 (by first | decide | omega) | exact st.c5 (by first | decide | omega) | exact st.c6 (by first | decide | omega) | exact st.c7 (by first | decide | omega) | exact st.c8 (by first | decide | omega)), (by first | assumption | exact st.c0 (by first | decide | omega) | exact st.c1 (by first | decide | omega) | exact st.c2 (by first | decide | omega) | exact st.c3 (by first | decide | omega) | exact st.c4 (by first | decide | omega) | exact st.c5 (by first | decide | omega) | exact st.c6 (by first | decide | omega) | exact st.c7 (by first | decide | omega) | exact st.c8 (by first | decide | omega)), (by first | assumption | exact st.c0 (by first | decide | omega) | exact st.c1 (by first | decide | omega) | exact st.c2 (by first | decide | omega) | exact st.c3 (by first | decide | omega) | exact st.c4 (by first | decide | omega) | exact st.c5 (by first | decide | omega) | exact st.c6 (by first | decide | omega) | exact st.c7 (by first | decide | omega) | exact st.c8 (by first | decide | omega)), (by first | assumption | exact st.c0 (by first | decide | omega) | exact st.c1 (by first | decide | omega) | exact st.c2 (by first | decide | omega) | exact st.c3 (by first | decide | omega) | exact st.c4 (by first | decide | omega) | exact st.c5 (by first | decide | omega) | exact st.c6 (by first | decide | omega) | exact st.c7 (by first | decide | omega) | exact st.c8 (by first | decide | omega)), (by first | assumption | exact st.c0 (by first | decide | omega) | exact st.c1 (by first | decide | omega) | exact st.c2 (by first | decide | omega) | exact st.c3 (by first | decide | omega) | exact st.c4 (by first | decide | omega) | exact st.c5 (by first | decide | omega) | exact st.c6 (by first | decide | omega) | exact st.c7 (by first | decide | omega) | exact st.c8 (by first | decide | omega)), (by first | assumption | exact st.c0 (by first | decide | omega) | exact st.c1 (by first | decide | omega) | exact st.c2 (by first | decide | omega) | exact st.c3 (by first | decide | omega) | exact st.c4 (by first | decide | omega) | exact st.c5 (by first | decide | omega) | exact st.c6 (by first | decide | omega) | exact st.c7 (by first | decide | omega) | exact st.c8 (by first | decide | omega)), (by first | assumption | exact st.c0 (by first | decide | omega) | exact st.c1 (by first | decide | omega) | exact st.c2 (by first | decide | omega) | exact st.c3 (by first | decide | omega) | exact st.c4 (by first | decide | omega) | exact st.c5 (by first | decide | omega) | exact st.c6 (by first | decide | omega) | exact st.c7 (by first | decide | omega) | exact st.c8 (by first | decide | omega)), (by first | assumption | exact st.c0 (by first | decide | omega) | exact st.c1 (by first | decide | omega) | exact st.c2 (by first | decide | omega) | exact st.c3 (by first | decide | omega) | exact st.c4 (by first | decide | omega) | exact st.c5 (by first | decide | omega) | exact st.c6 (by first | decide | omega) | exact st.c7 (by first | decide | omega) | exact st.c8 (by first | decide | omega)), (by first | assumption | exact st.c0 (by first | decide | omega) | exact st.c1 (by first | decide | omega) | exact st.c2 (by first | decide | omega) | exact st.c3 (by first | decide | omega) | exact st.c4 (by first | decide | omega) | exact st.c5 (by first | decide | omega) | exact st.c6 (by first | decide | omega) | exact st.c7 (by first | decide | omega) | exact st.c8 (by first | decide | omega)), (by first | assumption | exact st.c0 (by first | decide | omega) | exact st.c1 (by first | decide | omega) | exact st.c2 (by first | decide | omega) | exact st.c3 (by first | decide | omega) | exact st.c4 (by first | decide | omega) | exact st.c5 (by first | decide | omega) | exact st.c6 (by first | decide | omega) | exact st.c7 (by first | decide | omega) | exact st.c8 (by first | decide | omega)), trivial⟩ ?_
    exact ⟨_, rfl, .inl ⟨_, _, rfl⟩, st.drop⟩
  by_cases hin : bs.length < q * 4
  · skip
    refine enter [.slice (some ⟨b, o, none⟩) bs.length c] Tryd.func28 rfl Tryd.ntmps28 rfl ?_
    show WC _ _ _ 95 [] [(0, .slice (some ⟨b, o, none⟩) bs.length c)] _
    refine WC.seq fun K242 hK242 => ?_
    -- region 0
    refine WC.region ?_
    -- R0.0 2 := ipv4.go:25 alloc
    refine WL.alloc (m := 17) st ty_zero36 rfl rfl rfl ?_
    intro b2 w st
    -- R0.1 3 := ipv4.go:25 assign
    refine WL.v (by first | exact r_assign (v := .slice _ _ _) rfl | exact r_assign rfl) rfl rfl rfl ?_
    -- R0.2 4 := ipv4.go:25 assign
    refine WL.v (by first | exact r_assign (v := .nilIface) rfl | exact r_assign (v := .iface _ _) rfl | exact r_assign rfl) rfl rfl rfl ?_
    refine WL.fin hK242 (fun _ _ h => h) ?_
    refine WC.seq fun K243 hK243 => ?_
    refine WC.seq fun K244 hK244 => ?_
    -- region 1
    refine WC.region ?_
    -- R1.0 8 := ipv4.go:26 move
    refine WL.v (by first | exact r_move (v := .slice _ _ _) rfl | exact r_move rfl) rfl rfl rfl ?_
    -- R1.1 9 := ipv4.go:26 call
    refine WL.v (by exact r_len ty_usl25 rfl) rfl rfl rfl ?_
    -- R1.2 10 := ipv4.go:26 binOp
    refine WL.v (by first | exact r_lss rfl rfl (decide_eq_true (by omega)) | exact r_lss rfl rfl (decide_eq_false (by omega)) | exact r_lss rfl rfl rfl) rfl rfl rfl ?_
    refine WL.fin hK244 (fun _ _ h => h) ?_
    refine WC.condF rfl rfl ?_
    refine WC.skipF hK243 (fun _ _ h => h) ?_
    refine WC.seq fun K245 hK245 => ?_
    refine WC.seq fun K246 hK246 => ?_
    -- region 3
    refine WC.region ?_
    -- R3.0 13 := ipv4.go:29 move
    refine WL.v (by first | exact r_move (v := .slice _ _ _) rfl | exact r_move rfl) rfl rfl rfl ?_
    -- R3.1 14 := ipv4.go:29 indexAddr
    refine WL.v (by exact r_indexS (j := 0) ty_sl25 rfl rfl rfl (by first | decide | omega)) rfl rfl rfl ?_
    -- R3.2 15 := ipv4.go:29 load
    refine WL.v (by exact r_load1 ty_one5 rfl (hrd [_] _ st 0 (by omega))) rfl rfl rfl ?_
    -- R3.3 16 := ipv4.go:29 binOp
    refine WL.v (by exact r_shr (r := bs.getD 0 0 / 16) rfl rfl (by omega) (shr_u 4)) rfl rfl rfl ?_
    -- R3.4 17 := ipv4.go:29 binOp
    refine WL.v (by first | exact r_neq rfl rfl (decide_eq_true (by omega)) | exact r_neq rfl rfl (decide_eq_false (by omega)) | exact r_neq rfl rfl rfl) rfl rfl rfl ?_
    refine WL.fin hK246 (fun _ _ h => h) ?_
    refine WC.condF rfl rfl ?_
    refine WC.skipF hK245 (fun _ _ h => h) ?_
    refine WC.seq fun K247 hK247 => ?_
    -- region 5
    refine WC.region ?_
    -- R5.0 20 := ipv4.go:32 move
    refine WL.v (by first | exact r_move (v := .slice _ _ _) rfl | exact r_move rfl) rfl rfl rfl ?_
    -- R5.1 21 := ipv4.go:32 indexAddr
    refine WL.v (by exact r_indexS (j := 0) ty_sl25 rfl rfl rfl (by first | decide | omega)) rfl rfl rfl ?_
    -- R5.2 22 := ipv4.go:32 load
    refine WL.v (by exact r_load1 ty_one5 rfl (hrd [_] _ st 0 (by omega))) rfl rfl rfl ?_
    -- R5.3 23 := ipv4.go:32 binOp
    refine WL.v (by exact r_and (r := (q : Int)) rfl rfl ((congrArg IntKind.u8.wrap ((and_u 8 4 g0.1 (by omega) (by omega)).trans hq)).trans (wu8 (by omega) (by omega)))) rfl rfl rfl ?_
    -- R5.4 24 := ipv4.go:32 convert
    refine WL.v (by first | exact r_conv ty_cv5_3 rfl (wi64 (by omega) (by omega)) | exact r_conv ty_cv5_3 rfl rfl) rfl rfl rfl ?_
    -- R5.5 25 := ipv4.go:32 binOp
    refine WL.v (by exact r_mul (r := ((q * 4 : Nat) : Int)) rfl rfl (by rw [wi64 (by omega) (by omega)]; omega)) rfl rfl rfl ?_
    -- R5.6 5 := ipv4.go:32 assign
    refine WL.v (by first | exact r_assign (v := .int _ _) rfl | exact r_assign rfl) rfl rfl rfl ?_
    refine WL.fin hK247 (fun _ _ h => h) ?_
    refine WC.seq fun K248 hK248 => ?_
    refine WC.seq fun K249 hK249 => ?_
    -- region 6
    refine WC.region ?_
    -- R6.0 26 := ipv4.go:33 move
    refine WL.v (by first | exact r_move (v := .int _ _) rfl | exact r_move rfl) rfl rfl rfl ?_
    -- R6.1 27 := ipv4.go:33 binOp
    refine WL.v (by first | exact r_lss rfl rfl (decide_eq_true (by omega)) | exact r_lss rfl rfl (decide_eq_false (by omega)) | exact r_lss rfl rfl rfl) rfl rfl rfl ?_
    refine WL.fin hK249 (fun _ _ h => h) ?_
    refine WC.condF rfl rfl ?_
    refine WC.skipF hK248 (fun _ _ h => h) ?_
    refine WC.seq fun K250 hK250 => ?_
    refine WC.seq fun K251 hK251 => ?_
    -- region 8
    refine WC.region ?_
    -- R8.0 30 := ipv4.go:36 move
    refine WL.v (by first | exact r_move (v := .int _ _) rfl | exact r_move rfl) rfl rfl rfl ?_
    -- R8.1 31 := ipv4.go:36 move
    refine WL.v (by first | exact r_move (v := .slice _ _ _) rfl | exact r_move rfl) rfl rfl rfl ?_
    -- R8.2 32 := ipv4.go:36 call
    refine WL.v (by exact r_len ty_usl25 rfl) rfl rfl rfl ?_
    -- R8.3 33 := ipv4.go:36 binOp
    refine WL.v (by first | exact r_gtr rfl rfl (decide_eq_true (by omega)) | exact r_gtr rfl rfl (decide_eq_false (by omega)) | exact r_gtr rfl rfl rfl) rfl rfl rfl ?_
    refine WL.fin hK251 (fun _ _ h => h) ?_
    refine WC.condT rfl rfl ?_
    refine WC.seq fun K252 hK252 => ?_
    -- region 9
    refine WC.region ?_
    -- R9.0 34 := ipv4.go:37 build
    refine WL.v (by exact r_build (ps := []) (vs := [_, _, _, _, _, _, _, _, _, _, _, _, _, _, _, _, _]) ty_pl36 ty_zero36 rfl (fill_nil)) rfl rfl rfl ?_
    -- R9.1 35 := ipv4.go:37 load
    refine WL.v (by exact r_load1 ty_one47 rfl (st.old (fun h => h) (hE 3 (by decide)))) rfl rfl rfl ?_
    -- R9.2 None := ipv4.go:37 store
    first | refine WL.storeW (vs := [_, _, _, _, _, _, _, _, _, _, _, _, _, _, _, _, _]) st ty_agg36 rfl rfl rfl rfl rfl rfl ?_ | refine WL.storeL (vs := [_, _, _, _, _, _, _, _, _, _, _, _, _, _, _, _, _]) st ty_agg36 rfl rfl rfl rfl (by first | decide | omega) rfl rfl ?_ | refine WL.storeW (vs := [_, _, _, _, _, _, _, _, _, _, _, _, _, _, _, _, _]) st.front1 ty_agg36 rfl rfl rfl rfl rfl rfl ?_ | refine WL.storeL (vs := [_, _, _, _, _, _, _, _, _, _, _, _, _, _, _, _, _]) st.front1 ty_agg36 rfl rfl rfl rfl (by first | decide | omega) rfl rfl ?_ | refine WL.storeW (vs := [_, _, _, _, _, _, _, _, _, _, _, _, _, _, _, _, _]) st.front2 ty_agg36 rfl rfl rfl rfl rfl rfl ?_ | refine WL.storeL (vs := [_, _, _, _, _, _, _, _, _, _, _, _, _, _, _, _, _]) st.front2 ty_agg36 rfl rfl rfl rfl (by first | decide | omega) rfl rfl ?_ | refine WL.storeW (vs := [_, _, _, _, _, _, _, _, _, _, _, _, _, _, _, _, _]) st.front3 ty_agg36 rfl rfl rfl rfl rfl rfl ?_ | refine WL.storeL (vs := [_, _, _, _, _, _, _, _, _, _, _, _, _, _, _, _, _]) st.front3 ty_agg36 rfl rfl rfl rfl (by first | decide | omega) rfl rfl ?_ | refine WL.storeW (vs := [_, _, _, _, _, _, _, _, _, _, _, _, _, _, _, _, _]) st.front4 ty_agg36 rfl rfl rfl rfl rfl rfl ?_ | refine WL.storeL (vs := [_, _, _, _, _, _, _, _, _, _, _, _, _, _, _, _, _]) st.front4 ty_agg36 rfl rfl rfl rfl (by first | decide | omega) rfl rfl ?_ | refine WL.storeW (vs := [_, _, _, _, _, _, _, _, _, _, _, _, _, _, _, _, _]) st.front5 ty_agg36 rfl rfl rfl rfl rfl rfl ?_ | refine WL.storeL (vs := [_, _, _, _, _, _, _, _, _, _, _, _, _, _, _, _, _]) st.front5 ty_agg36 rfl rfl rfl rfl (by first | decide | omega) rfl rfl ?_ | refine WL.storeW (vs := [_, _, _, _, _, _, _, _, _, _, _, _, _, _, _, _, _]) st.front6 ty_agg36 rfl rfl rfl rfl rfl rfl ?_ | refine WL.storeL (vs := [_, _, _, _, _, _, _, _, _, _, _, _, _, _, _, _, _]) st.front6 ty_agg36 rfl rfl rfl rfl (by first | decide | omega) rfl rfl ?_ | refine WL.storeW (vs := [_, _, _, _, _, _, _, _, _, _, _, _, _, _, _, _, _]) st.front7 ty_agg36 rfl rfl rfl rfl rfl rfl ?_ | refine WL.storeL (vs := [_, _, _, _, _, _, _, _, _, _, _, _, _, _, _, _, _]) st.front7 ty_agg36 rfl rfl rfl rfl (by first | decide | omega) rfl rfl ?_ | refine WL.storeW (vs := [_, _, _, _, _, _, _, _, _, _, _, _, _, _, _, _, _]) st.front8 ty_agg36 rfl rfl rfl rfl rfl rfl ?_ | refine WL.storeL (vs := [_, _, _, _, _, _, _, _, _, _, _, _, _, _, _, _, _]) st.front8 ty_agg36 rfl rfl rfl rfl (by first | decide | omega) rfl rfl ?_
    intro w st
    -- R9.3 3 := ipv4.go:37 assign
    refine WL.v (by first | exact r_assign (v := .slice _ _ _) rfl | exact r_assign rfl) rfl rfl rfl ?_
    -- R9.4 4 := ipv4.go:37 assign
    refine WL.v (by first | exact r_assign (v := .nilIface) rfl | exact r_assign (v := .iface _ _) rfl | exact r_assign rfl) rfl rfl rfl ?_
    refine WL.fin hK252 (fun _ _ h => h) ?_
    refine WC.retCTT (vs := [_, _, _, _, _, _, _, _, _, _, _, _, _, _, _, _, _]) Tryd.results28 (fun _ _ h => h) rfl ty_agg36 rfl ⟨(by first | assumption | exact st.c0 (by first | decide | omega) | exact st.c1 (by first | decide | omega) | exact st.c2 (by first | decide | omega) | exact st.c3 (by first | decide | omega) | exact st.c4 (by first | decide | omega) | exact st.c5 (by first | decide | omega) | exact st.c6 (by first | decide | omega) | exact st.c7 (by first | decide | omega) | exact st.c8 (by first | decide | omega)), (by first | assumption | exact st.c0 (by first | decide | omega) | exact st.c1 (by first | decide | omega) | exact st.c2 (by first | decide | omega) | exact st.c3 (by first | decide | omega) | exact st.c4 (by first | decide | omega) | exact st.c5 (by first | decide | omega) | exact st.c6 (by first | decide | omega) | exact st.c7 (by first | decide | omega) | exact st.c8 (by first | decide | omega)), (by first | assumption | exact st.c0 (by first | decide | omega) | exact st.c1 (by first | decide | omega) | exact st.c2 (by first | decide | omega) | exact st.c3 (by first | decide | omega) | exact st.c4 (by first | decide | omega) | exact st.c5 (by first | decide | omega) | exact st.c6 (by first | decide | omega) | exact st.c7 (by first | decide | omega) | exact st.c8 (by first | decide | omega)), (by first | assumption | exact st.c0 (by first | decide | omega) | exact st.c1 (by first | decide | omega) | exact st.c2 (by first | decide | omega) | exact st.c3 (by first | decide | omega) | exact st.c4 (by first | decide | omega) | exact st.c5 (by first | decide | omega) | exact st.c6 (by first | decide | omega) | exact st.c7 (by first | decide | omega) | exact st.c8 (by first | decide | omega)), (by first | assumption | exact st.c0 (by first | decide | omega) | exact st.c1 (by first | decide | omega) | exact st.c2 (by first | decide | omega) | exact st.c3 (by first | decide | omega) | exact st.c4 (by first | decide | omega) | exact st.c5 (by first | decide | omega) | exact st.c6 (by first | decide | omega) | exact st.c7 (by first | decide | omega) | exact st.c8 (by first | decide | omega)), (by first | assumption | exact st.c0 (by first | decide | omega) | exact st.c1 (by first | decide | omega) | exact st.c2 (by first | decide | omega) | exact st.c3 (by first | decide | omega) | exact st.c4 (by first | decide | omega) | exact st.c5 (by first | decide | omega) | exact st.c6 (by first | decide | omega) | exact st.c7 (by first | decide | omega) | exact st.c8 (by first | decide | omega)), (by first | assumption | exact st.c0 (by first | decide | omega) | exact st.c1 (by first | decide | omega) | exact st.c2 (by first | decide | omega) | exact st.c3 (by first | decide | omega) | exact st.c4 (by first | decide | omega) | exact st.c5 (by first | decide | omega) | exact st.c6 (by first | decide | omega) | exact st.c7 (by first | decide | omega) | exact st.c8 (by first | decide | omega)), (by first | assumption | exact st.c0 (by first | decide | omega) | exact st.c1 (by first | decide | omega) | exact st.c2 (by first | decide | omega) | exact st.c3 (by first | decide | omega) | exact st.c4 (by first | decide | omega) | exact st.c5 (by first | decide | omega) | exact st.c6 (by first | decide | omega) | exact st.c7 (by first | decide | omega) | exact st.c8 (by first | decide | omega)), (by first | assumption | exact st.c0 (by first | decide | omega) | exact st.c1 (by first | decide | omega) | exact st.c2 (by first | decide | omega) | exact st.c3 (by first | decide | omega) | exact st.c4 (by first | decide | omega) | exact st.c5 (by first | decide | omega) | exact st.c6 (by first | decide | omega) | exact st.c7 (by first | decide | omega) | exact st.c8 (by first | decide | omega)), (by first | assumption | exact st.c0 (by first | decide | omega) | exact st.c1 (by first | decide | omega) | exact st.c2 (by first | decide | omega) | exact st.c3 (by first | decide | omega) | exact st.c4 (by first | decide | omega) | exact st.c5 (by first | decide | omega) | exact st.c6 (by first | decide | omega) | exact st.c7 (by first | decide | omega) | exact st.c8 (by first | decide | omega)), (by first | assumption | exact st.c0 (by first | decide | omega) | exact st.c1 (by first | decide | omega) | exact st.c2 (by first | decide | omega) | exact st.c3 (by first | decide | omega) | exact st.c4 (by first | decide | omega) | exact st.c5 (by first | decide | omega) | exact st.c6 (by first | decide | omega) | exact st.c7 (by first | decide | omega) | exact st.c8 (by first | decide | omega)), (by first | assumption | exact st.c0 (by first | decide | omega) | exact st.c1 (by first | decide | omega) | exact st.c2 (by first | decide | omega) | exact st.c3 (by first | decide | omega) | exact st.c4 (by first | decide | omega) | exact st.c5 (by first | decide | omega) | exact st.c6 (by first | decide | omega) | exact st.c7 (by first | decide | omega) | exact st.c8 (by first | decide | omega)), (by first | assumption | exact st.c0 (by first | decide | omega) | exact st.c1 (by first | decide | omega) | exact st.c2 (by first | decide | omega) | exact st.c3 (by first | decide | omega) | exact st.c4 (by first | decide | omega) | exact st.c5 (by first | decide | omega) | exact st.c6 (by first | decide | omega) | exact st.c7 (by first | decide | omega) | exact st.c8 (by first | decide | omega)), (by first | assumption | exact st.c0 (by first | decide | omega) | exact st.c1 (by first | decide | omega) | exact st.c2 (by first | decide | omega) | exact st.c3 (by first | decide | omega) | exact st.c4 (by first | decide | omega) | exact st.c5 (by first | decide | omega) | exact st.c6 (by first | decide | omega) | exact st.c7 (by first | decide | omega) | exact st.c8 (by first | decide | omega)), (by first | assumption | exact st.c0 (by first | decide | omega) | exact st.c1 (by first | decide | omega) | exact st.c2 (by first | decide | omega) | exact st.c3 (by first | decide | omega) | exact st.c4 (by first | decide | omega) | exact st.c5 (by first | decide | omega) | exact st.c6 (by first | decide | omega) | exact st.c7 (by first | decide | omega) | exact st.c8 (by first | decide | omega)), (by first | assumption | exact st.c0 (by first | decide | omega) | exact st.c1 (by first | decide | omega) | exact st.c2 (by first | decide | omega) | exact st.c3 (by first | decide | omega) | exact st.c4 (by first | decide | omega) | exact st.c5 (by first | decide | omega) | exact st.c6 (by first | decide | omega) | exact st.c7 (by first | decide | omega) | exact st.c8 (by first | decide | omega)), (by first | assumption | exact st.c0 (by first | decide | omega) | exact st.c1 (by first | decide | omega) | exact st.c2 (by first | decide | omega) | exact st.c3 (by first | decide | omega) | exact st.c4 (by first | decide | omega) | exact st.c5 (by first | decide | omega) | exact st.c6 (by first | decide | omega) | exact st.c7 (by first | decide | omega) | exact st.c8 (by first | decide | omega)), trivial⟩ ?_
    exact ⟨_, rfl, .inl ⟨_, _, rfl⟩, st.drop⟩
  by_cases htot : bs.getD 2 0 * 256 + bs.getD 3 0 < ((q * 4 : Nat) : Int)
  · skip
    refine enter [.slice (some ⟨b, o, none⟩) bs.length c] Tryd.func28 rfl Tryd.ntmps28 rfl ?_
    show WC _ _ _ 95 [] [(0, .slice (some ⟨b, o, none⟩) bs.length c)] _
    refine WC.seq fun K253 hK253 => ?_
    -- region 0
    refine WC.region ?_
    -- R0.0 2 := ipv4.go:25 alloc
    refine WL.alloc (m := 17) st ty_zero36 rfl rfl rfl ?_
    intro b2 w st
    -- R0.1 3 := ipv4.go:25 assign
    refine WL.v (by first | exact r_assign (v := .slice _ _ _) rfl | exact r_assign rfl) rfl rfl rfl ?_
    -- R0.2 4 := ipv4.go:25 assign
    refine WL.v (by first | exact r_assign (v := .nilIface) rfl | exact r_assign (v := .iface _ _) rfl | exact r_assign rfl) rfl rfl rfl ?_
    refine WL.fin hK253 (fun _ _ h => h) ?_
    refine WC.seq fun K254 hK254 => ?_
    refine WC.seq fun K255 hK255 => ?_
    -- region 1
    refine WC.region ?_
    -- R1.0 8 := ipv4.go:26 move
    refine WL.v (by first | exact r_move (v := .slice _ _ _) rfl | exact r_move rfl) rfl rfl rfl ?_
    -- R1.1 9 := ipv4.go:26 call
    refine WL.v (by exact r_len ty_usl25 rfl) rfl rfl rfl ?_
    -- R1.2 10 := ipv4.go:26 binOp
    refine WL.v (by first | exact r_lss rfl rfl (decide_eq_true (by omega)) | exact r_lss rfl rfl (decide_eq_false (by omega)) | exact r_lss rfl rfl rfl) rfl rfl rfl ?_
    refine WL.fin hK255 (fun _ _ h => h) ?_
    refine WC.condF rfl rfl ?_
    refine WC.skipF hK254 (fun _ _ h => h) ?_
    refine WC.seq fun K256 hK256 => ?_
    refine WC.seq fun K257 hK257 => ?_
    -- region 3
    refine WC.region ?_
    -- R3.0 13 := ipv4.go:29 move
    refine WL.v (by first | exact r_move (v := .slice _ _ _) rfl | exact r_move rfl) rfl rfl rfl ?_
    -- R3.1 14 := ipv4.go:29 indexAddr
    refine WL.v (by exact r_indexS (j := 0) ty_sl25 rfl rfl rfl (by first | decide | omega)) rfl rfl rfl ?_
    -- R3.2 15 := ipv4.go:29 load
    refine WL.v (by exact r_load1 ty_one5 rfl (hrd [_] _ st 0 (by omega))) rfl rfl rfl ?_
    -- R3.3 16 := ipv4.go:29 binOp
    refine WL.v (by exact r_shr (r := bs.getD 0 0 / 16) rfl rfl (by omega) (shr_u 4)) rfl rfl rfl ?_
    -- R3.4 17 := ipv4.go:29 binOp
    refine WL.v (by first | exact r_neq rfl rfl (decide_eq_true (by omega)) | exact r_neq rfl rfl (decide_eq_false (by omega)) | exact r_neq rfl rfl rfl) rfl rfl rfl ?_
    refine WL.fin hK257 (fun _ _ h => h) ?_
    refine WC.condF rfl rfl ?_
    refine WC.skipF hK256 (fun _ _ h => h) ?_
    refine WC.seq fun K258 hK258 => ?_
    -- region 5
    refine WC.region ?_
    -- R5.0 20 := ipv4.go:32 move
    refine WL.v (by first | exact r_move (v := .slice _ _ _) rfl | exact r_move rfl) rfl rfl rfl ?_
    -- R5.1 21 := ipv4.go:32 indexAddr
    refine WL.v (by exact r_indexS (j := 0) ty_sl25 rfl rfl rfl (by first | decide | omega)) rfl rfl rfl ?_
    -- R5.2 22 := ipv4.go:32 load
    refine WL.v (by exact r_load1 ty_one5 rfl (hrd [_] _ st 0 (by omega))) rfl rfl rfl ?_
    -- R5.3 23 := ipv4.go:32 binOp
    refine WL.v (by exact r_and (r := (q : Int)) rfl rfl ((congrArg IntKind.u8.wrap ((and_u 8 4 g0.1 (by omega) (by omega)).trans hq)).trans (wu8 (by omega) (by omega)))) rfl rfl rfl ?_
    -- R5.4 24 := ipv4.go:32 convert
    refine WL.v (by first | exact r_conv ty_cv5_3 rfl (wi64 (by omega) (by omega)) | exact r_conv ty_cv5_3 rfl rfl) rfl rfl rfl ?_
    -- R5.5 25 := ipv4.go:32 binOp
    refine WL.v (by exact r_mul (r := ((q * 4 : Nat) : Int)) rfl rfl (by rw [wi64 (by omega) (by omega)]; omega)) rfl rfl rfl ?_
    -- R5.6 5 := ipv4.go:32 assign
    refine WL.v (by first | exact r_assign (v := .int _ _) rfl | exact r_assign rfl) rfl rfl rfl ?_
    refine WL.fin hK258 (fun _ _ h => h) ?_
    refine WC.seq fun K259 hK259 => ?_
    refine WC.seq fun K260 hK260 => ?_
    -- region 6
    refine WC.region ?_
    -- R6.0 26 := ipv4.go:33 move
    refine WL.v (by first | exact r_move (v := .int _ _) rfl | exact r_move rfl) rfl rfl rfl ?_
    -- R6.1 27 := ipv4.go:33 binOp
    refine WL.v (by first | exact r_lss rfl rfl (decide_eq_true (by omega)) | exact r_lss rfl rfl (decide_eq_false (by omega)) | exact r_lss rfl rfl rfl) rfl rfl rfl ?_
    refine WL.fin hK260 (fun _ _ h => h) ?_
    refine WC.condF rfl rfl ?_
    refine WC.skipF hK259 (fun _ _ h => h) ?_
    refine WC.seq fun K261 hK261 => ?_
    refine WC.seq fun K262 hK262 => ?_
    -- region 8
    refine WC.region ?_
    -- R8.0 30 := ipv4.go:36 move
    refine WL.v (by first | exact r_move (v := .int _ _) rfl | exact r_move rfl) rfl rfl rfl ?_
    -- R8.1 31 := ipv4.go:36 move
    refine WL.v (by first | exact r_move (v := .slice _ _ _) rfl | exact r_move rfl) rfl rfl rfl ?_
    -- R8.2 32 := ipv4.go:36 call
    refine WL.v (by exact r_len ty_usl25 rfl) rfl rfl rfl ?_
    -- R8.3 33 := ipv4.go:36 binOp
    refine WL.v (by first | exact r_gtr rfl rfl (decide_eq_true (by omega)) | exact r_gtr rfl rfl (decide_eq_false (by omega)) | exact r_gtr rfl rfl rfl) rfl rfl rfl ?_
    refine WL.fin hK262 (fun _ _ h => h) ?_
    refine WC.condF rfl rfl ?_
    refine WC.skipF hK261 (fun _ _ h => h) ?_
    refine WC.seq fun K263 hK263 => ?_
    -- region 10 (draws)
    refine WC.tailS 3 st ty_mixed (by kernel_rfl) fun w st Kq hKq => ?_
    -- R10.0 36 := ipv4.go:39 load
    refine SL.v (by exact r_loadL (vs := []) ty_agg83 rfl trivial) rfl rfl rfl ?_
    -- R10.1 37 := ipv4.go:39 move
    refine SL.v (by first | exact r_move (v := .slice _ _ _) rfl | exact r_move rfl) rfl rfl rfl ?_
    -- R10.2 38 := ipv4.go:39 slice
    refine SL.v (by first | exact r_slS (l := 2) (h := 4) ty_sl25 rfl ⟨_, rfl⟩ ⟨_, rfl⟩ rfl (fun h => by first | rfl | cases h) (by omega) (by omega) (by omega) (by omega) | exact r_sl (l := 2) (h := 4) ty_sl25 rfl ⟨_, rfl⟩ ⟨_, rfl⟩ rfl (fun h => by first | rfl | cases h) (by omega) (by omega) (by omega)) rfl rfl rfl ?_
    refine SL.fin hKq ?_
    -- R10.3 39 := ipv4.go:39 call
    refine WL.call (r_call ty_call38 rfl) rfl rfl rfl (u16_at b o 2 _ _ bs (bs.getD 2 0 * 256 + bs.getD 3 0) rfl (by omega) rfl hbyt (moreL hrd [_]) st) ?_
    rintro _ w ⟨rfl, st⟩
    -- R10.4 6 := ipv4.go:39 assign
    refine WL.v (by first | exact r_assign (v := .int _ _) rfl | exact r_assign rfl) rfl rfl rfl ?_
    refine WL.fin hK263 (fun _ _ h => h) ?_
    refine WC.seq fun K264 hK264 => ?_
    refine WC.seq fun K265 hK265 => ?_
    -- region 11
    refine WC.region ?_
    -- R11.0 40 := ipv4.go:40 move
    refine WL.v (by first | exact r_move (v := .int _ _) rfl | exact r_move rfl) rfl rfl rfl ?_
    -- R11.1 41 := ipv4.go:40 convert
    refine WL.v (by first | exact r_conv ty_cv30_3 rfl (wi64 (by omega) (by omega)) | exact r_conv ty_cv30_3 rfl rfl) rfl rfl rfl ?_
    -- R11.2 42 := ipv4.go:40 move
    refine WL.v (by first | exact r_move (v := .int _ _) rfl | exact r_move rfl) rfl rfl rfl ?_
    -- R11.3 43 := ipv4.go:40 binOp
    refine WL.v (by first | exact r_lss rfl rfl (decide_eq_true (by omega)) | exact r_lss rfl rfl (decide_eq_false (by omega)) | exact r_lss rfl rfl rfl) rfl rfl rfl ?_
    refine WL.fin hK265 (fun _ _ h => h) ?_
    refine WC.condT rfl rfl ?_
    refine WC.seq fun K266 hK266 => ?_
    -- region 12
    refine WC.region ?_
    -- R12.0 44 := ipv4.go:41 build
    refine WL.v (by exact r_build (ps := []) (vs := [_, _, _, _, _, _, _, _, _, _, _, _, _, _, _, _, _]) ty_pl36 ty_zero36 rfl (fill_nil)) rfl rfl rfl ?_
    -- R12.1 45 := ipv4.go:41 load
    refine WL.v (by exact r_load1 ty_one47 rfl (st.old (fun h => h) (hE 6 (by decide)))) rfl rfl rfl ?_
    -- R12.2 None := ipv4.go:41 store
    first | refine WL.storeW (vs := [_, _, _, _, _, _, _, _, _, _, _, _, _, _, _, _, _]) st ty_agg36 rfl rfl rfl rfl rfl rfl ?_ | refine WL.storeL (vs := [_, _, _, _, _, _, _, _, _, _, _, _, _, _, _, _, _]) st ty_agg36 rfl rfl rfl rfl (by first | decide | omega) rfl rfl ?_ | refine WL.storeW (vs := [_, _, _, _, _, _, _, _, _, _, _, _, _, _, _, _, _]) st.front1 ty_agg36 rfl rfl rfl rfl rfl rfl ?_ | refine WL.storeL (vs := [_, _, _, _, _, _, _, _, _, _, _, _, _, _, _, _, _]) st.front1 ty_agg36 rfl rfl rfl rfl (by first | decide | omega) rfl rfl ?_ | refine WL.storeW (vs := [_, _, _, _, _, _, _, _, _, _, _, _, _, _, _, _, _]) st.front2 ty_agg36 rfl rfl rfl rfl rfl rfl ?_ | refine WL.storeL (vs := [_, _, _, _, _, _, _, _, _, _, _, _, _, _, _, _, _]) st.front2 ty_agg36 rfl rfl rfl rfl (by first | decide | omega) rfl rfl ?_ | refine WL.storeW (vs := [_, _, _, _, _, _, _, _, _, _, _, _, _, _, _, _, _]) st.front3 ty_agg36 rfl rfl rfl rfl rfl rfl ?_ | refine WL.storeL (vs := [_, _, _, _, _, _, _, _, _, _, _, _, _, _, _, _, _]) st.front3 ty_agg36 rfl rfl rfl rfl (by first | decide | omega) rfl rfl ?_ | refine WL.storeW (vs := [_, _, _, _, _, _, _, _, _, _, _, _, _, _, _, _, _]) st.front4 ty_agg36 rfl rfl rfl rfl rfl rfl ?_ | refine WL.storeL (vs := [_, _, _, _, _, _, _, _, _, _, _, _, _, _, _, _, _]) st.front4 ty_agg36 rfl rfl rfl rfl (by first | decide | omega) rfl rfl ?_ | refine WL.storeW (vs := [_, _, _, _, _, _, _, _, _, _, _, _, _, _, _, _, _]) st.front5 ty_agg36 rfl rfl rfl rfl rfl rfl ?_ | refine WL.storeL (vs := [_, _, _, _, _, _, _, _, _, _, _, _, _, _, _, _, _]) st.front5 ty_agg36 rfl rfl rfl rfl (by first | decide | omega) rfl rfl ?_ | refine WL.storeW (vs := [_, _, _, _, _, _, _, _, _, _, _, _, _, _, _, _, _]) st.front6 ty_agg36 rfl rfl rfl rfl rfl rfl ?_ | refine WL.storeL (vs := [_, _, _, _, _, _, _, _, _, _, _, _, _, _, _, _, _]) st.front6 ty_agg36 rfl rfl rfl rfl (by first | decide | omega) rfl rfl ?_ | refine WL.storeW (vs := [_, _, _, _, _, _, _, _, _, _, _, _, _, _, _, _, _]) st.front7 ty_agg36 rfl rfl rfl rfl rfl rfl ?_ | refine WL.storeL (vs := [_, _, _, _, _, _, _, _, _, _, _, _, _, _, _, _, _]) st.front7 ty_agg36 rfl rfl rfl rfl (by first | decide | omega) rfl rfl ?_ | refine WL.storeW (vs := [_, _, _, _, _, _, _, _, _, _, _, _, _, _, _, _, _]) st.front8 ty_agg36 rfl rfl rfl rfl rfl rfl ?_ | refine WL.storeL (vs := [_, _, _, _, _, _, _, _, _, _, _, _, _, _, _, _, _]) st.front8 ty_agg36 rfl rfl rfl rfl (by first | decide | omega) rfl rfl ?_
    intro w st
    -- R12.3 3 := ipv4.go:41 assign
    refine WL.v (by first | exact r_assign (v := .slice _ _ _) rfl | exact r_assign rfl) rfl rfl rfl ?_
    -- R12.4 4 := ipv4.go:41 assign
    refine WL.v (by first | exact r_assign (v := .nilIface) rfl | exact r_assign (v := .iface _ _) rfl | exact r_assign rfl) rfl rfl rfl ?_
    refine WL.fin hK266 (fun _ _ h => h) ?_
    refine WC.retCTT (vs := [_, _, _, _, _, _, _, _, _, _, _, _, _, _, _, _, _]) Tryd.results28 (fun _ _ h => h) rfl ty_agg36 rfl ⟨(by first | assumption | exact st.c0 (by first | decide | omega) | exact st.c1 (by first | decide | omega) | exact st.c2 (by first | decide | omega) | exact st.c3 (by first | decide | omega) | exact st.c4 (by first | decide | omega) | exact st.c5 (by first | decide | omega) | exact st.c6 (by first | decide | omega) | exact st.c7 (by first | decide | omega) | exact st.c8 (by first | decide | omega)), (by first | assumption | exact st.c0 (by first | decide | omega) | exact st.c1 (by first | decide | omega) | exact st.c2 (by first | decide | omega) | exact st.c3 (by first | decide | omega) | exact st.c4 (by first | decide | omega) | exact st.c5 (by first | decide | omega) | exact st.c6 (by first | decide | omega) | exact st.c7 (by first | decide | omega) | exact st.c8 (by first | decide | omega)), (by first | assumption | exact st.c0 (by first | decide | omega) | exact st.c1 (by first | decide | omega) | exact st.c2 (by first | decide | omega) | exact st.c3 (by first | decide | omega) | exact st.c4 (by first | decide | omega) | exact st.c5 (by first | decide | omega) | exact st.c6 (by first | decide | omega) | exact st.c7 (by first | decide | omega) | exact st.c8 (by first | decide | omega)), (by first | assumption | exact st.c0 (by first | decide | omega) | exact st.c1 (by first | decide | omega) | exact st.c2 (by first | decide | omega) | exact st.c3 (by first | decide | omega) | exact st.c4 (by first | decide | omega) | exact st.c5 (by first | decide | omega) | exact st.c6 (by first | decide | omega) | exact st.c7 (by first | decide | omega) | exact st.c8 (by first | decide | omega)), (by first | assumption | exact st.c0 (by first | decide | omega) | exact st.c1 (by first | decide | omega) | exact st.c2 (by first | decide | omega) | exact st.c3 (by first | decide | omega) | exact st.c4 (by first | decide | omega) | exact st.c5 (by first | decide | omega) | exact st.c6 (by first | decide | omega) | exact st.c7 (by first | decide | omega) | exact st.c8 (by first | decide | omega)), (by first | assumption | exact st.c0 (by first | decide | omega) | exact st.c1 (by first | decide | omega) | exact st.c2 (by first | decide | omega) | exact st.c3 (by first | decide | omega) | exact st.c4 (by first | decide | omega) | exact st.c5 (by first | decide | omega) | exact st.c6 (by first | decide | omega) | exact st.c7 (by first | decide | omega) | exact st.c8 (by first | decide | omega)), (by first | assumption | exact st.c0 (by first | decide | omega) | exact st.c1 (by first | decide | omega) | exact st.c2 (by first | decide | omega) | exact st.c3 (by first | decide | omega) | exact st.c4 (by first | decide | omega) | exact st.c5 (by first | decide | omega) | exact st.c6 (by first | decide | omega) | exact st.c7 (by first | decide | omega) | exact st.c8 (by first | decide | omega)), (by first | assumption | exact st.c0 (by first | decide | omega) | exact st.c1 (by first | decide | omega) | exact st.c2 (by first | decide | omega) | exact st.c3 (by first | decide | omega) | exact st.c4 (by first | decide | omega) | exact st.c5 (by first | decide | omega) | exact st.c6 (by first | decide | omega) | exact st.c7 (by first | decide | omega) | exact st.c8 (by first | decide | omega)), (by first | assumption | exact st.c0 (by first | decide | omega) | exact st.c1 (by first | decide | omega) | exact st.c2 (by first | decide | omega) | exact st.c3 (by first | decide | omega) | exact st.c4 (by first | decide | omega) | exact st.c5 (by first | decide | omega) | exact st.c6 (by first | decide | omega) | exact st.c7 (by first | decide | omega) | exact st.c8 (by first | decide | omega)), (by first | assumption | exact st.c0 (by first | decide | omega) | exact st.c1 (by first | decide | omega) | exact st.c2 (by first | decide | omega) | exact st.c3 (by first | decide | omega) | exact st.c4 (by first | decide | omega) | exact st.c5 (by first | decide | omega) | exact st.c6 (by first | decide | omega) | exact st.c7 (by first | decide | omega) | exact st.c8 (by first | decide | omega)), (by first | assumption | exact st.c0 (by first | decide | omega) | exact st.c1 (by first | decide | omega) | exact st.c2 (by first | decide | omega) | exact st.c3 (by first | decide | omega) | exact st.c4 (by first | decide | omega) | exact st.c5 (by first | decide | omega) | exact st.c6 (by first | decide | omega) | exact st.c7 (by first | decide | omega) | exact st.c8 (by first | decide | omega)), (by first | assumption | exact st.c0 (by first | decide | omega) | exact st.c1 (by first | decide | omega) | exact st.c2 (by first | decide | omega) | exact st.c3 (by first | decide | omega) | exact st.c4 (by first | decide | omega) | exact st.c5 (by first | decide | omega) | exact st.c6 (by first | decide | omega) | exact st.c7 (by first | decide | omega) | exact st.c8 (by first | decide | omega)), (by first | assumption | exact st.c0 (by first | decide | omega) | exact st.c1 (by first | decide | omega) | exact st.c2 (by first | decide | omega) | exact st.c3 (by first | decide | omega) | exact st.c4 (by first | decide | omega) | exact st.c5 (by first | decide | omega) | exact st.c6 (by first | decide | omega) | exact st.c7 (by first | decide | omega) | exact st.c8 (by first | decide | omega)), (by first | assumption | exact st.c0 (by first | decide | omega) | exact st.c1 (by first | decide | omega) | exact st.c2 (by first | decide | omega) | exact st.c3 (by first | decide | omega) | exact st.c4 (by first | decide | omega) | exact st.c5 (by first | decide | omega) | exact st.c6 (by first | decide | omega) | exact st.c7 (by first | decide | omega) | exact st.c8 (by first | decide | omega)), (by first | assumption | exact st.c0 (by first | decide | omega) | exact st.c1 (by first | decide | omega) | exact st.c2 (by first | decide | omega) | exact st.c3 (by first | decide | omega) | exact st.c4 (by first | decide | omega) | exact st.c5 (by first | decide | omega) | exact st.c6 (by first | decide | omega) | exact st.c7 (by first | decide | omega) | exact st.c8 (by first | decide | omega)), (by first | assumption | exact st.c0 (by first | decide | omega) | exact st.c1 (by first | decide | omega) | exact st.c2 (by first | decide | omega) | exact st.c3 (by first | decide | omega) | exact st.c4 (by first | decide | omega) | exact st.c5 (by first | decide | omega) | exact st.c6 (by first | decide | omega) | exact st.c7 (by first | decide | omega) | exact st.c8 (by first | decide | omega)), (by first | assumption | exact st.c0 (by first | decide | omega) | exact st.c1 (by first | decide | omega) | exact st.c2 (by first | decide | omega) | exact st.c3 (by first | decide | omega) | exact st.c4 (by first | decide | omega) | exact st.c5 (by first | decide | omega) | exact st.c6 (by first | decide | omega) | exact st.c7 (by first | decide | omega) | exact st.c8 (by first | decide | omega)), trivial⟩ ?_
    exact ⟨_, rfl, .inl ⟨_, _, rfl⟩, st.drop⟩
  have hI : IpIn bs := ⟨by omega, hv, by omega, by omega, by rw [hqh]; omega⟩
  have e2 : (SV.sub ⟨some ⟨b, o, none⟩, c, b, o, bs⟩ (ipHl bs) bs.length c).v = .slice (slA (some ⟨b, o, none⟩) (q * 4) c 1) (bs.length - q * 4) (c - q * 4) := by rw [hqh]; exact SV.sub_v (Nat.le_refl _)
  by_cases hopt : 20 < q * 4
  · skip
    refine enter [.slice (some ⟨b, o, none⟩) bs.length c] Tryd.func28 rfl Tryd.ntmps28 rfl ?_
    show WC _ _ _ 95 [] [(0, .slice (some ⟨b, o, none⟩) bs.length c)] _
    refine WC.seq fun K267 hK267 => ?_
    -- region 0
    refine WC.region ?_
    -- R0.0 2 := ipv4.go:25 alloc
    refine WL.alloc (m := 17) st ty_zero36 rfl rfl rfl ?_
    intro b2 w st
    -- R0.1 3 := ipv4.go:25 assign
    refine WL.v (by first | exact r_assign (v := .slice _ _ _) rfl | exact r_assign rfl) rfl rfl rfl ?_
    -- R0.2 4 := ipv4.go:25 assign
    refine WL.v (by first | exact r_assign (v := .nilIface) rfl | exact r_assign (v := .iface _ _) rfl | exact r_assign rfl) rfl rfl rfl ?_
    refine WL.fin hK267 (fun _ _ h => h) ?_
    refine WC.seq fun K268 hK268 => ?_
    refine WC.seq fun K269 hK269 => ?_
    -- region 1
    refine WC.region ?_
    -- R1.0 8 := ipv4.go:26 move
    refine WL.v (by first | exact r_move (v := .slice _ _ _) rfl | exact r_move rfl) rfl rfl rfl ?_
    -- R1.1 9 := ipv4.go:26 call
    refine WL.v (by exact r_len ty_usl25 rfl) rfl rfl rfl ?_
    -- R1.2 10 := ipv4.go:26 binOp
    refine WL.v (by first | exact r_lss rfl rfl (decide_eq_true (by omega)) | exact r_lss rfl rfl (decide_eq_false (by omega)) | exact r_lss rfl rfl rfl) rfl rfl rfl ?_
    refine WL.fin hK269 (fun _ _ h => h) ?_
    refine WC.condF rfl rfl ?_
    refine WC.skipF hK268 (fun _ _ h => h) ?_
    refine WC.seq fun K270 hK270 => ?_
    refine WC.seq fun K271 hK271 => ?_
    -- region 3
    refine WC.region ?_
    -- R3.0 13 := ipv4.go:29 move
    refine WL.v (by first | exact r_move (v := .slice _ _ _) rfl | exact r_move rfl) rfl rfl rfl ?_
    -- R3.1 14 := ipv4.go:29 indexAddr
    refine WL.v (by exact r_indexS (j := 0) ty_sl25 rfl rfl rfl (by first | decide | omega)) rfl rfl rfl ?_
    -- R3.2 15 := ipv4.go:29 load
    refine WL.v (by exact r_load1 ty_one5 rfl (hrd [_] _ st 0 (by omega))) rfl rfl rfl ?_
    -- R3.3 16 := ipv4.go:29 binOp
    refine WL.v (by exact r_shr (r := bs.getD 0 0 / 16) rfl rfl (by omega) (shr_u 4)) rfl rfl rfl ?_
    -- R3.4 17 := ipv4.go:29 binOp
    refine WL.v (by first | exact r_neq rfl rfl (decide_eq_true (by omega)) | exact r_neq rfl rfl (decide_eq_false (by omega)) | exact r_neq rfl rfl rfl) rfl rfl rfl ?_
    refine WL.fin hK271 (fun _ _ h => h) ?_
    refine WC.condF rfl rfl ?_
    refine WC.skipF hK270 (fun _ _ h => h) ?_
    refine WC.seq fun K272 hK272 => ?_
    -- region 5
    refine WC.region ?_
    -- R5.0 20 := ipv4.go:32 move
    refine WL.v (by first | exact r_move (v := .slice _ _ _) rfl | exact r_move rfl) rfl rfl rfl ?_
    -- R5.1 21 := ipv4.go:32 indexAddr
    refine WL.v (by exact r_indexS (j := 0) ty_sl25 rfl rfl rfl (by first | decide | omega)) rfl rfl rfl ?_
    -- R5.2 22 := ipv4.go:32 load
    refine WL.v (by exact r_load1 ty_one5 rfl (hrd [_] _ st 0 (by omega))) rfl rfl rfl ?_
    -- R5.3 23 := ipv4.go:32 binOp
    refine WL.v (by exact r_and (r := (q : Int)) rfl rfl ((congrArg IntKind.u8.wrap ((and_u 8 4 g0.1 (by omega) (by omega)).trans hq)).trans (wu8 (by omega) (by omega)))) rfl rfl rfl ?_
    -- R5.4 24 := ipv4.go:32 convert
    refine WL.v (by first | exact r_conv ty_cv5_3 rfl (wi64 (by omega) (by omega)) | exact r_conv ty_cv5_3 rfl rfl) rfl rfl rfl ?_
    -- R5.5 25 := ipv4.go:32 binOp
    refine WL.v (by exact r_mul (r := ((q * 4 : Nat) : Int)) rfl rfl (by rw [wi64 (by omega) (by omega)]; omega)) rfl rfl rfl ?_
    -- R5.6 5 := ipv4.go:32 assign
    refine WL.v (by first | exact r_assign (v := .int _ _) rfl | exact r_assign rfl) rfl rfl rfl ?_
    refine WL.fin hK272 (fun _ _ h => h) ?_
    refine WC.seq fun K273 hK273 => ?_
    refine WC.seq fun K274 hK274 => ?_
    -- region 6
    refine WC.region ?_
    -- R6.0 26 := ipv4.go:33 move
    refine WL.v (by first | exact r_move (v := .int _ _) rfl | exact r_move rfl) rfl rfl rfl ?_
    -- R6.1 27 := ipv4.go:33 binOp
    refine WL.v (by first | exact r_lss rfl rfl (decide_eq_true (by omega)) | exact r_lss rfl rfl (decide_eq_false (by omega)) | exact r_lss rfl rfl rfl) rfl rfl rfl ?_
    refine WL.fin hK274 (fun _ _ h => h) ?_
    refine WC.condF rfl rfl ?_
    refine WC.skipF hK273 (fun _ _ h => h) ?_
    refine WC.seq fun K275 hK275 => ?_
    refine WC.seq fun K276 hK276 => ?_
    -- region 8
    refine WC.region ?_
    -- R8.0 30 := ipv4.go:36 move
    refine WL.v (by first | exact r_move (v := .int _ _) rfl | exact r_move rfl) rfl rfl rfl ?_
    -- R8.1 31 := ipv4.go:36 move
    refine WL.v (by first | exact r_move (v := .slice _ _ _) rfl | exact r_move rfl) rfl rfl rfl ?_
    -- R8.2 32 := ipv4.go:36 call
    refine WL.v (by exact r_len ty_usl25 rfl) rfl rfl rfl ?_
    -- R8.3 33 := ipv4.go:36 binOp
    refine WL.v (by first | exact r_gtr rfl rfl (decide_eq_true (by omega)) | exact r_gtr rfl rfl (decide_eq_false (by omega)) | exact r_gtr rfl rfl rfl) rfl rfl rfl ?_
    refine WL.fin hK276 (fun _ _ h => h) ?_
    refine WC.condF rfl rfl ?_
    refine WC.skipF hK275 (fun _ _ h => h) ?_
    refine WC.seq fun K277 hK277 => ?_
    -- region 10 (draws)
    refine WC.tailS 3 st ty_mixed (by kernel_rfl) fun w st Kq hKq => ?_
    -- R10.0 36 := ipv4.go:39 load
    refine SL.v (by exact r_loadL (vs := []) ty_agg83 rfl trivial) rfl rfl rfl ?_
    -- R10.1 37 := ipv4.go:39 move
    refine SL.v (by first | exact r_move (v := .slice _ _ _) rfl | exact r_move rfl) rfl rfl rfl ?_
    -- R10.2 38 := ipv4.go:39 slice
    refine SL.v (by first | exact r_slS (l := 2) (h := 4) ty_sl25 rfl ⟨_, rfl⟩ ⟨_, rfl⟩ rfl (fun h => by first | rfl | cases h) (by omega) (by omega) (by omega) (by omega) | exact r_sl (l := 2) (h := 4) ty_sl25 rfl ⟨_, rfl⟩ ⟨_, rfl⟩ rfl (fun h => by first | rfl | cases h) (by omega) (by omega) (by omega)) rfl rfl rfl ?_
    refine SL.fin hKq ?_
    -- R10.3 39 := ipv4.go:39 call
    refine WL.call (r_call ty_call38 rfl) rfl rfl rfl (u16_at b o 2 _ _ bs (bs.getD 2 0 * 256 + bs.getD 3 0) rfl (by omega) rfl hbyt (moreL hrd [_]) st) ?_
    rintro _ w ⟨rfl, st⟩
    -- R10.4 6 := ipv4.go:39 assign
    refine WL.v (by first | exact r_assign (v := .int _ _) rfl | exact r_assign rfl) rfl rfl rfl ?_
    refine WL.fin hK277 (fun _ _ h => h) ?_
    refine WC.seq fun K278 hK278 => ?_
    refine WC.seq fun K279 hK279 => ?_
    -- region 11
    refine WC.region ?_
    -- R11.0 40 := ipv4.go:40 move
    refine WL.v (by first | exact r_move (v := .int _ _) rfl | exact r_move rfl) rfl rfl rfl ?_
    -- R11.1 41 := ipv4.go:40 convert
    refine WL.v (by first | exact r_conv ty_cv30_3 rfl (wi64 (by omega) (by omega)) | exact r_conv ty_cv30_3 rfl rfl) rfl rfl rfl ?_
    -- R11.2 42 := ipv4.go:40 move
    refine WL.v (by first | exact r_move (v := .int _ _) rfl | exact r_move rfl) rfl rfl rfl ?_
    -- R11.3 43 := ipv4.go:40 binOp
    refine WL.v (by first | exact r_lss rfl rfl (decide_eq_true (by omega)) | exact r_lss rfl rfl (decide_eq_false (by omega)) | exact r_lss rfl rfl rfl) rfl rfl rfl ?_
    refine WL.fin hK279 (fun _ _ h => h) ?_
    refine WC.condF rfl rfl ?_
    refine WC.skipF hK278 (fun _ _ h => h) ?_
    refine WC.seq fun K280 hK280 => ?_
    -- region 13 (draws)
    refine WC.tailS 3 st ty_mixed (by kernel_rfl) fun w st Kq hKq => ?_
    -- R13.0 46 := ipv4.go:43 load
    refine SL.v (by exact r_loadL (vs := []) ty_agg83 rfl trivial) rfl rfl rfl ?_
    -- R13.1 47 := ipv4.go:43 move
    refine SL.v (by first | exact r_move (v := .slice _ _ _) rfl | exact r_move rfl) rfl rfl rfl ?_
    -- R13.2 48 := ipv4.go:43 slice
    refine SL.v (by first | exact r_slS (l := 6) (h := 8) ty_sl25 rfl ⟨_, rfl⟩ ⟨_, rfl⟩ rfl (fun h => by first | rfl | cases h) (by omega) (by omega) (by omega) (by omega) | exact r_sl (l := 6) (h := 8) ty_sl25 rfl ⟨_, rfl⟩ ⟨_, rfl⟩ rfl (fun h => by first | rfl | cases h) (by omega) (by omega) (by omega)) rfl rfl rfl ?_
    refine SL.fin hKq ?_
    -- R13.3 49 := ipv4.go:43 call
    refine WL.call (r_call ty_call38 rfl) rfl rfl rfl (u16_at b o 6 _ _ bs (bs.getD 6 0 * 256 + bs.getD 7 0) rfl (by omega) rfl hbyt (moreL hrd [_]) st) ?_
    rintro _ w ⟨rfl, st⟩
    -- R13.4 7 := ipv4.go:43 assign
    refine WL.v (by first | exact r_assign (v := .int _ _) rfl | exact r_assign rfl) rfl rfl rfl ?_
    refine WL.fin hK280 (fun _ _ h => h) ?_
    refine WC.seq fun K281 hK281 => ?_
    -- region 14 (draws)
    refine WC.heldS2 [23, 24] [0, 1, 2, 4, 13, 14, 15, 16, 17, 18, 19] [3, 5, 6, 8, 9, 10, 11, 12, 20, 21] [7, 22, 23, 24] st (st) ty_mixed (by kernel_rfl) fun w st Kq Kq2 hKq hKq2 => ?_
    -- R14.0 50 := ipv4.go:44 move
    refine HL.v (fun w st => by first | exact r_move (v := .slice _ _ _) rfl | exact r_move rfl) rfl rfl rfl ?_
    -- R14.1 51 := ipv4.go:44 indexAddr
    refine HL.v (fun w st => by exact r_indexS (j := 1) ty_sl25 rfl rfl rfl (by first | decide | omega)) rfl rfl rfl ?_
    -- R14.2 52 := ipv4.go:44 load
    refine HL.v (fun w st => by exact r_load1 ty_one5 rfl (hrd [_] _ st 1 (by omega))) rfl rfl rfl ?_
    -- R14.4 54 := ipv4.go:44 load
    refine HL.v (fun w st => by exact r_loadL (vs := []) ty_agg83 rfl trivial) rfl rfl rfl ?_
    -- R14.13 63 := ipv4.go:44 move
    refine HL.v (fun w st => by first | exact r_move (v := .slice _ _ _) rfl | exact r_move rfl) rfl rfl rfl ?_
    -- R14.14 64 := ipv4.go:44 indexAddr
    refine HL.v (fun w st => by exact r_indexS (j := 8) ty_sl25 rfl rfl rfl (by first | decide | omega)) rfl rfl rfl ?_
    -- R14.15 65 := ipv4.go:44 load
    refine HL.v (fun w st => by exact r_load1 ty_one5 rfl (hrd [_] _ st 8 (by omega))) rfl rfl rfl ?_
    -- R14.16 66 := ipv4.go:44 move
    refine HL.v (fun w st => by first | exact r_move (v := .slice _ _ _) rfl | exact r_move rfl) rfl rfl rfl ?_
    -- R14.17 67 := ipv4.go:44 indexAddr
    refine HL.v (fun w st => by exact r_indexS (j := 9) ty_sl25 rfl rfl rfl (by first | decide | omega)) rfl rfl rfl ?_
    -- R14.18 68 := ipv4.go:44 load
    refine HL.v (fun w st => by exact r_load1 ty_one5 rfl (hrd [_] _ st 9 (by omega))) rfl rfl rfl ?_
    -- R14.19 69 := ipv4.go:44 load
    refine HL.v (fun w st => by exact r_loadL (vs := []) ty_agg83 rfl trivial) rfl rfl rfl ?_
    refine HL.pure hKq ?_
    -- R14.3 53 := ipv4.go:44 move
    refine HL.v (fun w _ => by first | exact r_move (v := .int _ _) rfl | exact r_move rfl) rfl rfl rfl ?_
    -- R14.5 55 := ipv4.go:44 move
    refine HL.v (fun w _ => by first | exact r_move (v := .slice _ _ _) rfl | exact r_move rfl) rfl rfl rfl ?_
    -- R14.6 56 := ipv4.go:44 slice
    refine HL.v (fun w _ => by first | exact r_slS (l := 4) (h := 6) ty_sl25 rfl ⟨_, rfl⟩ ⟨_, rfl⟩ rfl (fun h => by first | rfl | cases h) (by omega) (by omega) (by omega) (by omega) | exact r_sl (l := 4) (h := 6) ty_sl25 rfl ⟨_, rfl⟩ ⟨_, rfl⟩ rfl (fun h => by first | rfl | cases h) (by omega) (by omega) (by omega)) rfl rfl rfl ?_
    -- R14.8 58 := ipv4.go:44 move
    refine HL.v (fun w _ => by first | exact r_move (v := .int _ _) rfl | exact r_move rfl) rfl rfl rfl ?_
    -- R14.9 59 := ipv4.go:44 binOp
    refine HL.v (fun w _ => by exact r_shr (r := (bs.getD 6 0 * 256 + bs.getD 7 0) / 8192) rfl rfl (by omega) (shr_u 13)) rfl rfl rfl ?_
    -- R14.10 60 := ipv4.go:44 convert
    refine HL.v (fun w _ => by first | exact r_conv ty_cv30_5 rfl (wu8 (by omega) (by omega)) | exact r_conv ty_cv30_5 rfl rfl) rfl rfl rfl ?_
    -- R14.11 61 := ipv4.go:44 move
    refine HL.v (fun w _ => by first | exact r_move (v := .int _ _) rfl | exact r_move rfl) rfl rfl rfl ?_
    -- R14.12 62 := ipv4.go:44 binOp
    refine HL.v (fun w _ => by exact r_and (r := (bs.getD 6 0 * 256 + bs.getD 7 0) % 8192) rfl rfl ((congrArg IntKind.u16.wrap (and_u 16 13 (by omega) (by omega) (by omega))).trans (wu16 (by omega) (by omega)))) rfl rfl rfl ?_
    -- R14.20 70 := ipv4.go:44 move
    refine HL.v (fun w _ => by first | exact r_move (v := .slice _ _ _) rfl | exact r_move rfl) rfl rfl rfl ?_
    -- R14.21 71 := ipv4.go:44 slice
    refine HL.v (fun w _ => by first | exact r_slS (l := 10) (h := 12) ty_sl25 rfl ⟨_, rfl⟩ ⟨_, rfl⟩ rfl (fun h => by first | rfl | cases h) (by omega) (by omega) (by omega) (by omega) | exact r_sl (l := 10) (h := 12) ty_sl25 rfl ⟨_, rfl⟩ ⟨_, rfl⟩ rfl (fun h => by first | rfl | cases h) (by omega) (by omega) (by omega)) rfl rfl rfl ?_
    refine HL.fin hKq2 ?_
    refine TL.at ?_
    -- R14.7 57 := ipv4.go:47 call
    refine WL.call (r_call ty_call38 rfl) rfl rfl rfl (u16_at b o 4 _ _ bs (bs.getD 4 0 * 256 + bs.getD 5 0) rfl (by omega) rfl hbyt (moreL hrd [_]) st) ?_
    rintro _ w ⟨rfl, st⟩
    refine TL.nxt (by first | exact st | exact st.drop | exact st.drop1 | exact st.drop2 | exact st.drop3 | exact st.drop4 | exact st.drop.drop | exact st.drop.drop1 | exact st.drop.drop2 | exact st.drop.drop3 | exact st.drop.drop4 | exact st.drop.drop.drop | exact st_dropL st | exact st_dropL st.drop | exact st_none st) ?_
    refine TL.at ?_
    -- R14.22 72 := ipv4.go:52 call
    refine WL.call (r_call ty_call38 rfl) rfl rfl rfl (u16_at b o 10 _ _ bs (bs.getD 10 0 * 256 + bs.getD 11 0) rfl (by omega) rfl hbyt (moreL hrd [_]) st) ?_
    rintro _ w ⟨rfl, st⟩
    refine TL.nxt (by first | exact st | exact st.drop | exact st.drop1 | exact st.drop2 | exact st.drop3 | exact st.drop4 | exact st.drop.drop | exact st.drop.drop1 | exact st.drop.drop2 | exact st.drop.drop3 | exact st.drop.drop4 | exact st.drop.drop.drop | exact st_dropL st | exact st_dropL st.drop | exact st_none st) ?_
    refine TL.at ?_
    -- R14.23 73 := ipv4.go:44 build
    refine WL.v (by exact r_build (ps := [(0, .int _ _), (1, .int _ _), (2, .int _ _), (3, .int _ _), (4, .int _ _), (5, .int _ _), (6, .int _ _), (7, .int _ _)]) (vs := [_, _, _, _, _, _, _, _, _, _, _, _, _, _, _, _, _]) ty_pl36 ty_zero36 rfl (fill_step (pv := [_]) (cs' := [_, _, _, _, _, _, _, _, _, _, _, _, _, _, _, _, _]) rfl rfl rfl rfl (fill_step (pv := [_]) (cs' := [_, _, _, _, _, _, _, _, _, _, _, _, _, _, _, _, _]) rfl rfl rfl rfl (fill_step (pv := [_]) (cs' := [_, _, _, _, _, _, _, _, _, _, _, _, _, _, _, _, _]) rfl rfl rfl rfl (fill_step (pv := [_]) (cs' := [_, _, _, _, _, _, _, _, _, _, _, _, _, _, _, _, _]) rfl rfl rfl rfl (fill_step (pv := [_]) (cs' := [_, _, _, _, _, _, _, _, _, _, _, _, _, _, _, _, _]) rfl rfl rfl rfl (fill_step (pv := [_]) (cs' := [_, _, _, _, _, _, _, _, _, _, _, _, _, _, _, _, _]) rfl rfl rfl rfl (fill_step (pv := [_]) (cs' := [_, _, _, _, _, _, _, _, _, _, _, _, _, _, _, _, _]) rfl rfl rfl rfl (fill_step (pv := [_]) (cs' := [_, _, _, _, _, _, _, _, _, _, _, _, _, _, _, _, _]) rfl rfl rfl rfl (fill_nil)))))))))) rfl rfl rfl ?_
    refine TL.nxt' rfl ?_
    refine TL.at ?_
    -- R14.24 None := ipv4.go:44 store
    first | refine WL.storeW (vs := [_, _, _, _, _, _, _, _, _, _, _, _, _, _, _, _, _]) st ty_agg36 rfl rfl rfl rfl rfl rfl ?_ | refine WL.storeL (vs := [_, _, _, _, _, _, _, _, _, _, _, _, _, _, _, _, _]) st ty_agg36 rfl rfl rfl rfl (by first | decide | omega) rfl rfl ?_ | refine WL.storeW (vs := [_, _, _, _, _, _, _, _, _, _, _, _, _, _, _, _, _]) st.front1 ty_agg36 rfl rfl rfl rfl rfl rfl ?_ | refine WL.storeL (vs := [_, _, _, _, _, _, _, _, _, _, _, _, _, _, _, _, _]) st.front1 ty_agg36 rfl rfl rfl rfl (by first | decide | omega) rfl rfl ?_ | refine WL.storeW (vs := [_, _, _, _, _, _, _, _, _, _, _, _, _, _, _, _, _]) st.front2 ty_agg36 rfl rfl rfl rfl rfl rfl ?_ | refine WL.storeL (vs := [_, _, _, _, _, _, _, _, _, _, _, _, _, _, _, _, _]) st.front2 ty_agg36 rfl rfl rfl rfl (by first | decide | omega) rfl rfl ?_ | refine WL.storeW (vs := [_, _, _, _, _, _, _, _, _, _, _, _, _, _, _, _, _]) st.front3 ty_agg36 rfl rfl rfl rfl rfl rfl ?_ | refine WL.storeL (vs := [_, _, _, _, _, _, _, _, _, _, _, _, _, _, _, _, _]) st.front3 ty_agg36 rfl rfl rfl rfl (by first | decide | omega) rfl rfl ?_ | refine WL.storeW (vs := [_, _, _, _, _, _, _, _, _, _, _, _, _, _, _, _, _]) st.front4 ty_agg36 rfl rfl rfl rfl rfl rfl ?_ | refine WL.storeL (vs := [_, _, _, _, _, _, _, _, _, _, _, _, _, _, _, _, _]) st.front4 ty_agg36 rfl rfl rfl rfl (by first | decide | omega) rfl rfl ?_ | refine WL.storeW (vs := [_, _, _, _, _, _, _, _, _, _, _, _, _, _, _, _, _]) st.front5 ty_agg36 rfl rfl rfl rfl rfl rfl ?_ | refine WL.storeL (vs := [_, _, _, _, _, _, _, _, _, _, _, _, _, _, _, _, _]) st.front5 ty_agg36 rfl rfl rfl rfl (by first | decide | omega) rfl rfl ?_ | refine WL.storeW (vs := [_, _, _, _, _, _, _, _, _, _, _, _, _, _, _, _, _]) st.front6 ty_agg36 rfl rfl rfl rfl rfl rfl ?_ | refine WL.storeL (vs := [_, _, _, _, _, _, _, _, _, _, _, _, _, _, _, _, _]) st.front6 ty_agg36 rfl rfl rfl rfl (by first | decide | omega) rfl rfl ?_ | refine WL.storeW (vs := [_, _, _, _, _, _, _, _, _, _, _, _, _, _, _, _, _]) st.front7 ty_agg36 rfl rfl rfl rfl rfl rfl ?_ | refine WL.storeL (vs := [_, _, _, _, _, _, _, _, _, _, _, _, _, _, _, _, _]) st.front7 ty_agg36 rfl rfl rfl rfl (by first | decide | omega) rfl rfl ?_ | refine WL.storeW (vs := [_, _, _, _, _, _, _, _, _, _, _, _, _, _, _, _, _]) st.front8 ty_agg36 rfl rfl rfl rfl rfl rfl ?_ | refine WL.storeL (vs := [_, _, _, _, _, _, _, _, _, _, _, _, _, _, _, _, _]) st.front8 ty_agg36 rfl rfl rfl rfl (by first | decide | omega) rfl rfl ?_
    intro w st
    refine TL.nxt' rfl ?_
    refine TL.wl ?_
    refine WL.fin hK281 (fun _ _ h => h) ?_
    refine WC.seq fun K282 hK282 => ?_
    -- region 15 (draws)
    refine WC.tailS 4 st ty_mixed (by kernel_rfl) fun w st Kq hKq => ?_
    -- R15.0 74 := ipv4.go:54 fieldAddr
    refine SL.v (by exact r_field ty_fld36_8 rfl) rfl rfl rfl ?_
    -- R15.1 75 := ipv4.go:54 slice
    refine SL.v (by exact r_slAr ty_ar34 rfl) rfl rfl rfl ?_
    -- R15.2 76 := ipv4.go:54 move
    refine SL.v (by first | exact r_move (v := .slice _ _ _) rfl | exact r_move rfl) rfl rfl rfl ?_
    -- R15.3 77 := ipv4.go:54 slice
    refine SL.v (by first | exact r_slS (l := 12) (h := 16) ty_sl25 rfl ⟨_, rfl⟩ ⟨_, rfl⟩ rfl (fun h => by first | rfl | cases h) (by omega) (by omega) (by omega) (by omega) | exact r_sl (l := 12) (h := 16) ty_sl25 rfl ⟨_, rfl⟩ ⟨_, rfl⟩ rfl (fun h => by first | rfl | cases h) (by omega) (by omega) (by omega)) rfl rfl rfl ?_
    refine SL.fin hKq ?_
    -- R15.4 78 := ipv4.go:54 call
    refine WL.copyC (m := 4) (news := fun j => .int .u8 (bs.getD (12 + j) 0)) st ty_sl25 rfl rfl (by omega) (fun j hj => ?_) (fun j hj => rfl) rfl rfl rfl ?_
    · have := hrd [_] _ st (12 + j) (by omega)
      rw [show o + (12 + j) = o + 12 * 1 + j by omega] at this; exact this
    intro w st
    refine WL.fin hK282 (fun _ _ h => h) ?_
    refine WC.seq fun K283 hK283 => ?_
    -- region 16 (draws)
    refine WC.tailS 4 st ty_mixed (by kernel_rfl) fun w st Kq hKq => ?_
    -- R16.0 79 := ipv4.go:55 fieldAddr
    refine SL.v (by exact r_field ty_fld36_9 rfl) rfl rfl rfl ?_
    -- R16.1 80 := ipv4.go:55 slice
    refine SL.v (by exact r_slAr ty_ar34 rfl) rfl rfl rfl ?_
    -- R16.2 81 := ipv4.go:55 move
    refine SL.v (by first | exact r_move (v := .slice _ _ _) rfl | exact r_move rfl) rfl rfl rfl ?_
    -- R16.3 82 := ipv4.go:55 slice
    refine SL.v (by first | exact r_slS (l := 16) (h := 20) ty_sl25 rfl ⟨_, rfl⟩ ⟨_, rfl⟩ rfl (fun h => by first | rfl | cases h) (by omega) (by omega) (by omega) (by omega) | exact r_sl (l := 16) (h := 20) ty_sl25 rfl ⟨_, rfl⟩ ⟨_, rfl⟩ rfl (fun h => by first | rfl | cases h) (by omega) (by omega) (by omega)) rfl rfl rfl ?_
    refine SL.fin hKq ?_
    -- R16.4 83 := ipv4.go:55 call
    refine WL.copyC (m := 4) (news := fun j => .int .u8 (bs.getD (16 + j) 0)) st ty_sl25 rfl rfl (by omega) (fun j hj => ?_) (fun j hj => rfl) rfl rfl rfl ?_
    · have := hrd [_] _ st (16 + j) (by omega)
      rw [show o + (16 + j) = o + 16 * 1 + j by omega] at this; exact this
    intro w st
    refine WL.fin hK283 (fun _ _ h => h) ?_
    refine WC.seq fun K284 hK284 => ?_
    refine WC.seq fun K285 hK285 => ?_
    -- region 17
    have st := st_nrm (L' := ipL (ipX bs) (.slice none 0 0)) rfl st
    refine WC.region ?_
    -- R17.0 84 := ipv4.go:56 move
    refine WL.v (by first | exact r_move (v := .int _ _) rfl | exact r_move rfl) rfl rfl rfl ?_
    -- R17.1 85 := ipv4.go:56 binOp
    refine WL.v (by first | exact r_gtr rfl rfl (decide_eq_true (by omega)) | exact r_gtr rfl rfl (decide_eq_false (by omega)) | exact r_gtr rfl rfl rfl) rfl rfl rfl ?_
    refine WL.fin hK285 (fun _ _ h => h) ?_
    refine WC.condT rfl rfl ?_
    -- region 18
    refine WC.region ?_
    -- R18.0 86 := ipv4.go:57 move
    refine WL.v (by first | exact r_move (v := .slice _ _ _) rfl | exact r_move rfl) rfl rfl rfl ?_
    -- R18.1 87 := ipv4.go:57 move
    refine WL.v (by first | exact r_move (v := .int _ _) rfl | exact r_move rfl) rfl rfl rfl ?_
    -- R18.2 88 := ipv4.go:57 move
    refine WL.v (by first | exact r_move (v := .int _ _) rfl | exact r_move rfl) rfl rfl rfl ?_
    -- R18.3 89 := ipv4.go:57 slice
    refine WL.v (by first | exact r_slS (l := 20) (h := q * 4) (m := q * 4) ty_sl25 rfl ⟨_, rfl⟩ ⟨_, rfl⟩ ⟨_, rfl⟩ (fun h => by first | rfl | cases h) (by omega) (by omega) (by omega) (by omega) | exact r_sl (l := 20) (h := q * 4) (m := q * 4) ty_sl25 rfl ⟨_, rfl⟩ ⟨_, rfl⟩ ⟨_, rfl⟩ (fun h => by first | rfl | cases h) (by omega) (by omega) (by omega)) rfl rfl rfl ?_
    -- R18.4 90 := ipv4.go:57 fieldAddr
    refine WL.v (by exact r_field ty_fld36_10 rfl) rfl rfl rfl ?_
    -- R18.5 None := ipv4.go:57 store
    first | refine WL.store (v := .slice _ _ _) st ty_one25 rfl rfl rfl (by first | decide | omega) rfl rfl ?_ | refine WL.store (v := _) st ty_one25 rfl rfl rfl (by first | decide | omega) rfl rfl ?_ | refine WL.store (v := .slice _ _ _) st.front1 ty_one25 rfl rfl rfl (by first | decide | omega) rfl rfl ?_ | refine WL.store (v := _) st.front1 ty_one25 rfl rfl rfl (by first | decide | omega) rfl rfl ?_ | refine WL.store (v := .slice _ _ _) st.front2 ty_one25 rfl rfl rfl (by first | decide | omega) rfl rfl ?_ | refine WL.store (v := _) st.front2 ty_one25 rfl rfl rfl (by first | decide | omega) rfl rfl ?_ | refine WL.store (v := .slice _ _ _) st.front3 ty_one25 rfl rfl rfl (by first | decide | omega) rfl rfl ?_ | refine WL.store (v := _) st.front3 ty_one25 rfl rfl rfl (by first | decide | omega) rfl rfl ?_ | refine WL.store (v := .slice _ _ _) st.front4 ty_one25 rfl rfl rfl (by first | decide | omega) rfl rfl ?_ | refine WL.store (v := _) st.front4 ty_one25 rfl rfl rfl (by first | decide | omega) rfl rfl ?_ | refine WL.store (v := .slice _ _ _) st.front5 ty_one25 rfl rfl rfl (by first | decide | omega) rfl rfl ?_ | refine WL.store (v := _) st.front5 ty_one25 rfl rfl rfl (by first | decide | omega) rfl rfl ?_ | refine WL.store (v := .slice _ _ _) st.front6 ty_one25 rfl rfl rfl (by first | decide | omega) rfl rfl ?_ | refine WL.store (v := _) st.front6 ty_one25 rfl rfl rfl (by first | decide | omega) rfl rfl ?_ | refine WL.store (v := .slice _ _ _) st.front7 ty_one25 rfl rfl rfl (by first | decide | omega) rfl rfl ?_ | refine WL.store (v := _) st.front7 ty_one25 rfl rfl rfl (by first | decide | omega) rfl rfl ?_ | refine WL.store (v := .slice _ _ _) st.front8 ty_one25 rfl rfl rfl (by first | decide | omega) rfl rfl ?_ | refine WL.store (v := _) st.front8 ty_one25 rfl rfl rfl (by first | decide | omega) rfl rfl ?_
    intro w st
    refine WL.fin hK284 (fun _ _ h => h) ?_
    refine WC.seq fun K286 hK286 => ?_
    -- region 19 (draws)
    refine WC.heldS2 [4, 5, 6] [0] [1, 2, 3] [4, 5, 6] st (st) ty_mixed (by kernel_rfl) fun w st Kq Kq2 hKq hKq2 => ?_
    -- R19.0 91 := ipv4.go:59 load
    refine HL.v (fun w st => by exact r_loadL (vs := [_, _, _, _, _, _, _, _, _, _, _, _, _, _, _, _, _]) ty_agg36 rfl ⟨st.c0 (by decide), st.c0 (by decide), st.c0 (by decide), st.c0 (by decide), st.c0 (by decide), st.c0 (by decide), st.c0 (by decide), st.c0 (by decide), st.c0 (by decide), st.c0 (by decide), st.c0 (by decide), st.c0 (by decide), st.c0 (by decide), st.c0 (by decide), st.c0 (by decide), st.c0 (by decide), st.c0 (by decide), trivial⟩) rfl rfl rfl ?_
    refine HL.pure hKq ?_
    -- R19.1 92 := ipv4.go:59 move
    refine HL.v (fun w _ => by first | exact r_move (v := .slice _ _ _) rfl | exact r_move rfl) rfl rfl rfl ?_
    -- R19.2 93 := ipv4.go:59 move
    refine HL.v (fun w _ => by first | exact r_move (v := .int _ _) rfl | exact r_move rfl) rfl rfl rfl ?_
    -- R19.3 94 := ipv4.go:59 slice
    refine HL.v (fun w _ => by exact r_sl (l := q * 4) ty_sl25 rfl ⟨_, rfl⟩ rfl rfl (fun h => by first | rfl | cases h) (by omega) (by omega) (by omega)) rfl rfl rfl ?_
    refine HL.fin hKq2 ?_
    refine TL.at ?_
    -- R19.4 None := ipv4.go:59 store
    first | refine WL.storeW (vs := [_, _, _, _, _, _, _, _, _, _, _, _, _, _, _, _, _]) st ty_agg36 rfl rfl rfl rfl rfl rfl ?_ | refine WL.storeL (vs := [_, _, _, _, _, _, _, _, _, _, _, _, _, _, _, _, _]) st ty_agg36 rfl rfl rfl rfl (by first | decide | omega) rfl rfl ?_ | refine WL.storeW (vs := [_, _, _, _, _, _, _, _, _, _, _, _, _, _, _, _, _]) st.front1 ty_agg36 rfl rfl rfl rfl rfl rfl ?_ | refine WL.storeL (vs := [_, _, _, _, _, _, _, _, _, _, _, _, _, _, _, _, _]) st.front1 ty_agg36 rfl rfl rfl rfl (by first | decide | omega) rfl rfl ?_ | refine WL.storeW (vs := [_, _, _, _, _, _, _, _, _, _, _, _, _, _, _, _, _]) st.front2 ty_agg36 rfl rfl rfl rfl rfl rfl ?_ | refine WL.storeL (vs := [_, _, _, _, _, _, _, _, _, _, _, _, _, _, _, _, _]) st.front2 ty_agg36 rfl rfl rfl rfl (by first | decide | omega) rfl rfl ?_ | refine WL.storeW (vs := [_, _, _, _, _, _, _, _, _, _, _, _, _, _, _, _, _]) st.front3 ty_agg36 rfl rfl rfl rfl rfl rfl ?_ | refine WL.storeL (vs := [_, _, _, _, _, _, _, _, _, _, _, _, _, _, _, _, _]) st.front3 ty_agg36 rfl rfl rfl rfl (by first | decide | omega) rfl rfl ?_ | refine WL.storeW (vs := [_, _, _, _, _, _, _, _, _, _, _, _, _, _, _, _, _]) st.front4 ty_agg36 rfl rfl rfl rfl rfl rfl ?_ | refine WL.storeL (vs := [_, _, _, _, _, _, _, _, _, _, _, _, _, _, _, _, _]) st.front4 ty_agg36 rfl rfl rfl rfl (by first | decide | omega) rfl rfl ?_ | refine WL.storeW (vs := [_, _, _, _, _, _, _, _, _, _, _, _, _, _, _, _, _]) st.front5 ty_agg36 rfl rfl rfl rfl rfl rfl ?_ | refine WL.storeL (vs := [_, _, _, _, _, _, _, _, _, _, _, _, _, _, _, _, _]) st.front5 ty_agg36 rfl rfl rfl rfl (by first | decide | omega) rfl rfl ?_ | refine WL.storeW (vs := [_, _, _, _, _, _, _, _, _, _, _, _, _, _, _, _, _]) st.front6 ty_agg36 rfl rfl rfl rfl rfl rfl ?_ | refine WL.storeL (vs := [_, _, _, _, _, _, _, _, _, _, _, _, _, _, _, _, _]) st.front6 ty_agg36 rfl rfl rfl rfl (by first | decide | omega) rfl rfl ?_ | refine WL.storeW (vs := [_, _, _, _, _, _, _, _, _, _, _, _, _, _, _, _, _]) st.front7 ty_agg36 rfl rfl rfl rfl rfl rfl ?_ | refine WL.storeL (vs := [_, _, _, _, _, _, _, _, _, _, _, _, _, _, _, _, _]) st.front7 ty_agg36 rfl rfl rfl rfl (by first | decide | omega) rfl rfl ?_ | refine WL.storeW (vs := [_, _, _, _, _, _, _, _, _, _, _, _, _, _, _, _, _]) st.front8 ty_agg36 rfl rfl rfl rfl rfl rfl ?_ | refine WL.storeL (vs := [_, _, _, _, _, _, _, _, _, _, _, _, _, _, _, _, _]) st.front8 ty_agg36 rfl rfl rfl rfl (by first | decide | omega) rfl rfl ?_
    intro w st
    refine TL.nxt' rfl ?_
    refine TL.at ?_
    -- R19.5 3 := ipv4.go:59 assign
    refine WL.v (by first | exact r_assign (v := .slice _ _ _) rfl | exact r_assign rfl) rfl rfl rfl ?_
    refine TL.nxt' rfl ?_
    refine TL.at ?_
    -- R19.6 4 := ipv4.go:59 assign
    refine WL.v (by first | exact r_assign (v := .nilIface) rfl | exact r_assign (v := .iface _ _) rfl | exact r_assign rfl) rfl rfl rfl ?_
    refine TL.nxt' rfl ?_
    refine TL.wl ?_
    refine WL.fin hK286 (fun _ _ h => h) ?_
    refine WC.retCTT (vs := [_, _, _, _, _, _, _, _, _, _, _, _, _, _, _, _, _]) Tryd.results28 (fun _ _ h => h) rfl ty_agg36 rfl ⟨st.c0 (by decide), st.c0 (by decide), st.c0 (by decide), st.c0 (by decide), st.c0 (by decide), st.c0 (by decide), st.c0 (by decide), st.c0 (by decide), st.c0 (by decide), st.c0 (by decide), st.c0 (by decide), st.c0 (by decide), st.c0 (by decide), st.c0 (by decide), st.c0 (by decide), st.c0 (by decide), st.c0 (by decide), trivial⟩ ?_
    have e1 : (SV.sub ⟨some ⟨b, o, none⟩, c, b, o, bs⟩ 20 (q * 4) (q * 4)).v = .slice (some ⟨b, o + 20 * 1, none⟩) (q * 4 - 20) (q * 4 - 20) := (SV.sub_v (by simp only; omega)).trans (by rw [slA_some (by omega)])
    refine ⟨_, rfl, .inr ⟨hI, SV.sub ⟨some ⟨b, o, none⟩, c, b, o, bs⟩ 20 (q * 4) (q * 4), SV.sub_ok hsok (by omega) (by simp only; omega) (by omega) (by simp only; omega), by simp only; rw [hqh]; rfl, fun w' h => SV.sub_rd h (by simp only; omega), ?_⟩, st.drop⟩
    rw [e1, e2]; rfl
  · skip
    refine enter [.slice (some ⟨b, o, none⟩) bs.length c] Tryd.func28 rfl Tryd.ntmps28 rfl ?_
    show WC _ _ _ 95 [] [(0, .slice (some ⟨b, o, none⟩) bs.length c)] _
    refine WC.seq fun K287 hK287 => ?_
    -- region 0
    refine WC.region ?_
    -- R0.0 2 := ipv4.go:25 alloc
    refine WL.alloc (m := 17) st ty_zero36 rfl rfl rfl ?_
    intro b2 w st
    -- R0.1 3 := ipv4.go:25 assign
    refine WL.v (by first | exact r_assign (v := .slice _ _ _) rfl | exact r_assign rfl) rfl rfl rfl ?_
    -- R0.2 4 := ipv4.go:25 assign
    refine WL.v (by first | exact r_assign (v := .nilIface) rfl | exact r_assign (v := .iface _ _) rfl | exact r_assign rfl) rfl rfl rfl ?_
    refine WL.fin hK287 (fun _ _ h => h) ?_
    refine WC.seq fun K288 hK288 => ?_
    refine WC.seq fun K289 hK289 => ?_
    -- region 1
    refine WC.region ?_
    -- R1.0 8 := ipv4.go:26 move
    refine WL.v (by first | exact r_move (v := .slice _ _ _) rfl | exact r_move rfl) rfl rfl rfl ?_
    -- R1.1 9 := ipv4.go:26 call
    refine WL.v (by exact r_len ty_usl25 rfl) rfl rfl rfl ?_
    -- R1.2 10 := ipv4.go:26 binOp
    refine WL.v (by first | exact r_lss rfl rfl (decide_eq_true (by omega)) | exact r_lss rfl rfl (decide_eq_false (by omega)) | exact r_lss rfl rfl rfl) rfl rfl rfl ?_
    refine WL.fin hK289 (fun _ _ h => h) ?_
    refine WC.condF rfl rfl ?_
    refine WC.skipF hK288 (fun _ _ h => h) ?_
    refine WC.seq fun K290 hK290 => ?_
    refine WC.seq fun K291 hK291 => ?_
    -- region 3
    refine WC.region ?_
    -- R3.0 13 := ipv4.go:29 move
    refine WL.v (by first | exact r_move (v := .slice _ _ _) rfl | exact r_move rfl) rfl rfl rfl ?_
    -- R3.1 14 := ipv4.go:29 indexAddr
    refine WL.v (by exact r_indexS (j := 0) ty_sl25 rfl rfl rfl (by first | decide | omega)) rfl rfl rfl ?_
    -- R3.2 15 := ipv4.go:29 load
    refine WL.v (by exact r_load1 ty_one5 rfl (hrd [_] _ st 0 (by omega))) rfl rfl rfl ?_
    -- R3.3 16 := ipv4.go:29 binOp
    refine WL.v (by exact r_shr (r := bs.getD 0 0 / 16) rfl rfl (by omega) (shr_u 4)) rfl rfl rfl ?_
    -- R3.4 17 := ipv4.go:29 binOp
    refine WL.v (by first | exact r_neq rfl rfl (decide_eq_true (by omega)) | exact r_neq rfl rfl (decide_eq_false (by omega)) | exact r_neq rfl rfl rfl) rfl rfl rfl ?_
    refine WL.fin hK291 (fun _ _ h => h) ?_
    refine WC.condF rfl rfl ?_
    refine WC.skipF hK290 (fun _ _ h => h) ?_
    refine WC.seq fun K292 hK292 => ?_
    -- region 5
    refine WC.region ?_
    -- R5.0 20 := ipv4.go:32 move
    refine WL.v (by first | exact r_move (v := .slice _ _ _) rfl | exact r_move rfl) rfl rfl rfl ?_
    -- R5.1 21 := ipv4.go:32 indexAddr
    refine WL.v (by exact r_indexS (j := 0) ty_sl25 rfl rfl rfl (by first | decide | omega)) rfl rfl rfl ?_
    -- R5.2 22 := ipv4.go:32 load
    refine WL.v (by exact r_load1 ty_one5 rfl (hrd [_] _ st 0 (by omega))) rfl rfl rfl ?_
    -- R5.3 23 := ipv4.go:32 binOp
    refine WL.v (by exact r_and (r := (q : Int)) rfl rfl ((congrArg IntKind.u8.wrap ((and_u 8 4 g0.1 (by omega) (by omega)).trans hq)).trans (wu8 (by omega) (by omega)))) rfl rfl rfl ?_
    -- R5.4 24 := ipv4.go:32 convert
    refine WL.v (by first | exact r_conv ty_cv5_3 rfl (wi64 (by omega) (by omega)) | exact r_conv ty_cv5_3 rfl rfl) rfl rfl rfl ?_
    -- R5.5 25 := ipv4.go:32 binOp
    refine WL.v (by exact r_mul (r := ((q * 4 : Nat) : Int)) rfl rfl (by rw [wi64 (by omega) (by omega)]; omega)) rfl rfl rfl ?_
    -- R5.6 5 := ipv4.go:32 assign
    refine WL.v (by first | exact r_assign (v := .int _ _) rfl | exact r_assign rfl) rfl rfl rfl ?_
    refine WL.fin hK292 (fun _ _ h => h) ?_
    refine WC.seq fun K293 hK293 => ?_
    refine WC.seq fun K294 hK294 => ?_
    -- region 6
    refine WC.region ?_
    -- R6.0 26 := ipv4.go:33 move
    refine WL.v (by first | exact r_move (v := .int _ _) rfl | exact r_move rfl) rfl rfl rfl ?_
    -- R6.1 27 := ipv4.go:33 binOp
    refine WL.v (by first | exact r_lss rfl rfl (decide_eq_true (by omega)) | exact r_lss rfl rfl (decide_eq_false (by omega)) | exact r_lss rfl rfl rfl) rfl rfl rfl ?_
    refine WL.fin hK294 (fun _ _ h => h) ?_
    refine WC.condF rfl rfl ?_
    refine WC.skipF hK293 (fun _ _ h => h) ?_
    refine WC.seq fun K295 hK295 => ?_
    refine WC.seq fun K296 hK296 => ?_
    -- region 8
    refine WC.region ?_
    -- R8.0 30 := ipv4.go:36 move
    refine WL.v (by first | exact r_move (v := .int _ _) rfl | exact r_move rfl) rfl rfl rfl ?_
    -- R8.1 31 := ipv4.go:36 move
    refine WL.v (by first | exact r_move (v := .slice _ _ _) rfl | exact r_move rfl) rfl rfl rfl ?_
    -- R8.2 32 := ipv4.go:36 call
    refine WL.v (by exact r_len ty_usl25 rfl) rfl rfl rfl ?_
    -- R8.3 33 := ipv4.go:36 binOp
    refine WL.v (by first | exact r_gtr rfl rfl (decide_eq_true (by omega)) | exact r_gtr rfl rfl (decide_eq_false (by omega)) | exact r_gtr rfl rfl rfl) rfl rfl rfl ?_
    refine WL.fin hK296 (fun _ _ h => h) ?_
    refine WC.condF rfl rfl ?_
    refine WC.skipF hK295 (fun _ _ h => h) ?_
    refine WC.seq fun K297 hK297 => ?_
    -- region 10 (draws)
    refine WC.tailS 3 st ty_mixed (by kernel_rfl) fun w st Kq hKq => ?_
    -- R10.0 36 := ipv4.go:39 load
    refine SL.v (by exact r_loadL (vs := []) ty_agg83 rfl trivial) rfl rfl rfl ?_
    -- R10.1 37 := ipv4.go:39 move
    refine SL.v (by first | exact r_move (v := .slice _ _ _) rfl | exact r_move rfl) rfl rfl rfl ?_
    -- R10.2 38 := ipv4.go:39 slice
    refine SL.v (by first | exact r_slS (l := 2) (h := 4) ty_sl25 rfl ⟨_, rfl⟩ ⟨_, rfl⟩ rfl (fun h => by first | rfl | cases h) (by omega) (by omega) (by omega) (by omega) | exact r_sl (l := 2) (h := 4) ty_sl25 rfl ⟨_, rfl⟩ ⟨_, rfl⟩ rfl (fun h => by first | rfl | cases h) (by omega) (by omega) (by omega)) rfl rfl rfl ?_
    refine SL.fin hKq ?_
    -- R10.3 39 := ipv4.go:39 call
    refine WL.call (r_call ty_call38 rfl) rfl rfl rfl (u16_at b o 2 _ _ bs (bs.getD 2 0 * 256 + bs.getD 3 0) rfl (by omega) rfl hbyt (moreL hrd [_]) st) ?_
    rintro _ w ⟨rfl, st⟩
    -- R10.4 6 := ipv4.go:39 assign
    refine WL.v (by first | exact r_assign (v := .int _ _) rfl | exact r_assign rfl) rfl rfl rfl ?_
    refine WL.fin hK297 (fun _ _ h => h) ?_
    refine WC.seq fun K298 hK298 => ?_
    refine WC.seq fun K299 hK299 => ?_
    -- region 11
    refine WC.region ?_
    -- R11.0 40 := ipv4.go:40 move
    refine WL.v (by first | exact r_move (v := .int _ _) rfl | exact r_move rfl) rfl rfl rfl ?_
    -- R11.1 41 := ipv4.go:40 convert
    refine WL.v (by first | exact r_conv ty_cv30_3 rfl (wi64 (by omega) (by omega)) | exact r_conv ty_cv30_3 rfl rfl) rfl rfl rfl ?_
    -- R11.2 42 := ipv4.go:40 move
    refine WL.v (by first | exact r_move (v := .int _ _) rfl | exact r_move rfl) rfl rfl rfl ?_
    -- R11.3 43 := ipv4.go:40 binOp
    refine WL.v (by first | exact r_lss rfl rfl (decide_eq_true (by omega)) | exact r_lss rfl rfl (decide_eq_false (by omega)) | exact r_lss rfl rfl rfl) rfl rfl rfl ?_
    refine WL.fin hK299 (fun _ _ h => h) ?_
    refine WC.condF rfl rfl ?_
    refine WC.skipF hK298 (fun _ _ h => h) ?_
    refine WC.seq fun K300 hK300 => ?_
    -- region 13 (draws)
    refine WC.tailS 3 st ty_mixed (by kernel_rfl) fun w st Kq hKq => ?_
    -- R13.0 46 := ipv4.go:43 load
    refine SL.v (by exact r_loadL (vs := []) ty_agg83 rfl trivial) rfl rfl rfl ?_
    -- R13.1 47 := ipv4.go:43 move
    refine SL.v (by first | exact r_move (v := .slice _ _ _) rfl | exact r_move rfl) rfl rfl rfl ?_
    -- R13.2 48 := ipv4.go:43 slice
    refine SL.v (by first | exact r_slS (l := 6) (h := 8) ty_sl25 rfl ⟨_, rfl⟩ ⟨_, rfl⟩ rfl (fun h => by first | rfl | cases h) (by omega) (by omega) (by omega) (by omega) | exact r_sl (l := 6) (h := 8) ty_sl25 rfl ⟨_, rfl⟩ ⟨_, rfl⟩ rfl (fun h => by first | rfl | cases h) (by omega) (by omega) (by omega)) rfl rfl rfl ?_
    refine SL.fin hKq ?_
    -- R13.3 49 := ipv4.go:43 call
    refine WL.call (r_call ty_call38 rfl) rfl rfl rfl (u16_at b o 6 _ _ bs (bs.getD 6 0 * 256 + bs.getD 7 0) rfl (by omega) rfl hbyt (moreL hrd [_]) st) ?_
    rintro _ w ⟨rfl, st⟩
    -- R13.4 7 := ipv4.go:43 assign
    refine WL.v (by first | exact r_assign (v := .int _ _) rfl | exact r_assign rfl) rfl rfl rfl ?_
    refine WL.fin hK300 (fun _ _ h => h) ?_
    refine WC.seq fun K301 hK301 => ?_
    -- region 14 (draws)
    refine WC.heldS2 [23, 24] [0, 1, 2, 4, 13, 14, 15, 16, 17, 18, 19] [3, 5, 6, 8, 9, 10, 11, 12, 20, 21] [7, 22, 23, 24] st (st) ty_mixed (by kernel_rfl) fun w st Kq Kq2 hKq hKq2 => ?_
    -- R14.0 50 := ipv4.go:44 move
    refine HL.v (fun w st => by first | exact r_move (v := .slice _ _ _) rfl | exact r_move rfl) rfl rfl rfl ?_
    -- R14.1 51 := ipv4.go:44 indexAddr
    refine HL.v (fun w st => by exact r_indexS (j := 1) ty_sl25 rfl rfl rfl (by first | decide | omega)) rfl rfl rfl ?_
    -- R14.2 52 := ipv4.go:44 load
    refine HL.v (fun w st => by exact r_load1 ty_one5 rfl (hrd [_] _ st 1 (by omega))) rfl rfl rfl ?_
    -- R14.4 54 := ipv4.go:44 load
    refine HL.v (fun w st => by exact r_loadL (vs := []) ty_agg83 rfl trivial) rfl rfl rfl ?_
    -- R14.13 63 := ipv4.go:44 move
    refine HL.v (fun w st => by first | exact r_move (v := .slice _ _ _) rfl | exact r_move rfl) rfl rfl rfl ?_
    -- R14.14 64 := ipv4.go:44 indexAddr
    refine HL.v (fun w st => by exact r_indexS (j := 8) ty_sl25 rfl rfl rfl (by first | decide | omega)) rfl rfl rfl ?_
    -- R14.15 65 := ipv4.go:44 load
    refine HL.v (fun w st => by exact r_load1 ty_one5 rfl (hrd [_] _ st 8 (by omega))) rfl rfl rfl ?_
    -- R14.16 66 := ipv4.go:44 move
    refine HL.v (fun w st => by first | exact r_move (v := .slice _ _ _) rfl | exact r_move rfl) rfl rfl rfl ?_
    -- R14.17 67 := ipv4.go:44 indexAddr
    refine HL.v (fun w st => by exact r_indexS (j := 9) ty_sl25 rfl rfl rfl (by first | decide | omega)) rfl rfl rfl ?_
    -- R14.18 68 := ipv4.go:44 load
    refine HL.v (fun w st => by exact r_load1 ty_one5 rfl (hrd [_] _ st 9 (by omega))) rfl rfl rfl ?_
    -- R14.19 69 := ipv4.go:44 load
    refine HL.v (fun w st => by exact r_loadL (vs := []) ty_agg83 rfl trivial) rfl rfl rfl ?_
    refine HL.pure hKq ?_
    -- R14.3 53 := ipv4.go:44 move
    refine HL.v (fun w _ => by first | exact r_move (v := .int _ _) rfl | exact r_move rfl) rfl rfl rfl ?_
    -- R14.5 55 := ipv4.go:44 move
    refine HL.v (fun w _ => by first | exact r_move (v := .slice _ _ _) rfl | exact r_move rfl) rfl rfl rfl ?_
    -- R14.6 56 := ipv4.go:44 slice
    refine HL.v (fun w _ => by first | exact r_slS (l := 4) (h := 6) ty_sl25 rfl ⟨_, rfl⟩ ⟨_, rfl⟩ rfl (fun h => by first | rfl | cases h) (by omega) (by omega) (by omega) (by omega) | exact r_sl (l := 4) (h := 6) ty_sl25 rfl ⟨_, rfl⟩ ⟨_, rfl⟩ rfl (fun h => by first | rfl | cases h) (by omega) (by omega) (by omega)) rfl rfl rfl ?_
    -- R14.8 58 := ipv4.go:44 move
    refine HL.v (fun w _ => by first | exact r_move (v := .int _ _) rfl | exact r_move rfl) rfl rfl rfl ?_
    -- R14.9 59 := ipv4.go:44 binOp
    refine HL.v (fun w _ => by exact r_shr (r := (bs.getD 6 0 * 256 + bs.getD 7 0) / 8192) rfl rfl (by omega) (shr_u 13)) rfl rfl rfl ?_
    -- R14.10 60 := ipv4.go:44 convert
    refine HL.v (fun w _ => by first | exact r_conv ty_cv30_5 rfl (wu8 (by omega) (by omega)) | exact r_conv ty_cv30_5 rfl rfl) rfl rfl rfl ?_
    -- R14.11 61 := ipv4.go:44 move
    refine HL.v (fun w _ => by first | exact r_move (v := .int _ _) rfl | exact r_move rfl) rfl rfl rfl ?_
    -- R14.12 62 := ipv4.go:44 binOp
    refine HL.v (fun w _ => by exact r_and (r := (bs.getD 6 0 * 256 + bs.getD 7 0) % 8192) rfl rfl ((congrArg IntKind.u16.wrap (and_u 16 13 (by omega) (by omega) (by omega))).trans (wu16 (by omega) (by omega)))) rfl rfl rfl ?_
    -- R14.20 70 := ipv4.go:44 move
    refine HL.v (fun w _ => by first | exact r_move (v := .slice _ _ _) rfl | exact r_move rfl) rfl rfl rfl ?_
    -- R14.21 71 := ipv4.go:44 slice
    refine HL.v (fun w _ => by first | exact r_slS (l := 10) (h := 12) ty_sl25 rfl ⟨_, rfl⟩ ⟨_, rfl⟩ rfl (fun h => by first | rfl | cases h) (by omega) (by omega) (by omega) (by omega) | exact r_sl (l := 10) (h := 12) ty_sl25 rfl ⟨_, rfl⟩ ⟨_, rfl⟩ rfl (fun h => by first | rfl | cases h) (by omega) (by omega) (by omega)) rfl rfl rfl ?_
    refine HL.fin hKq2 ?_
    refine TL.at ?_
    -- R14.7 57 := ipv4.go:47 call
    refine WL.call (r_call ty_call38 rfl) rfl rfl rfl (u16_at b o 4 _ _ bs (bs.getD 4 0 * 256 + bs.getD 5 0) rfl (by omega) rfl hbyt (moreL hrd [_]) st) ?_
    rintro _ w ⟨rfl, st⟩
    refine TL.nxt (by first | exact st | exact st.drop | exact st.drop1 | exact st.drop2 | exact st.drop3 | exact st.drop4 | exact st.drop.drop | exact st.drop.drop1 | exact st.drop.drop2 | exact st.drop.drop3 | exact st.drop.drop4 | exact st.drop.drop.drop | exact st_dropL st | exact st_dropL st.drop | exact st_none st) ?_
    refine TL.at ?_
    -- R14.22 72 := ipv4.go:52 call
    refine WL.call (r_call ty_call38 rfl) rfl rfl rfl (u16_at b o 10 _ _ bs (bs.getD 10 0 * 256 + bs.getD 11 0) rfl (by omega) rfl hbyt (moreL hrd [_]) st) ?_
    rintro _ w ⟨rfl, st⟩
    refine TL.nxt (by first | exact st | exact st.drop | exact st.drop1 | exact st.drop2 | exact st.drop3 | exact st.drop4 | exact st.drop.drop | exact st.drop.drop1 | exact st.drop.drop2 | exact st.drop.drop3 | exact st.drop.drop4 | exact st.drop.drop.drop | exact st_dropL st | exact st_dropL st.drop | exact st_none st) ?_
    refine TL.at ?_
    -- R14.23 73 := ipv4.go:44 build
    refine WL.v (by exact r_build (ps := [(0, .int _ _), (1, .int _ _), (2, .int _ _), (3, .int _ _), (4, .int _ _), (5, .int _ _), (6, .int _ _), (7, .int _ _)]) (vs := [_, _, _, _, _, _, _, _, _, _, _, _, _, _, _, _, _]) ty_pl36 ty_zero36 rfl (fill_step (pv := [_]) (cs' := [_, _, _, _, _, _, _, _, _, _, _, _, _, _, _, _, _]) rfl rfl rfl rfl (fill_step (pv := [_]) (cs' := [_, _, _, _, _, _, _, _, _, _, _, _, _, _, _, _, _]) rfl rfl rfl rfl (fill_step (pv := [_]) (cs' := [_, _, _, _, _, _, _, _, _, _, _, _, _, _, _, _, _]) rfl rfl rfl rfl (fill_step (pv := [_]) (cs' := [_, _, _, _, _, _, _, _, _, _, _, _, _, _, _, _, _]) rfl rfl rfl rfl (fill_step (pv := [_]) (cs' := [_, _, _, _, _, _, _, _, _, _, _, _, _, _, _, _, _]) rfl rfl rfl rfl (fill_step (pv := [_]) (cs' := [_, _, _, _, _, _, _, _, _, _, _, _, _, _, _, _, _]) rfl rfl rfl rfl (fill_step (pv := [_]) (cs' := [_, _, _, _, _, _, _, _, _, _, _, _, _, _, _, _, _]) rfl rfl rfl rfl (fill_step (pv := [_]) (cs' := [_, _, _, _, _, _, _, _, _, _, _, _, _, _, _, _, _]) rfl rfl rfl rfl (fill_nil)))))))))) rfl rfl rfl ?_
    refine TL.nxt' rfl ?_
    refine TL.at ?_
    -- R14.24 None := ipv4.go:44 store
    first | refine WL.storeW (vs := [_, _, _, _, _, _, _, _, _, _, _, _, _, _, _, _, _]) st ty_agg36 rfl rfl rfl rfl rfl rfl ?_ | refine WL.storeL (vs := [_, _, _, _, _, _, _, _, _, _, _, _, _, _, _, _, _]) st ty_agg36 rfl rfl rfl rfl (by first | decide | omega) rfl rfl ?_ | refine WL.storeW (vs := [_, _, _, _, _, _, _, _, _, _, _, _, _, _, _, _, _]) st.front1 ty_agg36 rfl rfl rfl rfl rfl rfl ?_ | refine WL.storeL (vs := [_, _, _, _, _, _, _, _, _, _, _, _, _, _, _, _, _]) st.front1 ty_agg36 rfl rfl rfl rfl (by first | decide | omega) rfl rfl ?_ | refine WL.storeW (vs := [_, _, _, _, _, _, _, _, _, _, _, _, _, _, _, _, _]) st.front2 ty_agg36 rfl rfl rfl rfl rfl rfl ?_ | refine WL.storeL (vs := [_, _, _, _, _, _, _, _, _, _, _, _, _, _, _, _, _]) st.front2 ty_agg36 rfl rfl rfl rfl (by first | decide | omega) rfl rfl ?_ | refine WL.storeW (vs := [_, _, _, _, _, _, _, _, _, _, _, _, _, _, _, _, _]) st.front3 ty_agg36 rfl rfl rfl rfl rfl rfl ?_ | refine WL.storeL (vs := [_, _, _, _, _, _, _, _, _, _, _, _, _, _, _, _, _]) st.front3 ty_agg36 rfl rfl rfl rfl (by first | decide | omega) rfl rfl ?_ | refine WL.storeW (vs := [_, _, _, _, _, _, _, _, _, _, _, _, _, _, _, _, _]) st.front4 ty_agg36 rfl rfl rfl rfl rfl rfl ?_ | refine WL.storeL (vs := [_, _, _, _, _, _, _, _, _, _, _, _, _, _, _, _, _]) st.front4 ty_agg36 rfl rfl rfl rfl (by first | decide | omega) rfl rfl ?_ | refine WL.storeW (vs := [_, _, _, _, _, _, _, _, _, _, _, _, _, _, _, _, _]) st.front5 ty_agg36 rfl rfl rfl rfl rfl rfl ?_ | refine WL.storeL (vs := [_, _, _, _, _, _, _, _, _, _, _, _, _, _, _, _, _]) st.front5 ty_agg36 rfl rfl rfl rfl (by first | decide | omega) rfl rfl ?_ | refine WL.storeW (vs := [_, _, _, _, _, _, _, _, _, _, _, _, _, _, _, _, _]) st.front6 ty_agg36 rfl rfl rfl rfl rfl rfl ?_ | refine WL.storeL (vs := [_, _, _, _, _, _, _, _, _, _, _, _, _, _, _, _, _]) st.front6 ty_agg36 rfl rfl rfl rfl (by first | decide | omega) rfl rfl ?_ | refine WL.storeW (vs := [_, _, _, _, _, _, _, _, _, _, _, _, _, _, _, _, _]) st.front7 ty_agg36 rfl rfl rfl rfl rfl rfl ?_ | refine WL.storeL (vs := [_, _, _, _, _, _, _, _, _, _, _, _, _, _, _, _, _]) st.front7 ty_agg36 rfl rfl rfl rfl (by first | decide | omega) rfl rfl ?_ | refine WL.storeW (vs := [_, _, _, _, _, _, _, _, _, _, _, _, _, _, _, _, _]) st.front8 ty_agg36 rfl rfl rfl rfl rfl rfl ?_ | refine WL.storeL (vs := [_, _, _, _, _, _, _, _, _, _, _, _, _, _, _, _, _]) st.front8 ty_agg36 rfl rfl rfl rfl (by first | decide | omega) rfl rfl ?_
    intro w st
    refine TL.nxt' rfl ?_
    refine TL.wl ?_
    refine WL.fin hK301 (fun _ _ h => h) ?_
    refine WC.seq fun K302 hK302 => ?_
    -- region 15 (draws)
    refine WC.tailS 4 st ty_mixed (by kernel_rfl) fun w st Kq hKq => ?_
    -- R15.0 74 := ipv4.go:54 fieldAddr
    refine SL.v (by exact r_field ty_fld36_8 rfl) rfl rfl rfl ?_
    -- R15.1 75 := ipv4.go:54 slice
    refine SL.v (by exact r_slAr ty_ar34 rfl) rfl rfl rfl ?_
    -- R15.2 76 := ipv4.go:54 move
    refine SL.v (by first | exact r_move (v := .slice _ _ _) rfl | exact r_move rfl) rfl rfl rfl ?_
    -- R15.3 77 := ipv4.go:54 slice
    refine SL.v (by first | exact r_slS (l := 12) (h := 16) ty_sl25 rfl ⟨_, rfl⟩ ⟨_, rfl⟩ rfl (fun h => by first | rfl | cases h) (by omega) (by omega) (by omega) (by omega) | exact r_sl (l := 12) (h := 16) ty_sl25 rfl ⟨_, rfl⟩ ⟨_, rfl⟩ rfl (fun h => by first | rfl | cases h) (by omega) (by omega) (by omega)) rfl rfl rfl ?_
    refine SL.fin hKq ?_
    -- R15.4 78 := ipv4.go:54 call
    refine WL.copyC (m := 4) (news := fun j => .int .u8 (bs.getD (12 + j) 0)) st ty_sl25 rfl rfl (by omega) (fun j hj => ?_) (fun j hj => rfl) rfl rfl rfl ?_
    · have := hrd [_] _ st (12 + j) (by omega)
      rw [show o + (12 + j) = o + 12 * 1 + j by omega] at this; exact this
    intro w st
    refine WL.fin hK302 (fun _ _ h => h) ?_
    refine WC.seq fun K303 hK303 => ?_
    -- region 16 (draws)
    refine WC.tailS 4 st ty_mixed (by kernel_rfl) fun w st Kq hKq => ?_
    -- R16.0 79 := ipv4.go:55 fieldAddr
    refine SL.v (by exact r_field ty_fld36_9 rfl) rfl rfl rfl ?_
    -- R16.1 80 := ipv4.go:55 slice
    refine SL.v (by exact r_slAr ty_ar34 rfl) rfl rfl rfl ?_
    -- R16.2 81 := ipv4.go:55 move
    refine SL.v (by first | exact r_move (v := .slice _ _ _) rfl | exact r_move rfl) rfl rfl rfl ?_
    -- R16.3 82 := ipv4.go:55 slice
    refine SL.v (by first | exact r_slS (l := 16) (h := 20) ty_sl25 rfl ⟨_, rfl⟩ ⟨_, rfl⟩ rfl (fun h => by first | rfl | cases h) (by omega) (by omega) (by omega) (by omega) | exact r_sl (l := 16) (h := 20) ty_sl25 rfl ⟨_, rfl⟩ ⟨_, rfl⟩ rfl (fun h => by first | rfl | cases h) (by omega) (by omega) (by omega)) rfl rfl rfl ?_
    refine SL.fin hKq ?_
    -- R16.4 83 := ipv4.go:55 call
    refine WL.copyC (m := 4) (news := fun j => .int .u8 (bs.getD (16 + j) 0)) st ty_sl25 rfl rfl (by omega) (fun j hj => ?_) (fun j hj => rfl) rfl rfl rfl ?_
    · have := hrd [_] _ st (16 + j) (by omega)
      rw [show o + (16 + j) = o + 16 * 1 + j by omega] at this; exact this
    intro w st
    refine WL.fin hK303 (fun _ _ h => h) ?_
    refine WC.seq fun K304 hK304 => ?_
    refine WC.seq fun K305 hK305 => ?_
    -- region 17
    have st := st_nrm (L' := ipL (ipX bs) (.slice none 0 0)) rfl st
    refine WC.region ?_
    -- R17.0 84 := ipv4.go:56 move
    refine WL.v (by first | exact r_move (v := .int _ _) rfl | exact r_move rfl) rfl rfl rfl ?_
    -- R17.1 85 := ipv4.go:56 binOp
    refine WL.v (by first | exact r_gtr rfl rfl (decide_eq_true (by omega)) | exact r_gtr rfl rfl (decide_eq_false (by omega)) | exact r_gtr rfl rfl rfl) rfl rfl rfl ?_
    refine WL.fin hK305 (fun _ _ h => h) ?_
    refine WC.condF rfl rfl ?_
    refine WC.skipF hK304 (fun _ _ h => h) ?_
    refine WC.seq fun K306 hK306 => ?_
    -- region 19 (draws)
    refine WC.heldS2 [4, 5, 6] [0] [1, 2, 3] [4, 5, 6] st (st) ty_mixed (by kernel_rfl) fun w st Kq Kq2 hKq hKq2 => ?_
    -- R19.0 91 := ipv4.go:59 load
    refine HL.v (fun w st => by exact r_loadL (vs := [_, _, _, _, _, _, _, _, _, _, _, _, _, _, _, _, _]) ty_agg36 rfl ⟨st.c0 (by decide), st.c0 (by decide), st.c0 (by decide), st.c0 (by decide), st.c0 (by decide), st.c0 (by decide), st.c0 (by decide), st.c0 (by decide), st.c0 (by decide), st.c0 (by decide), st.c0 (by decide), st.c0 (by decide), st.c0 (by decide), st.c0 (by decide), st.c0 (by decide), st.c0 (by decide), st.c0 (by decide), trivial⟩) rfl rfl rfl ?_
    refine HL.pure hKq ?_
    -- R19.1 92 := ipv4.go:59 move
    refine HL.v (fun w _ => by first | exact r_move (v := .slice _ _ _) rfl | exact r_move rfl) rfl rfl rfl ?_
    -- R19.2 93 := ipv4.go:59 move
    refine HL.v (fun w _ => by first | exact r_move (v := .int _ _) rfl | exact r_move rfl) rfl rfl rfl ?_
    -- R19.3 94 := ipv4.go:59 slice
    refine HL.v (fun w _ => by exact r_sl (l := q * 4) ty_sl25 rfl ⟨_, rfl⟩ rfl rfl (fun h => by first | rfl | cases h) (by omega) (by omega) (by omega)) rfl rfl rfl ?_
    refine HL.fin hKq2 ?_
    refine TL.at ?_
    -- R19.4 None := ipv4.go:59 store
    first | refine WL.storeW (vs := [_, _, _, _, _, _, _, _, _, _, _, _, _, _, _, _, _]) st ty_agg36 rfl rfl rfl rfl rfl rfl ?_ | refine WL.storeL (vs := [_, _, _, _, _, _, _, _, _, _, _, _, _, _, _, _, _]) st ty_agg36 rfl rfl rfl rfl (by first | decide | omega) rfl rfl ?_ | refine WL.storeW (vs := [_, _, _, _, _, _, _, _, _, _, _, _, _, _, _, _, _]) st.front1 ty_agg36 rfl rfl rfl rfl rfl rfl ?_ | refine WL.storeL (vs := [_, _, _, _, _, _, _, _, _, _, _, _, _, _, _, _, _]) st.front1 ty_agg36 rfl rfl rfl rfl (by first | decide | omega) rfl rfl ?_ | refine WL.storeW (vs := [_, _, _, _, _, _, _, _, _, _, _, _, _, _, _, _, _]) st.front2 ty_agg36 rfl rfl rfl rfl rfl rfl ?_ | refine WL.storeL (vs := [_, _, _, _, _, _, _, _, _, _, _, _, _, _, _, _, _]) st.front2 ty_agg36 rfl rfl rfl rfl (by first | decide | omega) rfl rfl ?_ | refine WL.storeW (vs := [_, _, _, _, _, _, _, _, _, _, _, _, _, _, _, _, _]) st.front3 ty_agg36 rfl rfl rfl rfl rfl rfl ?_ | refine WL.storeL (vs := [_, _, _, _, _, _, _, _, _, _, _, _, _, _, _, _, _]) st.front3 ty_agg36 rfl rfl rfl rfl (by first | decide | omega) rfl rfl ?_ | refine WL.storeW (vs := [_, _, _, _, _, _, _, _, _, _, _, _, _, _, _, _, _]) st.front4 ty_agg36 rfl rfl rfl rfl rfl rfl ?_ | refine WL.storeL (vs := [_, _, _, _, _, _, _, _, _, _, _, _, _, _, _, _, _]) st.front4 ty_agg36 rfl rfl rfl rfl (by first | decide | omega) rfl rfl ?_ | refine WL.storeW (vs := [_, _, _, _, _, _, _, _, _, _, _, _, _, _, _, _, _]) st.front5 ty_agg36 rfl rfl rfl rfl rfl rfl ?_ | refine WL.storeL (vs := [_, _, _, _, _, _, _, _, _, _, _, _, _, _, _, _, _]) st.front5 ty_agg36 rfl rfl rfl rfl (by first | decide | omega) rfl rfl ?_ | refine WL.storeW (vs := [_, _, _, _, _, _, _, _, _, _, _, _, _, _, _, _, _]) st.front6 ty_agg36 rfl rfl rfl rfl rfl rfl ?_ | refine WL.storeL (vs := [_, _, _, _, _, _, _, _, _, _, _, _, _, _, _, _, _]) st.front6 ty_agg36 rfl rfl rfl rfl (by first | decide | omega) rfl rfl ?_ | refine WL.storeW (vs := [_, _, _, _, _, _, _, _, _, _, _, _, _, _, _, _, _]) st.front7 ty_agg36 rfl rfl rfl rfl rfl rfl ?_ | refine WL.storeL (vs := [_, _, _, _, _, _, _, _, _, _, _, _, _, _, _, _, _]) st.front7 ty_agg36 rfl rfl rfl rfl (by first | decide | omega) rfl rfl ?_ | refine WL.storeW (vs := [_, _, _, _, _, _, _, _, _, _, _, _, _, _, _, _, _]) st.front8 ty_agg36 rfl rfl rfl rfl rfl rfl ?_ | refine WL.storeL (vs := [_, _, _, _, _, _, _, _, _, _, _, _, _, _, _, _, _]) st.front8 ty_agg36 rfl rfl rfl rfl (by first | decide | omega) rfl rfl ?_
    intro w st
    refine TL.nxt' rfl ?_
    refine TL.at ?_
    -- R19.5 3 := ipv4.go:59 assign
    refine WL.v (by first | exact r_assign (v := .slice _ _ _) rfl | exact r_assign rfl) rfl rfl rfl ?_
    refine TL.nxt' rfl ?_
    refine TL.at ?_
    -- R19.6 4 := ipv4.go:59 assign
    refine WL.v (by first | exact r_assign (v := .nilIface) rfl | exact r_assign (v := .iface _ _) rfl | exact r_assign rfl) rfl rfl rfl ?_
    refine TL.nxt' rfl ?_
    refine TL.wl ?_
    refine WL.fin hK306 (fun _ _ h => h) ?_
    refine WC.retCTT (vs := [_, _, _, _, _, _, _, _, _, _, _, _, _, _, _, _, _]) Tryd.results28 (fun _ _ h => h) rfl ty_agg36 rfl ⟨st.c0 (by decide), st.c0 (by decide), st.c0 (by decide), st.c0 (by decide), st.c0 (by decide), st.c0 (by decide), st.c0 (by decide), st.c0 (by decide), st.c0 (by decide), st.c0 (by decide), st.c0 (by decide), st.c0 (by decide), st.c0 (by decide), st.c0 (by decide), st.c0 (by decide), st.c0 (by decide), st.c0 (by decide), trivial⟩ ?_
    refine ⟨_, rfl, .inr ⟨hI, SV.nil, SV.nil_ok, ?_, fun w' h => SV.nil_rd _, ?_⟩, st.drop⟩
    · simp only
      rw [hqh, List.drop_eq_nil_of_le (by simp; omega)]; rfl
    · rw [e2]; rfl
end Go.Proofs.Qxb6500841aDoor

