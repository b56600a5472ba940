import Derived.Test.Qxb6500837aDoorD34
set_option linter.unusedVariables false
set_option linter.unusedSimpArgs false
set_option maxRecDepth 20000
namespace Go.Proofs.Qxb6500837aDoor
open Go.RowKit Go.E1 Go.Disk
variable {w0 : World} {L L' l I J K K' : List HI} {w : World} {D : DK} {m : Int} {P : PD} {q : Obj → Prop} {NS : Int → Option Value} {f : Nat → Value}
variable {bq bm : Nat} {wv kv : Value} {t tb : Int} {pc : Nat → Nat → Int} {pend : List (Nat × (Nat → Int))}

theorem stP_self {s n : Nat} {h : Nat → Int} (hn : n ≤ 512) : stP pc s 512 (stP pc s n h s) = stP pc s n h := by
  funext a b
  unfold stP
  by_cases h1 : a = s
  · by_cases h2 : b < 512
    · rw [if_pos ⟨h1, h2⟩]
      by_cases h3 : b < n
      · rw [if_pos ⟨rfl, h3⟩, if_pos ⟨h1, h3⟩]
      · rw [if_neg (fun h => h3 h.2), if_neg (fun h => h3 h.2), h1]
    · rw [if_neg (fun h => h2 h.2), if_neg (fun h => h2 (by have := h.2; omega))]
  · rw [if_neg (fun h => h1 h.1), if_neg (fun h => h1 h.1)]

abbrev sl5 (b : Nat) : Value := .slice (some ⟨b, 0, none⟩) 512 512
set_option maxHeartbeats 4000000 in
theorem settleM_ok {n : Nat} {p : Nat × (Nat → Int)} {v : Value} (hbk : Bk w0 K P.sec pc pend NS f) (hs : p.1 < P.sec) (hsec : P.sec ≤ 65536) (hv : Sees w0 K v (bytesOf 512 p.2)) (hn : n ≤ 512) (hKl : K ⊆ l) (st : S0 w0 (mdI bq bm P wv kv t tb :: mpI bm NS :: l) w) :
    Calls Tryd.prog 45 #[.pointer (some ⟨bq, 0, none⟩), .agg #[.int .i64 (p.1 : Nat), v], .int .i64 (n : Nat)] w (Ret fun v w' => ∃ b, v = .tuple #[] ∧ S0 w0 (mdI bq bm P wv kv t tb :: mpI bm (setN NS (p.1 : Int) (sl5 b)) :: iI b 512 (stP pc p.1 n p.2 p.1) :: l) w') := by
  obtain ⟨s0, hv, hb, ho, hr⟩ := hv
  have hl : s0.bs.length = 512 := by rw [hb, bytesOf_len]
  have ha := ho.adr (by omega)
  have hc := ho.le
  have hv2 : v = .slice (some ⟨s0.b, s0.o, none⟩) 512 s0.c := by rw [← hv]; unfold SV.v; rw [ha, hl]
  subst hv2
  refine enter [.pointer (some ⟨bq, 0, none⟩), .agg #[.int .i64 (p.1 : Nat), .slice (some ⟨s0.b, s0.o, none⟩) 512 s0.c], .int .i64 (n : Nat)] Tryd.func45 rfl Tryd.ntmps45 rfl ?_
  show WC _ _ _ 26 [] [(0, .pointer (some ⟨bq, 0, none⟩)), (1, .agg #[.int .i64 (p.1 : Nat), .slice (some ⟨s0.b, s0.o, none⟩) 512 s0.c]), (2, .int .i64 (n : Nat))] _
  refine WC.seq fun K1121 hK1121 => ?_
  -- region 0
  refine WC.region ?_
  -- R0.0 4 := diskm.go:49 box
  first | refine WL.box (m := 2) (vs := [.int _ _, .slice _ _ _]) st rfl rfl rfl rfl rfl rfl ?_ | refine WL.box (m := 2) (vs := [_, _]) st rfl rfl rfl rfl rfl rfl ?_ | refine WL.box st rfl rfl rfl rfl rfl rfl ?_
  intro b4 w st
  refine WL.fin hK1121 (fun _ _ h => h) ?_
  refine WC.seq fun K1122 hK1122 => ?_
  -- region 1
  refine WC.region ?_
  -- R1.0 7 := diskm.go:50 move
  refine WL.v (by first | exact r_move (v := .pointer _) rfl | exact r_move rfl) rfl rfl rfl ?_
  -- R1.1 8 := diskm.go:50 fieldAddr
  refine WL.v (by exact r_field ty_fld63_0 rfl) rfl rfl rfl ?_
  -- R1.2 9 := diskm.go:50 load
  refine WL.v (by exact r_load1 ty_one2 rfl (by first | assumption | exact st.c0 (by first | decide | omega) | exact st.c1 (by first | decide | omega) | exact st.c2 (by first | decide | omega) | exact st.c3 (by first | decide | omega) | exact st.c4 (by first | decide | omega) | exact st.c5 (by first | decide | omega) | exact st.c6 (by first | decide | omega) | exact st.c7 (by first | decide | omega) | exact st.c8 (by first | decide | omega))) rfl rfl rfl ?_
  -- R1.3 10 := diskm.go:50 call
  refine WL.call (r_call ty_call24 rfl) rfl rfl rfl (onPlatter_ok (P := { P with pc := pc, pend := pend }) (s := p.1) hbk hs hsec (fun x hx => List.mem_cons_of_mem _ (hKl hx)) (st.perm (List.perm_append_comm_assoc [_] [_, _] _))) ?_
  rintro _ w ⟨b, rfl, st⟩
  -- R1.4 6 := diskm.go:50 assign
  refine WL.v (by first | exact r_assign (v := .slice _ _ _) rfl | exact r_assign rfl) rfl rfl rfl ?_
  refine WL.fin hK1122 (fun _ _ h => h) ?_
  refine WC.seq fun K1123 hK1123 => ?_
  -- region 2 (draws)
  refine WC.tailS 7 st ty_mixed (by kernel_rfl) fun w st Kq hKq => ?_
  -- R2.0 11 := diskm.go:51 move
  refine SL.v (by first | exact r_move (v := .slice _ _ _) rfl | exact r_move rfl) rfl rfl rfl ?_
  -- R2.1 12 := diskm.go:51 move
  refine SL.v (by first | exact r_move (v := .int _ _) rfl | exact r_move rfl) rfl rfl rfl ?_
  -- R2.2 13 := diskm.go:51 slice
  refine SL.v (val := .slice (some ⟨b, 0, none⟩) n 512) (by exact r_slH ty_sl29 rfl ⟨_, rfl⟩ hn (Nat.le_refl _)) rfl rfl rfl ?_
  -- R2.3 14 := diskm.go:51 fieldAddr
  refine SL.v (by exact r_field ty_fld63_1 rfl) rfl rfl rfl ?_
  -- R2.4 15 := diskm.go:51 load
  refine SL.v (by exact r_load1 ty_one29 rfl (by first | assumption | exact st.c0 (by first | decide | omega) | exact st.c1 (by first | decide | omega) | exact st.c2 (by first | decide | omega) | exact st.c3 (by first | decide | omega) | exact st.c4 (by first | decide | omega) | exact st.c5 (by first | decide | omega) | exact st.c6 (by first | decide | omega) | exact st.c7 (by first | decide | omega) | exact st.c8 (by first | decide | omega))) rfl rfl rfl ?_
  -- R2.5 16 := diskm.go:51 move
  refine SL.v (by first | exact r_move (v := .int _ _) rfl | exact r_move rfl) rfl rfl rfl ?_
  -- R2.6 17 := diskm.go:51 slice
  refine SL.v (val := .slice (some ⟨s0.b, s0.o, none⟩) n s0.c) (by exact r_slH ty_sl29 rfl ⟨_, rfl⟩ hn (by omega)) rfl rfl rfl ?_
  refine SL.fin hKq ?_
  -- R2.7 18 := diskm.go:51 call
  refine WL.copyM (m := n) (m1 := n) (o := 0) (bx := s0.b) (ox := s0.o) (news := fun j => .int .u8 (p.2 j)) st ty_sl29 rfl rfl (Nat.le_refl _) (by omega) (fun j hj => by have := hr _ _ (fun x hx => List.mem_cons_of_mem _ (List.mem_cons_of_mem _ (List.mem_cons_of_mem _ (List.mem_cons_of_mem _ (hKl hx))))) st j (by omega); rw [hb, bytesOf_get (by omega)] at this; exact this) (fun _ _ => rfl) rfl rfl rfl ?_
  intro w st
  refine WL.fin hK1123 (fun _ _ h => h) ?_
  -- region 3 (draws)
  refine WC.tailS 7 st ty_mixed (by kernel_rfl) fun w st Kq hKq => ?_
  -- R3.0 19 := diskm.go:52 move
  refine SL.v (by first | exact r_move (v := .pointer _) rfl | exact r_move rfl) rfl rfl rfl ?_
  -- R3.1 20 := diskm.go:52 nilCheck
  refine SL.v (by exact r_nilCheck rfl) rfl rfl rfl ?_
  -- R3.2 21 := diskm.go:52 fieldAddr
  refine SL.v (by exact r_field ty_fld48_2 rfl) rfl rfl rfl ?_
  -- R3.3 22 := diskm.go:52 load
  refine SL.v (by exact r_load1 ty_one45 rfl (by first | assumption | exact st.c0 (by first | decide | omega) | exact st.c1 (by first | decide | omega) | exact st.c2 (by first | decide | omega) | exact st.c3 (by first | decide | omega) | exact st.c4 (by first | decide | omega) | exact st.c5 (by first | decide | omega) | exact st.c6 (by first | decide | omega) | exact st.c7 (by first | decide | omega) | exact st.c8 (by first | decide | omega))) rfl rfl rfl ?_
  -- R3.4 23 := diskm.go:52 fieldAddr
  refine SL.v (by exact r_field ty_fld63_0 rfl) rfl rfl rfl ?_
  -- R3.5 24 := diskm.go:52 load
  refine SL.v (by exact r_load1 ty_one2 rfl (by first | assumption | exact st.c0 (by first | decide | omega) | exact st.c1 (by first | decide | omega) | exact st.c2 (by first | decide | omega) | exact st.c3 (by first | decide | omega) | exact st.c4 (by first | decide | omega) | exact st.c5 (by first | decide | omega) | exact st.c6 (by first | decide | omega) | exact st.c7 (by first | decide | omega) | exact st.c8 (by first | decide | omega))) rfl rfl rfl ?_
  -- R3.6 25 := diskm.go:52 move
  refine SL.v (by first | exact r_move (v := .slice _ _ _) rfl | exact r_move rfl) rfl rfl rfl ?_
  refine SL.fin hKq ?_
  -- R3.7 None := diskm.go:52 mapUpdate
  refine WL.mapSetI (s := ((p.1 : Nat) : Int)) (val := sl5 b) ty_kb2 st.front2 ty_mp45 rfl rfl rfl (good64 (by omega) (by omega)) rfl rfl ?_
  intro w st
  refine WL.end0 Tryd.results45 (fun _ _ h => h) ?_
  rw [row_eq (b := 0) (g := fun j => .int .u8 (stP pc p.1 n p.2 p.1 j)) fun k hk => by
    rw [upds_eq]
    unfold stP
    by_cases hkn : k < n
    · rw [if_pos (by omega), if_pos ⟨rfl, hkn⟩]; rfl
    · rw [if_neg (by omega), if_neg (fun h => hkn h.2)]] at st
  exact ⟨_, rfl, b, rfl, st.drop3.front2⟩

set_option maxHeartbeats 16000000 in
theorem crashMM_ok {XW : List HI} (s : SV) (tear tb2 : Int) (hbk : Bk w0 K P.sec P.pc P.pend NS f) (hown : OwnP 63 2 wv P.pend.length XW f) (hp : PWf P) (hs : s.ok) (hl : s.bs.length ≤ 65536) (hr : s.rd w0) (hKl : K ⊆ l) (hXl : XW ⊆ l) (st : S0 w0 (mdI bq bm P wv kv t tb :: mpI bm NS :: l) w) :
    Calls Tryd.prog 46 #[.pointer (some ⟨bq, 0, none⟩), .agg #[.slice s.a s.bs.length s.c, .int .i64 tear, .int .i64 tb2]] w (Ret fun v w' => ∃ NS' KN, v = .tuple #[] ∧ Bk w0 (KN ++ K) P.sec (crashPc s.bs tear (kOf tb2) 0 P.pc P.pend) [] NS' f ∧ S0 w0 (mdI bq bm (crashP P s.bs tear tb2) (.slice none 0 0) kv t tb :: mpI bm NS' :: (KN ++ l)) w') := by
  obtain ⟨k, hk⟩ : ∃ k, k = kOf tb2 := ⟨_, rfl⟩
  have hk5 : k ≤ 512 := by rw [hk]; exact kOf_le tb2
  obtain ⟨t1, ht1⟩ : ∃ t1 : Int, t1 = if 0 > tb2 then 0 else tb2 := ⟨_, rfl⟩
  have hkt : (k : Int) = if 512 < t1 then 512 else t1 := by
    rw [hk, ht1]; unfold kOf
    by_cases h1 : tb2 < 0
    · rw [if_pos h1, if_pos h1, if_neg (by decide)]; rfl
    · rw [if_neg h1, if_neg h1]
      by_cases h2 : 512 < tb2
      · rw [if_pos h2, if_pos h2]; rfl
      · rw [if_neg h2, if_neg h2]; omega
  rw [← hk]
  obtain ⟨wa, wc, wb, wo, rfl, hwc, hwa, hwrd⟩ := hown.form
  have hple := hp.ple; have hl2 := hp.l2; have hs2 := hp.s2
  refine enter [.pointer (some ⟨bq, 0, none⟩), .agg #[.slice s.a s.bs.length s.c, .int .i64 tear, .int .i64 tb2]] Tryd.func46 rfl Tryd.ntmps46 rfl ?_
  show WC _ _ _ 65 [] [(0, .pointer (some ⟨bq, 0, none⟩)), (1, .agg #[.slice s.a s.bs.length s.c, .int .i64 tear, .int .i64 tb2])] _
  refine WC.seq fun K1124 hK1124 => ?_
  -- region 0
  refine WC.region ?_
  -- R0.0 3 := diskm.go:61 box
  first | refine WL.box (m := 3) (vs := [.slice _ _ _, .int _ _, .int _ _]) st rfl rfl rfl rfl rfl rfl ?_ | refine WL.box (m := 3) (vs := [_, _, _]) st rfl rfl rfl rfl rfl rfl ?_ | refine WL.box st rfl rfl rfl rfl rfl rfl ?_
  intro b3 w st
  refine WL.fin hK1124 (fun _ _ h => h) ?_
  refine WC.seq fun K1125 hK1125 => ?_
  refine WC.seq fun K1126 hK1126 => ?_
  -- region 1
  refine WC.region ?_
  -- R1.0 8 := diskm.go:62 move
  refine WL.v (by first | exact r_move (v := .pointer _) rfl | exact r_move rfl) rfl rfl rfl ?_
  -- R1.1 9 := diskm.go:62 nilCheck
  refine WL.v (by exact r_nilCheck rfl) rfl rfl rfl ?_
  -- R1.2 10 := diskm.go:62 fieldAddr
  refine WL.v (by exact r_field ty_fld48_3 rfl) rfl rfl rfl ?_
  -- R1.3 11 := diskm.go:62 load
  refine WL.v (by exact r_load1 ty_one46 rfl (by first | assumption | exact st.c0 (by first | decide | omega) | exact st.c1 (by first | decide | omega) | exact st.c2 (by first | decide | omega) | exact st.c3 (by first | decide | omega) | exact st.c4 (by first | decide | omega) | exact st.c5 (by first | decide | omega) | exact st.c6 (by first | decide | omega) | exact st.c7 (by first | decide | omega) | exact st.c8 (by first | decide | omega))) rfl rfl rfl ?_
  -- R1.4 12 := diskm.go:62 call
  refine WL.v (by exact r_len ty_usl46 rfl) rfl rfl rfl ?_
  -- R1.5 13 := diskm.go:62 move
  refine WL.v (by first | exact r_move (v := .int _ _) rfl | exact r_move rfl) rfl rfl rfl ?_
  refine WL.fin hK1126 (fun _ _ h => h) ?_
  refine WC.block ?_
  have st : S0 w0 (mdI bq bm P (.slice wa P.pend.length wc) kv t tb :: mpI bm NS :: plI b3 s tear tb2 :: ([] ++ l)) w := st.perm (List.perm_append_comm_assoc [_] [_, _] _)
  refine WC.loop (ι := Nat × (Int → Option Value) × List HI) (fun z => [(0, .pointer (some ⟨bq, 0, none⟩)), (3, .pointer (some ⟨b3, 0, none⟩)), (11, .slice wa P.pend.length wc), (12, .int .i64 (P.pend.length : Nat)), (13, .int .i64 (z.1 : Nat))])
    (fun z w' => z.1 ≤ P.pend.length ∧ Bk w0 (z.2.2 ++ K) P.sec (crashPc s.bs tear k 0 P.pc (P.pend.take z.1)) P.pend z.2.1 f ∧ (∀ a b, 0 ≤ crashPc s.bs tear k 0 P.pc (P.pend.take z.1) a b ∧ crashPc s.bs tear k 0 P.pc (P.pend.take z.1) a b < 256) ∧ S0 w0 (mdI bq bm P (.slice wa P.pend.length wc) kv t tb :: mpI bm z.2.1 :: plI b3 s tear tb2 :: (z.2.2 ++ l)) w') (fun z => P.pend.length - z.1) (0, NS, []) ⟨Nat.zero_le _, hbk, hp.pcr, st⟩ ?_ ?_
  · skip
    repeat (first | exact sub_nil _ | refine sub_cons rfl rfl ?_)
  rintro ⟨i, NI, KN⟩ w ⟨hi, hbi, hri, st⟩ K1 hK1
  dsimp only at hi hbi hri st ⊢
  by_cases hil : ¬ i < P.pend.length
  · skip
    refine WC.seq fun K1127 hK1127 => ?_
    -- region 2
    refine WC.region ?_
    -- R2.0 14 := diskm.go:62 binOp
    refine WL.v (by first | exact r_lss rfl rfl (decide_eq_true (by omega)) | exact r_lss rfl rfl (decide_eq_false (by omega)) | exact r_lss rfl rfl rfl) rfl rfl rfl ?_
    refine WL.fin hK1127 (fun _ _ h => h) ?_
    refine WC.seq fun K1128 hK1128 => ?_
    refine WC.condF rfl rfl ?_
    refine WC.exitF hK1125 (fun _ _ h => h) ?_
    refine WC.seq fun K1129 hK1129 => ?_
    -- region 12
    refine WC.region ?_
    -- R12.0 53 := diskm.go:76 move
    refine WL.v (by first | exact r_move (v := .pointer _) rfl | exact r_move rfl) rfl rfl rfl ?_
    -- R12.1 54 := diskm.go:76 nilCheck
    refine WL.v (by exact r_nilCheck rfl) rfl rfl rfl ?_
    -- R12.2 55 := diskm.go:76 fieldAddr
    refine WL.v (by exact r_field ty_fld48_3 rfl) rfl rfl rfl ?_
    -- R12.3 None := diskm.go:76 store
    first | refine WL.store (v := .slice _ _ _) st ty_one46 rfl rfl rfl (by first | decide | omega) rfl rfl ?_ | refine WL.store (v := _) st ty_one46 rfl rfl rfl (by first | decide | omega) rfl rfl ?_ | refine WL.store (v := .slice _ _ _) st.front1 ty_one46 rfl rfl rfl (by first | decide | omega) rfl rfl ?_ | refine WL.store (v := _) st.front1 ty_one46 rfl rfl rfl (by first | decide | omega) rfl rfl ?_ | refine WL.store (v := .slice _ _ _) st.front2 ty_one46 rfl rfl rfl (by first | decide | omega) rfl rfl ?_ | refine WL.store (v := _) st.front2 ty_one46 rfl rfl rfl (by first | decide | omega) rfl rfl ?_ | refine WL.store (v := .slice _ _ _) st.front3 ty_one46 rfl rfl rfl (by first | decide | omega) rfl rfl ?_ | refine WL.store (v := _) st.front3 ty_one46 rfl rfl rfl (by first | decide | omega) rfl rfl ?_ | refine WL.store (v := .slice _ _ _) st.front4 ty_one46 rfl rfl rfl (by first | decide | omega) rfl rfl ?_ | refine WL.store (v := _) st.front4 ty_one46 rfl rfl rfl (by first | decide | omega) rfl rfl ?_ | refine WL.store (v := .slice _ _ _) st.front5 ty_one46 rfl rfl rfl (by first | decide | omega) rfl rfl ?_ | refine WL.store (v := _) st.front5 ty_one46 rfl rfl rfl (by first | decide | omega) rfl rfl ?_ | refine WL.store (v := .slice _ _ _) st.front6 ty_one46 rfl rfl rfl (by first | decide | omega) rfl rfl ?_ | refine WL.store (v := _) st.front6 ty_one46 rfl rfl rfl (by first | decide | omega) rfl rfl ?_ | refine WL.store (v := .slice _ _ _) st.front7 ty_one46 rfl rfl rfl (by first | decide | omega) rfl rfl ?_ | refine WL.store (v := _) st.front7 ty_one46 rfl rfl rfl (by first | decide | omega) rfl rfl ?_ | refine WL.store (v := .slice _ _ _) st.front8 ty_one46 rfl rfl rfl (by first | decide | omega) rfl rfl ?_ | refine WL.store (v := _) st.front8 ty_one46 rfl rfl rfl (by first | decide | omega) rfl rfl ?_
    intro w st
    refine WL.fin hK1129 (fun _ _ h => h) ?_
    refine WC.seq fun K1130 hK1130 => ?_
    -- region 13
    refine WC.region ?_
    -- R13.0 56 := diskm.go:77 move
    refine WL.v (by first | exact r_move (v := .pointer _) rfl | exact r_move rfl) rfl rfl rfl ?_
    -- R13.1 57 := diskm.go:77 nilCheck
    refine WL.v (by exact r_nilCheck rfl) rfl rfl rfl ?_
    -- R13.2 58 := diskm.go:77 fieldAddr
    refine WL.v (by exact r_field ty_fld48_5 rfl) rfl rfl rfl ?_
    -- R13.3 None := diskm.go:77 store
    first | refine WL.store (v := .bool _) st ty_one4 rfl rfl rfl (by first | decide | omega) rfl rfl ?_ | refine WL.store (v := _) st ty_one4 rfl rfl rfl (by first | decide | omega) rfl rfl ?_ | refine WL.store (v := .bool _) st.front1 ty_one4 rfl rfl rfl (by first | decide | omega) rfl rfl ?_ | refine WL.store (v := _) st.front1 ty_one4 rfl rfl rfl (by first | decide | omega) rfl rfl ?_ | refine WL.store (v := .bool _) st.front2 ty_one4 rfl rfl rfl (by first | decide | omega) rfl rfl ?_ | refine WL.store (v := _) st.front2 ty_one4 rfl rfl rfl (by first | decide | omega) rfl rfl ?_ | refine WL.store (v := .bool _) st.front3 ty_one4 rfl rfl rfl (by first | decide | omega) rfl rfl ?_ | refine WL.store (v := _) st.front3 ty_one4 rfl rfl rfl (by first | decide | omega) rfl rfl ?_ | refine WL.store (v := .bool _) st.front4 ty_one4 rfl rfl rfl (by first | decide | omega) rfl rfl ?_ | refine WL.store (v := _) st.front4 ty_one4 rfl rfl rfl (by first | decide | omega) rfl rfl ?_ | refine WL.store (v := .bool _) st.front5 ty_one4 rfl rfl rfl (by first | decide | omega) rfl rfl ?_ | refine WL.store (v := _) st.front5 ty_one4 rfl rfl rfl (by first | decide | omega) rfl rfl ?_ | refine WL.store (v := .bool _) st.front6 ty_one4 rfl rfl rfl (by first | decide | omega) rfl rfl ?_ | refine WL.store (v := _) st.front6 ty_one4 rfl rfl rfl (by first | decide | omega) rfl rfl ?_ | refine WL.store (v := .bool _) st.front7 ty_one4 rfl rfl rfl (by first | decide | omega) rfl rfl ?_ | refine WL.store (v := _) st.front7 ty_one4 rfl rfl rfl (by first | decide | omega) rfl rfl ?_ | refine WL.store (v := .bool _) st.front8 ty_one4 rfl rfl rfl (by first | decide | omega) rfl rfl ?_ | refine WL.store (v := _) st.front8 ty_one4 rfl rfl rfl (by first | decide | omega) rfl rfl ?_
    intro w st
    refine WL.fin hK1130 (fun _ _ h => h) ?_
    refine WC.seq fun K1131 hK1131 => ?_
    -- region 14
    refine WC.region ?_
    -- R14.0 59 := diskm.go:78 move
    refine WL.v (by first | exact r_move (v := .pointer _) rfl | exact r_move rfl) rfl rfl rfl ?_
    -- R14.1 60 := diskm.go:78 nilCheck
    refine WL.v (by exact r_nilCheck rfl) rfl rfl rfl ?_
    -- R14.2 61 := diskm.go:78 fieldAddr
    refine WL.v (by exact r_field ty_fld48_6 rfl) rfl rfl rfl ?_
    -- R14.3 None := diskm.go:78 store
    first | refine WL.store (v := .int _ _) st ty_one2 rfl rfl rfl (by first | decide | omega) rfl rfl ?_ | refine WL.store (v := _) st ty_one2 rfl rfl rfl (by first | decide | omega) rfl rfl ?_ | refine WL.store (v := .int _ _) st.front1 ty_one2 rfl rfl rfl (by first | decide | omega) rfl rfl ?_ | refine WL.store (v := _) st.front1 ty_one2 rfl rfl rfl (by first | decide | omega) rfl rfl ?_ | refine WL.store (v := .int _ _) st.front2 ty_one2 rfl rfl rfl (by first | decide | omega) rfl rfl ?_ | refine WL.store (v := _) st.front2 ty_one2 rfl rfl rfl (by first | decide | omega) rfl rfl ?_ | refine WL.store (v := .int _ _) st.front3 ty_one2 rfl rfl rfl (by first | decide | omega) rfl rfl ?_ | refine WL.store (v := _) st.front3 ty_one2 rfl rfl rfl (by first | decide | omega) rfl rfl ?_ | refine WL.store (v := .int _ _) st.front4 ty_one2 rfl rfl rfl (by first | decide | omega) rfl rfl ?_ | refine WL.store (v := _) st.front4 ty_one2 rfl rfl rfl (by first | decide | omega) rfl rfl ?_ | refine WL.store (v := .int _ _) st.front5 ty_one2 rfl rfl rfl (by first | decide | omega) rfl rfl ?_ | refine WL.store (v := _) st.front5 ty_one2 rfl rfl rfl (by first | decide | omega) rfl rfl ?_ | refine WL.store (v := .int _ _) st.front6 ty_one2 rfl rfl rfl (by first | decide | omega) rfl rfl ?_ | refine WL.store (v := _) st.front6 ty_one2 rfl rfl rfl (by first | decide | omega) rfl rfl ?_ | refine WL.store (v := .int _ _) st.front7 ty_one2 rfl rfl rfl (by first | decide | omega) rfl rfl ?_ | refine WL.store (v := _) st.front7 ty_one2 rfl rfl rfl (by first | decide | omega) rfl rfl ?_ | refine WL.store (v := .int _ _) st.front8 ty_one2 rfl rfl rfl (by first | decide | omega) rfl rfl ?_ | refine WL.store (v := _) st.front8 ty_one2 rfl rfl rfl (by first | decide | omega) rfl rfl ?_
    intro w st
    refine WL.fin hK1131 (fun _ _ h => h) ?_
    -- region 15
    refine WC.region ?_
    -- R15.0 62 := diskm.go:79 move
    refine WL.v (by first | exact r_move (v := .pointer _) rfl | exact r_move rfl) rfl rfl rfl ?_
    -- R15.1 63 := diskm.go:79 nilCheck
    refine WL.v (by exact r_nilCheck rfl) rfl rfl rfl ?_
    -- R15.2 64 := diskm.go:79 fieldAddr
    refine WL.v (by exact r_field ty_fld48_4 rfl) rfl rfl rfl ?_
    -- R15.3 None := diskm.go:79 store
    first | refine WL.store (v := .bool _) st ty_one4 rfl rfl rfl (by first | decide | omega) rfl rfl ?_ | refine WL.store (v := _) st ty_one4 rfl rfl rfl (by first | decide | omega) rfl rfl ?_ | refine WL.store (v := .bool _) st.front1 ty_one4 rfl rfl rfl (by first | decide | omega) rfl rfl ?_ | refine WL.store (v := _) st.front1 ty_one4 rfl rfl rfl (by first | decide | omega) rfl rfl ?_ | refine WL.store (v := .bool _) st.front2 ty_one4 rfl rfl rfl (by first | decide | omega) rfl rfl ?_ | refine WL.store (v := _) st.front2 ty_one4 rfl rfl rfl (by first | decide | omega) rfl rfl ?_ | refine WL.store (v := .bool _) st.front3 ty_one4 rfl rfl rfl (by first | decide | omega) rfl rfl ?_ | refine WL.store (v := _) st.front3 ty_one4 rfl rfl rfl (by first | decide | omega) rfl rfl ?_ | refine WL.store (v := .bool _) st.front4 ty_one4 rfl rfl rfl (by first | decide | omega) rfl rfl ?_ | refine WL.store (v := _) st.front4 ty_one4 rfl rfl rfl (by first | decide | omega) rfl rfl ?_ | refine WL.store (v := .bool _) st.front5 ty_one4 rfl rfl rfl (by first | decide | omega) rfl rfl ?_ | refine WL.store (v := _) st.front5 ty_one4 rfl rfl rfl (by first | decide | omega) rfl rfl ?_ | refine WL.store (v := .bool _) st.front6 ty_one4 rfl rfl rfl (by first | decide | omega) rfl rfl ?_ | refine WL.store (v := _) st.front6 ty_one4 rfl rfl rfl (by first | decide | omega) rfl rfl ?_ | refine WL.store (v := .bool _) st.front7 ty_one4 rfl rfl rfl (by first | decide | omega) rfl rfl ?_ | refine WL.store (v := _) st.front7 ty_one4 rfl rfl rfl (by first | decide | omega) rfl rfl ?_ | refine WL.store (v := .bool _) st.front8 ty_one4 rfl rfl rfl (by first | decide | omega) rfl rfl ?_ | refine WL.store (v := _) st.front8 ty_one4 rfl rfl rfl (by first | decide | omega) rfl rfl ?_
    intro w st
    refine WL.end0 Tryd.results46 (fun _ _ h => h) ?_
    rw [List.take_of_length_le (by omega)] at hbi
    exact ⟨_, rfl, NI, KN, rfl, ⟨hbi.syn, hbi.syz, fun i p h => by cases h⟩, (st_nrm (L' := [.int .i64 (P.sec : Nat), .int .i64 (P.lim : Nat), .map (some bm), .slice none 0 0, .bool true, .bool false, .int .i64 0, kv, .int .i64 t, .int .i64 tb]) rfl st).drop2⟩
  have hil : i < P.pend.length := by omega
  obtain rfl := hwa (by omega)
  obtain ⟨p, hpi⟩ : ∃ p, P.pend[i]? = some p := ⟨_, List.getElem?_eq_getElem hil⟩
  obtain ⟨hp0, hp1⟩ := hbi.wt i p hpi
  obtain ⟨hps, hpr⟩ := hp.psec p (List.mem_of_getElem? hpi)
  have g0 := hwrd st (fun x hx => List.mem_cons_of_mem _ (List.mem_cons_of_mem _ (List.mem_cons_of_mem _ (List.mem_append_right _ (hXl hx))))) (i * 2) (by omega)
  have g1 := hwrd st (fun x hx => List.mem_cons_of_mem _ (List.mem_cons_of_mem _ (List.mem_cons_of_mem _ (List.mem_append_right _ (hXl hx))))) (i * 2 + 1) (by omega)
  rw [hp0] at g0
  obtain ⟨va, vc, hvv⟩ := hp1.sl
  rw [bytesOf_len] at hvv
  rw [hvv] at g1 hp1
  have hlen : (P.pend.take i).length = i := by rw [List.length_take]; omega
  have ets : crashPc s.bs tear k 0 P.pc (P.pend.take (i + 1)) = if (i : Int) = tear then stP (crashPc s.bs tear k 0 P.pc (P.pend.take i)) p.1 k p.2 else if keepB s.bs i then stP (crashPc s.bs tear k 0 P.pc (P.pend.take i)) p.1 512 p.2 else crashPc s.bs tear k 0 P.pc (P.pend.take i) := by
    rw [List.take_add_one, hpi]
    show crashPc s.bs tear k 0 P.pc (P.pend.take i ++ [p]) = _
    rw [crashPc_snoc, hlen, Nat.zero_add]
  obtain ⟨pc, hpc⟩ : ∃ pc, pc = crashPc s.bs tear k 0 P.pc (P.pend.take i) := ⟨_, rfl⟩
  rw [← hpc] at hbi hri ets
  have hfin : ∀ (n b : Nat), n ≤ 512 → crashPc s.bs tear k 0 P.pc (P.pend.take (i + 1)) = stP pc p.1 n p.2 → Bk w0 ((iI b 512 (stP pc p.1 n p.2 p.1) :: KN) ++ K) P.sec (crashPc s.bs tear k 0 P.pc (P.pend.take (i + 1))) P.pend (setN NI (p.1 : Int) (sl5 b)) f ∧ (∀ x y, 0 ≤ crashPc s.bs tear k 0 P.pc (P.pend.take (i + 1)) x y ∧ crashPc s.bs tear k 0 P.pc (P.pend.take (i + 1)) x y < 256) := fun n b hn e => by
    rw [e]
    have hR := stP_range (s := p.1) (k := n) hri hpr
    have hM := hbi.more (K' := (iI b 512 (stP pc p.1 n p.2 p.1) :: KN) ++ K) (fun x hx => List.mem_cons_of_mem _ hx)
    have := hM.set (s := p.1) (v := sl5 b) (f' := f) ((Sees.img (bb := b) (fun j => hR p.1 j) (by omega)).mono (fun x hx => by rw [List.mem_singleton.1 hx]; exact List.mem_cons_self)) P.pend hM.wt
    rw [stP_self hn] at this
    exact ⟨this, hR⟩
  by_cases ht : (i : Int) = tear
  · skip
    rw [if_pos ht] at ets
    refine WC.seq fun K1132 hK1132 => ?_
    -- region 2
    refine WC.region ?_
    -- R2.0 14 := diskm.go:62 binOp
    refine WL.v (by first | exact r_lss rfl rfl (decide_eq_true (by omega)) | exact r_lss rfl rfl (decide_eq_false (by omega)) | exact r_lss rfl rfl rfl) rfl rfl rfl ?_
    refine WL.fin hK1132 (fun _ _ h => h) ?_
    refine WC.seq fun K1133 hK1133 => ?_
    refine WC.condT rfl rfl ?_
    refine WC.skipF hK1133 (fun _ _ h => h) ?_
    refine WC.seq fun K1134 hK1134 => ?_
    refine WC.block ?_
    refine WC.seq fun K1135 hK1135 => ?_
    -- region 3
    refine WC.region ?_
    -- R3.0 15 := diskm.go:62 move
    refine WL.v (by first | exact r_move (v := .int _ _) rfl | exact r_move rfl) rfl rfl rfl ?_
    -- R3.1 16 := diskm.go:62 indexAddr
    refine WL.v (by exact r_indexS (j := i) ty_sl46 rfl rfl rfl hil) rfl rfl rfl ?_
    -- R3.2 17 := diskm.go:62 load
    refine WL.v (v := .agg #[.int .i64 (p.1 : Nat), .slice va 512 vc]) (by exact r_loadL (vs := [_, _]) ty_agg63 rfl ⟨g0, g1, trivial⟩) rfl rfl rfl ?_
    -- R3.3 5 := diskm.go:62 alloc
    refine WL.alloc (m := 2) st ty_zero63 rfl rfl rfl ?_
    intro b5 w st
    -- R3.4 4 := diskm.go:62 assign
    refine WL.v (by first | exact r_assign (v := .int _ _) rfl | exact r_assign rfl) rfl rfl rfl ?_
    -- R3.5 None := diskm.go:62 store
    first | refine WL.storeW (vs := [_, _]) st ty_agg63 rfl rfl rfl rfl rfl rfl ?_ | refine WL.storeL (vs := [_, _]) st ty_agg63 rfl rfl rfl rfl (by first | decide | omega) rfl rfl ?_ | refine WL.storeW (vs := [_, _]) st.front1 ty_agg63 rfl rfl rfl rfl rfl rfl ?_ | refine WL.storeL (vs := [_, _]) st.front1 ty_agg63 rfl rfl rfl rfl (by first | decide | omega) rfl rfl ?_ | refine WL.storeW (vs := [_, _]) st.front2 ty_agg63 rfl rfl rfl rfl rfl rfl ?_ | refine WL.storeL (vs := [_, _]) st.front2 ty_agg63 rfl rfl rfl rfl (by first | decide | omega) rfl rfl ?_ | refine WL.storeW (vs := [_, _]) st.front3 ty_agg63 rfl rfl rfl rfl rfl rfl ?_ | refine WL.storeL (vs := [_, _]) st.front3 ty_agg63 rfl rfl rfl rfl (by first | decide | omega) rfl rfl ?_ | refine WL.storeW (vs := [_, _]) st.front4 ty_agg63 rfl rfl rfl rfl rfl rfl ?_ | refine WL.storeL (vs := [_, _]) st.front4 ty_agg63 rfl rfl rfl rfl (by first | decide | omega) rfl rfl ?_ | refine WL.storeW (vs := [_, _]) st.front5 ty_agg63 rfl rfl rfl rfl rfl rfl ?_ | refine WL.storeL (vs := [_, _]) st.front5 ty_agg63 rfl rfl rfl rfl (by first | decide | omega) rfl rfl ?_ | refine WL.storeW (vs := [_, _]) st.front6 ty_agg63 rfl rfl rfl rfl rfl rfl ?_ | refine WL.storeL (vs := [_, _]) st.front6 ty_agg63 rfl rfl rfl rfl (by first | decide | omega) rfl rfl ?_ | refine WL.storeW (vs := [_, _]) st.front7 ty_agg63 rfl rfl rfl rfl rfl rfl ?_ | refine WL.storeL (vs := [_, _]) st.front7 ty_agg63 rfl rfl rfl rfl (by first | decide | omega) rfl rfl ?_ | refine WL.storeW (vs := [_, _]) st.front8 ty_agg63 rfl rfl rfl rfl rfl rfl ?_ | refine WL.storeL (vs := [_, _]) st.front8 ty_agg63 rfl rfl rfl rfl (by first | decide | omega) rfl rfl ?_
    intro w st
    refine WL.fin hK1135 (fun _ _ h => h) ?_
    refine WC.seq fun K1136 hK1136 => ?_
    refine WC.seq fun K1137 hK1137 => ?_
    -- region 4
    refine WC.region ?_
    -- R4.0 18 := diskm.go:63 move
    refine WL.v (by first | exact r_move (v := .int _ _) rfl | exact r_move rfl) rfl rfl rfl ?_
    -- R4.1 19 := diskm.go:63 fieldAddr
    refine WL.v (by exact r_field ty_fld31_1 rfl) rfl rfl rfl ?_
    -- R4.2 20 := diskm.go:63 load
    refine WL.v (by exact r_load1 ty_one2 rfl (by first | assumption | exact st.c0 (by first | decide | omega) | exact st.c1 (by first | decide | omega) | exact st.c2 (by first | decide | omega) | exact st.c3 (by first | decide | omega) | exact st.c4 (by first | decide | omega) | exact st.c5 (by first | decide | omega) | exact st.c6 (by first | decide | omega) | exact st.c7 (by first | decide | omega) | exact st.c8 (by first | decide | omega))) rfl rfl rfl ?_
    -- R4.3 21 := diskm.go:63 binOp
    refine WL.v (by exact r_eql rfl rfl (decide_eq_true ht)) rfl rfl rfl ?_
    refine WL.fin hK1137 (fun _ _ h => h) ?_
    refine WC.condT rfl rfl ?_
    refine WC.seq fun K1138 hK1138 => ?_
    -- region 5
    refine WC.region ?_
    -- R5.0 22 := diskm.go:64 move
    refine WL.v (by first | exact r_move (v := .pointer _) rfl | exact r_move rfl) rfl rfl rfl ?_
    -- R5.1 23 := diskm.go:64 load
    refine WL.v (by exact r_loadL (vs := [_, _]) ty_agg63 rfl ⟨(by first | assumption | exact st.c0 (by first | decide | omega) | exact st.c1 (by first | decide | omega) | exact st.c2 (by first | decide | omega) | exact st.c3 (by first | decide | omega) | exact st.c4 (by first | decide | omega) | exact st.c5 (by first | decide | omega) | exact st.c6 (by first | decide | omega) | exact st.c7 (by first | decide | omega) | exact st.c8 (by first | decide | omega)), (by first | assumption | exact st.c0 (by first | decide | omega) | exact st.c1 (by first | decide | omega) | exact st.c2 (by first | decide | omega) | exact st.c3 (by first | decide | omega) | exact st.c4 (by first | decide | omega) | exact st.c5 (by first | decide | omega) | exact st.c6 (by first | decide | omega) | exact st.c7 (by first | decide | omega) | exact st.c8 (by first | decide | omega)), trivial⟩) rfl rfl rfl ?_
    -- R5.2 24 := diskm.go:64 fieldAddr
    refine WL.v (by exact r_field ty_fld31_2 rfl) rfl rfl rfl ?_
    -- R5.3 25 := diskm.go:64 load
    refine WL.v (by exact r_load1 ty_one2 rfl (by first | assumption | exact st.c0 (by first | decide | omega) | exact st.c1 (by first | decide | omega) | exact st.c2 (by first | decide | omega) | exact st.c3 (by first | decide | omega) | exact st.c4 (by first | decide | omega) | exact st.c5 (by first | decide | omega) | exact st.c6 (by first | decide | omega) | exact st.c7 (by first | decide | omega) | exact st.c8 (by first | decide | omega))) rfl rfl rfl ?_
    -- R5.4 26 := diskm.go:64 call
    refine WL.v (by exact r_max (r := t1) rfl rfl ht1.symm) rfl rfl rfl ?_
    -- R5.5 27 := diskm.go:64 call
    refine WL.v (by exact r_min (r := ((k : Nat) : Int)) rfl rfl hkt.symm) rfl rfl rfl ?_
    -- R5.6 28 := diskm.go:64 call
    refine WL.call (r_call ty_call45 rfl) rfl rfl rfl (settleM_ok (n := k) hbi hps hs2 hp1 hk5 (fun x hx => List.mem_cons_of_mem _ (List.mem_cons_of_mem _ (List.append_subset.2 ⟨List.subset_append_left _ _, fun y hy => List.mem_append_right _ (hKl hy)⟩ hx))) (st.perm (List.perm_append_comm_assoc [_] [_, _] _))) ?_
    rintro _ w ⟨b, rfl, st⟩
    refine WL.fin hK1138 (fun _ _ h => h) ?_
    refine WC.exitF hK1134 (fun _ _ h => h) ?_
    -- region 11
    refine WC.region ?_
    -- R11.0 52 := diskm.go:62 binOp
    refine WL.v (by exact r_add (r := ((i + 1 : Nat) : Int)) rfl rfl ((wi64 (by omega) (by omega)).trans (by omega))) rfl rfl rfl ?_
    -- R11.1 13 := diskm.go:62 move
    refine WL.v (by first | exact r_move (v := .int _ _) rfl | exact r_move rfl) rfl rfl rfl ?_
    obtain ⟨q1, q2⟩ := hfin k b hk5 ets
    refine WL.next hK1 (fun _ _ h => h) (i + 1, setN NI (p.1 : Int) (sl5 b), iI b 512 (stP pc p.1 k p.2 p.1) :: KN) ⟨by show i + 1 ≤ P.pend.length; omega, q1, q2, st.drop3.perm (.cons _ (.cons _ (.swap _ _ _)))⟩ (by show P.pend.length - (i + 1) < P.pend.length - i; omega) (by repeat (first | exact sub_nil _ | refine sub_cons rfl rfl ?_))
  rw [if_neg ht] at ets
  by_cases h0 : s.bs.length = 0
  · rw [if_neg (by simp [keepB, h0])] at ets
    refine WC.seq fun K1139 hK1139 => ?_
    -- region 2
    refine WC.region ?_
    -- R2.0 14 := diskm.go:62 binOp
    refine WL.v (by first | exact r_lss rfl rfl (decide_eq_true (by omega)) | exact r_lss rfl rfl (decide_eq_false (by omega)) | exact r_lss rfl rfl rfl) rfl rfl rfl ?_
    refine WL.fin hK1139 (fun _ _ h => h) ?_
    refine WC.seq fun K1140 hK1140 => ?_
    refine WC.condT rfl rfl ?_
    refine WC.skipF hK1140 (fun _ _ h => h) ?_
    refine WC.seq fun K1141 hK1141 => ?_
    refine WC.block ?_
    refine WC.seq fun K1142 hK1142 => ?_
    -- region 3
    refine WC.region ?_
    -- R3.0 15 := diskm.go:62 move
    refine WL.v (by first | exact r_move (v := .int _ _) rfl | exact r_move rfl) rfl rfl rfl ?_
    -- R3.1 16 := diskm.go:62 indexAddr
    refine WL.v (by exact r_indexS (j := i) ty_sl46 rfl rfl rfl hil) rfl rfl rfl ?_
    -- R3.2 17 := diskm.go:62 load
    refine WL.v (v := .agg #[.int .i64 (p.1 : Nat), .slice va 512 vc]) (by exact r_loadL (vs := [_, _]) ty_agg63 rfl ⟨g0, g1, trivial⟩) rfl rfl rfl ?_
    -- R3.3 5 := diskm.go:62 alloc
    refine WL.alloc (m := 2) st ty_zero63 rfl rfl rfl ?_
    intro b5 w st
    -- R3.4 4 := diskm.go:62 assign
    refine WL.v (by first | exact r_assign (v := .int _ _) rfl | exact r_assign rfl) rfl rfl rfl ?_
    -- R3.5 None := diskm.go:62 store
    first | refine WL.storeW (vs := [_, _]) st ty_agg63 rfl rfl rfl rfl rfl rfl ?_ | refine WL.storeL (vs := [_, _]) st ty_agg63 rfl rfl rfl rfl (by first | decide | omega) rfl rfl ?_ | refine WL.storeW (vs := [_, _]) st.front1 ty_agg63 rfl rfl rfl rfl rfl rfl ?_ | refine WL.storeL (vs := [_, _]) st.front1 ty_agg63 rfl rfl rfl rfl (by first | decide | omega) rfl rfl ?_ | refine WL.storeW (vs := [_, _]) st.front2 ty_agg63 rfl rfl rfl rfl rfl rfl ?_ | refine WL.storeL (vs := [_, _]) st.front2 ty_agg63 rfl rfl rfl rfl (by first | decide | omega) rfl rfl ?_ | refine WL.storeW (vs := [_, _]) st.front3 ty_agg63 rfl rfl rfl rfl rfl rfl ?_ | refine WL.storeL (vs := [_, _]) st.front3 ty_agg63 rfl rfl rfl rfl (by first | decide | omega) rfl rfl ?_ | refine WL.storeW (vs := [_, _]) st.front4 ty_agg63 rfl rfl rfl rfl rfl rfl ?_ | refine WL.storeL (vs := [_, _]) st.front4 ty_agg63 rfl rfl rfl rfl (by first | decide | omega) rfl rfl ?_ | refine WL.storeW (vs := [_, _]) st.front5 ty_agg63 rfl rfl rfl rfl rfl rfl ?_ | refine WL.storeL (vs := [_, _]) st.front5 ty_agg63 rfl rfl rfl rfl (by first | decide | omega) rfl rfl ?_ | refine WL.storeW (vs := [_, _]) st.front6 ty_agg63 rfl rfl rfl rfl rfl rfl ?_ | refine WL.storeL (vs := [_, _]) st.front6 ty_agg63 rfl rfl rfl rfl (by first | decide | omega) rfl rfl ?_ | refine WL.storeW (vs := [_, _]) st.front7 ty_agg63 rfl rfl rfl rfl rfl rfl ?_ | refine WL.storeL (vs := [_, _]) st.front7 ty_agg63 rfl rfl rfl rfl (by first | decide | omega) rfl rfl ?_ | refine WL.storeW (vs := [_, _]) st.front8 ty_agg63 rfl rfl rfl rfl rfl rfl ?_ | refine WL.storeL (vs := [_, _]) st.front8 ty_agg63 rfl rfl rfl rfl (by first | decide | omega) rfl rfl ?_
    intro w st
    refine WL.fin hK1142 (fun _ _ h => h) ?_
    refine WC.seq fun K1143 hK1143 => ?_
    refine WC.seq fun K1144 hK1144 => ?_
    -- region 4
    refine WC.region ?_
    -- R4.0 18 := diskm.go:63 move
    refine WL.v (by first | exact r_move (v := .int _ _) rfl | exact r_move rfl) rfl rfl rfl ?_
    -- R4.1 19 := diskm.go:63 fieldAddr
    refine WL.v (by exact r_field ty_fld31_1 rfl) rfl rfl rfl ?_
    -- R4.2 20 := diskm.go:63 load
    refine WL.v (by exact r_load1 ty_one2 rfl (by first | assumption | exact st.c0 (by first | decide | omega) | exact st.c1 (by first | decide | omega) | exact st.c2 (by first | decide | omega) | exact st.c3 (by first | decide | omega) | exact st.c4 (by first | decide | omega) | exact st.c5 (by first | decide | omega) | exact st.c6 (by first | decide | omega) | exact st.c7 (by first | decide | omega) | exact st.c8 (by first | decide | omega))) rfl rfl rfl ?_
    -- R4.3 21 := diskm.go:63 binOp
    refine WL.v (by exact r_eql rfl rfl (decide_eq_false ht)) rfl rfl rfl ?_
    refine WL.fin hK1144 (fun _ _ h => h) ?_
    refine WC.condF rfl rfl ?_
    refine WC.skipF hK1143 (fun _ _ h => h) ?_
    refine WC.seq fun K1145 hK1145 => ?_
    -- region 6
    refine WC.region ?_
    -- R6.0 29 := diskm.go:67 fieldAddr
    refine WL.v (by exact r_field ty_fld31_0 rfl) rfl rfl rfl ?_
    -- R6.1 30 := diskm.go:67 load
    refine WL.v (by exact r_load1 ty_one29 rfl (by first | assumption | exact st.c0 (by first | decide | omega) | exact st.c1 (by first | decide | omega) | exact st.c2 (by first | decide | omega) | exact st.c3 (by first | decide | omega) | exact st.c4 (by first | decide | omega) | exact st.c5 (by first | decide | omega) | exact st.c6 (by first | decide | omega) | exact st.c7 (by first | decide | omega) | exact st.c8 (by first | decide | omega))) rfl rfl rfl ?_
    -- R6.2 31 := diskm.go:67 call
    refine WL.v (by exact r_len ty_usl29 rfl) rfl rfl rfl ?_
    -- R6.3 32 := diskm.go:67 binOp
    refine WL.v (by exact r_mul (r := ((s.bs.length * 8 : Nat) : Int)) rfl rfl ((wi64 (by omega) (by omega)).trans (by omega))) rfl rfl rfl ?_
    -- R6.4 6 := diskm.go:67 assign
    refine WL.v (by first | exact r_assign (v := .int _ _) rfl | exact r_assign rfl) rfl rfl rfl ?_
    refine WL.fin hK1145 (fun _ _ h => h) ?_
    refine WC.seq fun K1146 hK1146 => ?_
    refine WC.seq fun K1147 hK1147 => ?_
    -- region 7
    refine WC.region ?_
    -- R7.0 33 := diskm.go:68 move
    refine WL.v (by first | exact r_move (v := .int _ _) rfl | exact r_move rfl) rfl rfl rfl ?_
    -- R7.1 34 := diskm.go:68 binOp
    refine WL.v (by exact r_eql rfl rfl (decide_eq_true (by omega))) rfl rfl rfl ?_
    refine WL.fin hK1147 (fun _ _ h => h) ?_
    refine WC.condT rfl rfl ?_
    refine WC.exitF hK1141 (fun _ _ h => h) ?_
    -- region 11
    refine WC.region ?_
    -- R11.0 52 := diskm.go:62 binOp
    refine WL.v (by exact r_add (r := ((i + 1 : Nat) : Int)) rfl rfl ((wi64 (by omega) (by omega)).trans (by omega))) rfl rfl rfl ?_
    -- R11.1 13 := diskm.go:62 move
    refine WL.v (by first | exact r_move (v := .int _ _) rfl | exact r_move rfl) rfl rfl rfl ?_
    refine WL.next hK1 (fun _ _ h => h) (i + 1, NI, KN) ⟨by show i + 1 ≤ P.pend.length; omega, by show Bk w0 (KN ++ K) P.sec (crashPc s.bs tear k 0 P.pc (P.pend.take (i + 1))) P.pend NI f; rw [ets]; exact hbi, by show ∀ a b, 0 ≤ crashPc s.bs tear k 0 P.pc (P.pend.take (i + 1)) a b ∧ crashPc s.bs tear k 0 P.pc (P.pend.take (i + 1)) a b < 256; rw [ets]; exact hri, st.drop⟩ (by show P.pend.length - (i + 1) < P.pend.length - i; omega) (by repeat (first | exact sub_nil _ | refine sub_cons rfl rfl ?_))
  have hadr := hs.adr (by omega)
  obtain ⟨tt, htt⟩ : ∃ tt, tt = i % (s.bs.length * 8) := ⟨_, rfl⟩
  have htl : tt < s.bs.length * 8 := by rw [htt]; exact Nat.mod_lt _ (by omega)
  have hb := hs.at (i := tt / 8) (by omega)
  obtain ⟨x, hx⟩ : ∃ x, x = s.bs.getD (tt / 8) 0 := ⟨_, rfl⟩
  rw [← hx] at hb
  have hch : chosenB s.bs tear i = keepB s.bs i := by simp [chosenB, ht]
  rcases hkb : keepB s.bs i with _ | _
  · rw [hkb] at ets
    refine WC.seq fun K1148 hK1148 => ?_
    -- region 2
    refine WC.region ?_
    -- R2.0 14 := diskm.go:62 binOp
    refine WL.v (by first | exact r_lss rfl rfl (decide_eq_true (by omega)) | exact r_lss rfl rfl (decide_eq_false (by omega)) | exact r_lss rfl rfl rfl) rfl rfl rfl ?_
    refine WL.fin hK1148 (fun _ _ h => h) ?_
    refine WC.seq fun K1149 hK1149 => ?_
    refine WC.condT rfl rfl ?_
    refine WC.skipF hK1149 (fun _ _ h => h) ?_
    refine WC.seq fun K1150 hK1150 => ?_
    refine WC.block ?_
    refine WC.seq fun K1151 hK1151 => ?_
    -- region 3
    refine WC.region ?_
    -- R3.0 15 := diskm.go:62 move
    refine WL.v (by first | exact r_move (v := .int _ _) rfl | exact r_move rfl) rfl rfl rfl ?_
    -- R3.1 16 := diskm.go:62 indexAddr
    refine WL.v (by exact r_indexS (j := i) ty_sl46 rfl rfl rfl hil) rfl rfl rfl ?_
    -- R3.2 17 := diskm.go:62 load
    refine WL.v (v := .agg #[.int .i64 (p.1 : Nat), .slice va 512 vc]) (by exact r_loadL (vs := [_, _]) ty_agg63 rfl ⟨g0, g1, trivial⟩) rfl rfl rfl ?_
    -- R3.3 5 := diskm.go:62 alloc
    refine WL.alloc (m := 2) st ty_zero63 rfl rfl rfl ?_
    intro b5 w st
    -- R3.4 4 := diskm.go:62 assign
    refine WL.v (by first | exact r_assign (v := .int _ _) rfl | exact r_assign rfl) rfl rfl rfl ?_
    -- R3.5 None := diskm.go:62 store
    first | refine WL.storeW (vs := [_, _]) st ty_agg63 rfl rfl rfl rfl rfl rfl ?_ | refine WL.storeL (vs := [_, _]) st ty_agg63 rfl rfl rfl rfl (by first | decide | omega) rfl rfl ?_ | refine WL.storeW (vs := [_, _]) st.front1 ty_agg63 rfl rfl rfl rfl rfl rfl ?_ | refine WL.storeL (vs := [_, _]) st.front1 ty_agg63 rfl rfl rfl rfl (by first | decide | omega) rfl rfl ?_ | refine WL.storeW (vs := [_, _]) st.front2 ty_agg63 rfl rfl rfl rfl rfl rfl ?_ | refine WL.storeL (vs := [_, _]) st.front2 ty_agg63 rfl rfl rfl rfl (by first | decide | omega) rfl rfl ?_ | refine WL.storeW (vs := [_, _]) st.front3 ty_agg63 rfl rfl rfl rfl rfl rfl ?_ | refine WL.storeL (vs := [_, _]) st.front3 ty_agg63 rfl rfl rfl rfl (by first | decide | omega) rfl rfl ?_ | refine WL.storeW (vs := [_, _]) st.front4 ty_agg63 rfl rfl rfl rfl rfl rfl ?_ | refine WL.storeL (vs := [_, _]) st.front4 ty_agg63 rfl rfl rfl rfl (by first | decide | omega) rfl rfl ?_ | refine WL.storeW (vs := [_, _]) st.front5 ty_agg63 rfl rfl rfl rfl rfl rfl ?_ | refine WL.storeL (vs := [_, _]) st.front5 ty_agg63 rfl rfl rfl rfl (by first | decide | omega) rfl rfl ?_ | refine WL.storeW (vs := [_, _]) st.front6 ty_agg63 rfl rfl rfl rfl rfl rfl ?_ | refine WL.storeL (vs := [_, _]) st.front6 ty_agg63 rfl rfl rfl rfl (by first | decide | omega) rfl rfl ?_ | refine WL.storeW (vs := [_, _]) st.front7 ty_agg63 rfl rfl rfl rfl rfl rfl ?_ | refine WL.storeL (vs := [_, _]) st.front7 ty_agg63 rfl rfl rfl rfl (by first | decide | omega) rfl rfl ?_ | refine WL.storeW (vs := [_, _]) st.front8 ty_agg63 rfl rfl rfl rfl rfl rfl ?_ | refine WL.storeL (vs := [_, _]) st.front8 ty_agg63 rfl rfl rfl rfl (by first | decide | omega) rfl rfl ?_
    intro w st
    refine WL.fin hK1151 (fun _ _ h => h) ?_
    refine WC.seq fun K1152 hK1152 => ?_
    refine WC.seq fun K1153 hK1153 => ?_
    -- region 4
    refine WC.region ?_
    -- R4.0 18 := diskm.go:63 move
    refine WL.v (by first | exact r_move (v := .int _ _) rfl | exact r_move rfl) rfl rfl rfl ?_
    -- R4.1 19 := diskm.go:63 fieldAddr
    refine WL.v (by exact r_field ty_fld31_1 rfl) rfl rfl rfl ?_
    -- R4.2 20 := diskm.go:63 load
    refine WL.v (by exact r_load1 ty_one2 rfl (by first | assumption | exact st.c0 (by first | decide | omega) | exact st.c1 (by first | decide | omega) | exact st.c2 (by first | decide | omega) | exact st.c3 (by first | decide | omega) | exact st.c4 (by first | decide | omega) | exact st.c5 (by first | decide | omega) | exact st.c6 (by first | decide | omega) | exact st.c7 (by first | decide | omega) | exact st.c8 (by first | decide | omega))) rfl rfl rfl ?_
    -- R4.3 21 := diskm.go:63 binOp
    refine WL.v (by exact r_eql rfl rfl (decide_eq_false ht)) rfl rfl rfl ?_
    refine WL.fin hK1153 (fun _ _ h => h) ?_
    refine WC.condF rfl rfl ?_
    refine WC.skipF hK1152 (fun _ _ h => h) ?_
    refine WC.seq fun K1154 hK1154 => ?_
    -- region 6
    refine WC.region ?_
    -- R6.0 29 := diskm.go:67 fieldAddr
    refine WL.v (by exact r_field ty_fld31_0 rfl) rfl rfl rfl ?_
    -- R6.1 30 := diskm.go:67 load
    refine WL.v (by exact r_load1 ty_one29 rfl (by first | assumption | exact st.c0 (by first | decide | omega) | exact st.c1 (by first | decide | omega) | exact st.c2 (by first | decide | omega) | exact st.c3 (by first | decide | omega) | exact st.c4 (by first | decide | omega) | exact st.c5 (by first | decide | omega) | exact st.c6 (by first | decide | omega) | exact st.c7 (by first | decide | omega) | exact st.c8 (by first | decide | omega))) rfl rfl rfl ?_
    -- R6.2 31 := diskm.go:67 call
    refine WL.v (by exact r_len ty_usl29 rfl) rfl rfl rfl ?_
    -- R6.3 32 := diskm.go:67 binOp
    refine WL.v (by exact r_mul (r := ((s.bs.length * 8 : Nat) : Int)) rfl rfl ((wi64 (by omega) (by omega)).trans (by omega))) rfl rfl rfl ?_
    -- R6.4 6 := diskm.go:67 assign
    refine WL.v (by first | exact r_assign (v := .int _ _) rfl | exact r_assign rfl) rfl rfl rfl ?_
    refine WL.fin hK1154 (fun _ _ h => h) ?_
    refine WC.seq fun K1155 hK1155 => ?_
    refine WC.seq fun K1156 hK1156 => ?_
    -- region 7
    refine WC.region ?_
    -- R7.0 33 := diskm.go:68 move
    refine WL.v (by first | exact r_move (v := .int _ _) rfl | exact r_move rfl) rfl rfl rfl ?_
    -- R7.1 34 := diskm.go:68 binOp
    refine WL.v (by exact r_eql rfl rfl (decide_eq_false (by omega))) rfl rfl rfl ?_
    refine WL.fin hK1156 (fun _ _ h => h) ?_
    refine WC.condF rfl rfl ?_
    refine WC.skipF hK1155 (fun _ _ h => h) ?_
    refine WC.seq fun K1157 hK1157 => ?_
    -- region 8
    refine WC.region ?_
    -- R8.0 35 := diskm.go:71 move
    refine WL.v (by first | exact r_move (v := .int _ _) rfl | exact r_move rfl) rfl rfl rfl ?_
    -- R8.1 36 := diskm.go:71 move
    refine WL.v (by first | exact r_move (v := .int _ _) rfl | exact r_move rfl) rfl rfl rfl ?_
    -- R8.2 37 := diskm.go:71 binOp
    refine WL.v (by exact r_rem (r := (tt : Int)) rfl rfl (by omega) (by rw [htt]; exact rfl)) rfl rfl rfl ?_
    -- R8.3 7 := diskm.go:71 assign
    refine WL.v (by first | exact r_assign (v := .int _ _) rfl | exact r_assign rfl) rfl rfl rfl ?_
    refine WL.fin hK1157 (fun _ _ h => h) ?_
    refine WC.seq fun K1158 hK1158 => ?_
    -- region 9 (draws)
    refine WC.quietS st ty_mixed (by kernel_rfl) fun Kq hKq => ?_
    -- R9.0 38 := diskm.go:72 fieldAddr
    refine QL.v (fun w st => by exact r_field ty_fld31_0 rfl) rfl rfl rfl ?_
    -- R9.1 39 := diskm.go:72 load
    refine QL.v (fun w st => by exact r_load1 (v := .slice (some ⟨s.b, s.o, none⟩) s.bs.length s.c) ty_one29 rfl (by rw [← hadr]; exact st.c3 (by decide))) rfl rfl rfl ?_
    -- R9.2 40 := diskm.go:72 move
    refine QL.v (fun w st => by first | exact r_move (v := .int _ _) rfl | exact r_move rfl) rfl rfl rfl ?_
    -- R9.3 41 := diskm.go:72 binOp
    refine QL.v (fun w st => by exact r_quo (r := ((tt / 8 : Nat) : Int)) rfl rfl (by omega) (by rw [show ((tt : Nat) : Int).tdiv 8 = ((tt / 8 : Nat) : Int) from rfl]; exact wi64 (by omega) (by omega))) rfl rfl rfl ?_
    -- R9.4 42 := diskm.go:72 indexAddr
    refine QL.v (fun w st => by exact r_indexS (j := tt / 8) ty_sl29 rfl rfl rfl (by omega)) rfl rfl rfl ?_
    -- R9.5 43 := diskm.go:72 load
    refine QL.v (fun w st => by exact r_load1 (v := .int .u8 x) ty_one5 rfl (by rw [show s.o + tt / 8 * 1 = s.o + tt / 8 by omega, hx]; exact sv_old hr st _ (by omega))) rfl rfl rfl ?_
    -- R9.6 44 := diskm.go:72 move
    refine QL.v (fun w st => by first | exact r_move (v := .int _ _) rfl | exact r_move rfl) rfl rfl rfl ?_
    -- R9.7 45 := diskm.go:72 binOp
    refine QL.v (fun w st => by exact r_rem (r := ((tt % 8 : Nat) : Int)) rfl rfl (by omega) rfl) rfl rfl rfl ?_
    -- R9.8 46 := diskm.go:72 binOp
    refine QL.v (fun w st => by exact r_shl (r := 2 ^ (tt % 8)) rfl rfl (by omega) (shl_one (by omega))) rfl rfl rfl ?_
    -- R9.9 47 := diskm.go:72 binOp
    refine QL.v (fun w st => by exact r_and (r := x / 2 ^ (tt % 8) % 2 * 2 ^ (tt % 8)) rfl rfl (and_pw hb.1 hb.2 (by omega))) rfl rfl rfl ?_
    -- R9.10 48 := diskm.go:72 binOp
    refine QL.v (fun w st => by exact r_neq (t := false) rfl rfl ((chosen_neq ht h0 htt hx).trans (hch.trans hkb))) rfl rfl rfl ?_
    refine QL.wl hKq fun w st => ?_
    refine WL.fin hK1158 (fun _ _ h => h) ?_
    refine WC.condF rfl rfl ?_
    refine WC.skipF hK1150 (fun _ _ h => h) ?_
    -- region 11
    refine WC.region ?_
    -- R11.0 52 := diskm.go:62 binOp
    refine WL.v (by exact r_add (r := ((i + 1 : Nat) : Int)) rfl rfl ((wi64 (by omega) (by omega)).trans (by omega))) rfl rfl rfl ?_
    -- R11.1 13 := diskm.go:62 move
    refine WL.v (by first | exact r_move (v := .int _ _) rfl | exact r_move rfl) rfl rfl rfl ?_
    refine WL.next hK1 (fun _ _ h => h) (i + 1, NI, KN) ⟨by show i + 1 ≤ P.pend.length; omega, by show Bk w0 (KN ++ K) P.sec (crashPc s.bs tear k 0 P.pc (P.pend.take (i + 1))) P.pend NI f; rw [ets]; exact hbi, by show ∀ a b, 0 ≤ crashPc s.bs tear k 0 P.pc (P.pend.take (i + 1)) a b ∧ crashPc s.bs tear k 0 P.pc (P.pend.take (i + 1)) a b < 256; rw [ets]; exact hri, st.drop⟩ (by show P.pend.length - (i + 1) < P.pend.length - i; omega) (by repeat (first | exact sub_nil _ | refine sub_cons rfl rfl ?_))
  · rw [hkb] at ets
    refine WC.seq fun K1159 hK1159 => ?_
    -- region 2
    refine WC.region ?_
    -- R2.0 14 := diskm.go:62 binOp
    refine WL.v (by first | exact r_lss rfl rfl (decide_eq_true (by omega)) | exact r_lss rfl rfl (decide_eq_false (by omega)) | exact r_lss rfl rfl rfl) rfl rfl rfl ?_
    refine WL.fin hK1159 (fun _ _ h => h) ?_
    refine WC.seq fun K1160 hK1160 => ?_
    refine WC.condT rfl rfl ?_
    refine WC.skipF hK1160 (fun _ _ h => h) ?_
    refine WC.seq fun K1161 hK1161 => ?_
    refine WC.block ?_
    refine WC.seq fun K1162 hK1162 => ?_
    -- region 3
    refine WC.region ?_
    -- R3.0 15 := diskm.go:62 move
    refine WL.v (by first | exact r_move (v := .int _ _) rfl | exact r_move rfl) rfl rfl rfl ?_
    -- R3.1 16 := diskm.go:62 indexAddr
    refine WL.v (by exact r_indexS (j := i) ty_sl46 rfl rfl rfl hil) rfl rfl rfl ?_
    -- R3.2 17 := diskm.go:62 load
    refine WL.v (v := .agg #[.int .i64 (p.1 : Nat), .slice va 512 vc]) (by exact r_loadL (vs := [_, _]) ty_agg63 rfl ⟨g0, g1, trivial⟩) rfl rfl rfl ?_
    -- R3.3 5 := diskm.go:62 alloc
    refine WL.alloc (m := 2) st ty_zero63 rfl rfl rfl ?_
    intro b5 w st
    -- R3.4 4 := diskm.go:62 assign
    refine WL.v (by first | exact r_assign (v := .int _ _) rfl | exact r_assign rfl) rfl rfl rfl ?_
    -- R3.5 None := diskm.go:62 store
    first | refine WL.storeW (vs := [_, _]) st ty_agg63 rfl rfl rfl rfl rfl rfl ?_ | refine WL.storeL (vs := [_, _]) st ty_agg63 rfl rfl rfl rfl (by first | decide | omega) rfl rfl ?_ | refine WL.storeW (vs := [_, _]) st.front1 ty_agg63 rfl rfl rfl rfl rfl rfl ?_ | refine WL.storeL (vs := [_, _]) st.front1 ty_agg63 rfl rfl rfl rfl (by first | decide | omega) rfl rfl ?_ | refine WL.storeW (vs := [_, _]) st.front2 ty_agg63 rfl rfl rfl rfl rfl rfl ?_ | refine WL.storeL (vs := [_, _]) st.front2 ty_agg63 rfl rfl rfl rfl (by first | decide | omega) rfl rfl ?_ | refine WL.storeW (vs := [_, _]) st.front3 ty_agg63 rfl rfl rfl rfl rfl rfl ?_ | refine WL.storeL (vs := [_, _]) st.front3 ty_agg63 rfl rfl rfl rfl (by first | decide | omega) rfl rfl ?_ | refine WL.storeW (vs := [_, _]) st.front4 ty_agg63 rfl rfl rfl rfl rfl rfl ?_ | refine WL.storeL (vs := [_, _]) st.front4 ty_agg63 rfl rfl rfl rfl (by first | decide | omega) rfl rfl ?_ | refine WL.storeW (vs := [_, _]) st.front5 ty_agg63 rfl rfl rfl rfl rfl rfl ?_ | refine WL.storeL (vs := [_, _]) st.front5 ty_agg63 rfl rfl rfl rfl (by first | decide | omega) rfl rfl ?_ | refine WL.storeW (vs := [_, _]) st.front6 ty_agg63 rfl rfl rfl rfl rfl rfl ?_ | refine WL.storeL (vs := [_, _]) st.front6 ty_agg63 rfl rfl rfl rfl (by first | decide | omega) rfl rfl ?_ | refine WL.storeW (vs := [_, _]) st.front7 ty_agg63 rfl rfl rfl rfl rfl rfl ?_ | refine WL.storeL (vs := [_, _]) st.front7 ty_agg63 rfl rfl rfl rfl (by first | decide | omega) rfl rfl ?_ | refine WL.storeW (vs := [_, _]) st.front8 ty_agg63 rfl rfl rfl rfl rfl rfl ?_ | refine WL.storeL (vs := [_, _]) st.front8 ty_agg63 rfl rfl rfl rfl (by first | decide | omega) rfl rfl ?_
    intro w st
    refine WL.fin hK1162 (fun _ _ h => h) ?_
    refine WC.seq fun K1163 hK1163 => ?_
    refine WC.seq fun K1164 hK1164 => ?_
    -- region 4
    refine WC.region ?_
    -- R4.0 18 := diskm.go:63 move
    refine WL.v (by first | exact r_move (v := .int _ _) rfl | exact r_move rfl) rfl rfl rfl ?_
    -- R4.1 19 := diskm.go:63 fieldAddr
    refine WL.v (by exact r_field ty_fld31_1 rfl) rfl rfl rfl ?_
    -- R4.2 20 := diskm.go:63 load
    refine WL.v (by exact r_load1 ty_one2 rfl (by first | assumption | exact st.c0 (by first | decide | omega) | exact st.c1 (by first | decide | omega) | exact st.c2 (by first | decide | omega) | exact st.c3 (by first | decide | omega) | exact st.c4 (by first | decide | omega) | exact st.c5 (by first | decide | omega) | exact st.c6 (by first | decide | omega) | exact st.c7 (by first | decide | omega) | exact st.c8 (by first | decide | omega))) rfl rfl rfl ?_
    -- R4.3 21 := diskm.go:63 binOp
    refine WL.v (by exact r_eql rfl rfl (decide_eq_false ht)) rfl rfl rfl ?_
    refine WL.fin hK1164 (fun _ _ h => h) ?_
    refine WC.condF rfl rfl ?_
    refine WC.skipF hK1163 (fun _ _ h => h) ?_
    refine WC.seq fun K1165 hK1165 => ?_
    -- region 6
    refine WC.region ?_
    -- R6.0 29 := diskm.go:67 fieldAddr
    refine WL.v (by exact r_field ty_fld31_0 rfl) rfl rfl rfl ?_
    -- R6.1 30 := diskm.go:67 load
    refine WL.v (by exact r_load1 ty_one29 rfl (by first | assumption | exact st.c0 (by first | decide | omega) | exact st.c1 (by first | decide | omega) | exact st.c2 (by first | decide | omega) | exact st.c3 (by first | decide | omega) | exact st.c4 (by first | decide | omega) | exact st.c5 (by first | decide | omega) | exact st.c6 (by first | decide | omega) | exact st.c7 (by first | decide | omega) | exact st.c8 (by first | decide | omega))) rfl rfl rfl ?_
    -- R6.2 31 := diskm.go:67 call
    refine WL.v (by exact r_len ty_usl29 rfl) rfl rfl rfl ?_
    -- R6.3 32 := diskm.go:67 binOp
    refine WL.v (by exact r_mul (r := ((s.bs.length * 8 : Nat) : Int)) rfl rfl ((wi64 (by omega) (by omega)).trans (by omega))) rfl rfl rfl ?_
    -- R6.4 6 := diskm.go:67 assign
    refine WL.v (by first | exact r_assign (v := .int _ _) rfl | exact r_assign rfl) rfl rfl rfl ?_
    refine WL.fin hK1165 (fun _ _ h => h) ?_
    refine WC.seq fun K1166 hK1166 => ?_
    refine WC.seq fun K1167 hK1167 => ?_
    -- region 7
    refine WC.region ?_
    -- R7.0 33 := diskm.go:68 move
    refine WL.v (by first | exact r_move (v := .int _ _) rfl | exact r_move rfl) rfl rfl rfl ?_
    -- R7.1 34 := diskm.go:68 binOp
    refine WL.v (by exact r_eql rfl rfl (decide_eq_false (by omega))) rfl rfl rfl ?_
    refine WL.fin hK1167 (fun _ _ h => h) ?_
    refine WC.condF rfl rfl ?_
    refine WC.skipF hK1166 (fun _ _ h => h) ?_
    refine WC.seq fun K1168 hK1168 => ?_
    -- region 8
    refine WC.region ?_
    -- R8.0 35 := diskm.go:71 move
    refine WL.v (by first | exact r_move (v := .int _ _) rfl | exact r_move rfl) rfl rfl rfl ?_
    -- R8.1 36 := diskm.go:71 move
    refine WL.v (by first | exact r_move (v := .int _ _) rfl | exact r_move rfl) rfl rfl rfl ?_
    -- R8.2 37 := diskm.go:71 binOp
    refine WL.v (by exact r_rem (r := (tt : Int)) rfl rfl (by omega) (by rw [htt]; exact rfl)) rfl rfl rfl ?_
    -- R8.3 7 := diskm.go:71 assign
    refine WL.v (by first | exact r_assign (v := .int _ _) rfl | exact r_assign rfl) rfl rfl rfl ?_
    refine WL.fin hK1168 (fun _ _ h => h) ?_
    refine WC.seq fun K1169 hK1169 => ?_
    -- region 9 (draws)
    refine WC.quietS st ty_mixed (by kernel_rfl) fun Kq hKq => ?_
    -- R9.0 38 := diskm.go:72 fieldAddr
    refine QL.v (fun w st => by exact r_field ty_fld31_0 rfl) rfl rfl rfl ?_
    -- R9.1 39 := diskm.go:72 load
    refine QL.v (fun w st => by exact r_load1 (v := .slice (some ⟨s.b, s.o, none⟩) s.bs.length s.c) ty_one29 rfl (by rw [← hadr]; exact st.c3 (by decide))) rfl rfl rfl ?_
    -- R9.2 40 := diskm.go:72 move
    refine QL.v (fun w st => by first | exact r_move (v := .int _ _) rfl | exact r_move rfl) rfl rfl rfl ?_
    -- R9.3 41 := diskm.go:72 binOp
    refine QL.v (fun w st => by exact r_quo (r := ((tt / 8 : Nat) : Int)) rfl rfl (by omega) (by rw [show ((tt : Nat) : Int).tdiv 8 = ((tt / 8 : Nat) : Int) from rfl]; exact wi64 (by omega) (by omega))) rfl rfl rfl ?_
    -- R9.4 42 := diskm.go:72 indexAddr
    refine QL.v (fun w st => by exact r_indexS (j := tt / 8) ty_sl29 rfl rfl rfl (by omega)) rfl rfl rfl ?_
    -- R9.5 43 := diskm.go:72 load
    refine QL.v (fun w st => by exact r_load1 (v := .int .u8 x) ty_one5 rfl (by rw [show s.o + tt / 8 * 1 = s.o + tt / 8 by omega, hx]; exact sv_old hr st _ (by omega))) rfl rfl rfl ?_
    -- R9.6 44 := diskm.go:72 move
    refine QL.v (fun w st => by first | exact r_move (v := .int _ _) rfl | exact r_move rfl) rfl rfl rfl ?_
    -- R9.7 45 := diskm.go:72 binOp
    refine QL.v (fun w st => by exact r_rem (r := ((tt % 8 : Nat) : Int)) rfl rfl (by omega) rfl) rfl rfl rfl ?_
    -- R9.8 46 := diskm.go:72 binOp
    refine QL.v (fun w st => by exact r_shl (r := 2 ^ (tt % 8)) rfl rfl (by omega) (shl_one (by omega))) rfl rfl rfl ?_
    -- R9.9 47 := diskm.go:72 binOp
    refine QL.v (fun w st => by exact r_and (r := x / 2 ^ (tt % 8) % 2 * 2 ^ (tt % 8)) rfl rfl (and_pw hb.1 hb.2 (by omega))) rfl rfl rfl ?_
    -- R9.10 48 := diskm.go:72 binOp
    refine QL.v (fun w st => by exact r_neq (t := true) rfl rfl ((chosen_neq ht h0 htt hx).trans (hch.trans hkb))) rfl rfl rfl ?_
    refine QL.wl hKq fun w st => ?_
    refine WL.fin hK1169 (fun _ _ h => h) ?_
    refine WC.condT rfl rfl ?_
    -- region 10
    refine WC.region ?_
    -- R10.0 49 := diskm.go:73 move
    refine WL.v (by first | exact r_move (v := .pointer _) rfl | exact r_move rfl) rfl rfl rfl ?_
    -- R10.1 50 := diskm.go:73 load
    refine WL.v (by exact r_loadL (vs := [_, _]) ty_agg63 rfl ⟨(by first | assumption | exact st.c0 (by first | decide | omega) | exact st.c1 (by first | decide | omega) | exact st.c2 (by first | decide | omega) | exact st.c3 (by first | decide | omega) | exact st.c4 (by first | decide | omega) | exact st.c5 (by first | decide | omega) | exact st.c6 (by first | decide | omega) | exact st.c7 (by first | decide | omega) | exact st.c8 (by first | decide | omega)), (by first | assumption | exact st.c0 (by first | decide | omega) | exact st.c1 (by first | decide | omega) | exact st.c2 (by first | decide | omega) | exact st.c3 (by first | decide | omega) | exact st.c4 (by first | decide | omega) | exact st.c5 (by first | decide | omega) | exact st.c6 (by first | decide | omega) | exact st.c7 (by first | decide | omega) | exact st.c8 (by first | decide | omega)), trivial⟩) rfl rfl rfl ?_
    -- R10.2 51 := diskm.go:73 call
    refine WL.call (r_call ty_call45 rfl) rfl rfl rfl (settleM_ok (n := 512) hbi hps hs2 hp1 (Nat.le_refl _) (fun x hx => List.mem_cons_of_mem _ (List.mem_cons_of_mem _ (List.append_subset.2 ⟨List.subset_append_left _ _, fun y hy => List.mem_append_right _ (hKl hy)⟩ hx))) (st.perm (List.perm_append_comm_assoc [_] [_, _] _))) ?_
    rintro _ w ⟨b, rfl, st⟩
    refine WL.fin hK1161 (fun _ _ h => h) ?_
    -- region 11
    refine WC.region ?_
    -- R11.0 52 := diskm.go:62 binOp
    refine WL.v (by exact r_add (r := ((i + 1 : Nat) : Int)) rfl rfl ((wi64 (by omega) (by omega)).trans (by omega))) rfl rfl rfl ?_
    -- R11.1 13 := diskm.go:62 move
    refine WL.v (by first | exact r_move (v := .int _ _) rfl | exact r_move rfl) rfl rfl rfl ?_
    obtain ⟨q1, q2⟩ := hfin 512 b (Nat.le_refl _) ets
    refine WL.next hK1 (fun _ _ h => h) (i + 1, setN NI (p.1 : Int) (sl5 b), iI b 512 (stP pc p.1 512 p.2 p.1) :: KN) ⟨by show i + 1 ≤ P.pend.length; omega, q1, q2, st.drop3.perm (.cons _ (.cons _ (.swap _ _ _)))⟩ (by show P.pend.length - (i + 1) < P.pend.length - i; omega) (by repeat (first | exact sub_nil _ | refine sub_cons rfl rfl ?_))
end Go.Proofs.Qxb6500837aDoor

