import Derived.Test.Qxb6500841aDoorX23
import Derived.Test.Qxb6500841aDoorE21
set_option linter.unusedVariables false
set_option linter.unusedSimpArgs false
set_option maxRecDepth 20000
namespace Go.Proofs.Qxb6500841aDoor
open Go.RowKit Go.E1 Go.Wire
variable {w0 : World} {L : List HI} {w : World} {ET : Nat → TypeId} {EU : Nat → Value}

def innB (f : FD) : List Int := if f.k = 2 then tcpB f.t f.s2.bs else if f.k = 3 then icB f.y f.z f.s3.bs else []
theorem innB_len (f : FD) : (innB f).length = innerN f := by
  unfold innB innerN
  split
  · rw [tcpB_len]
  · split
    · rw [icB_len]
    · rfl
theorem frB_eq {f : FD} (hk : f.k ≠ 0) : frB f = ethB f.e ++ (ipB f.x f.s1.bs ++ (innB f ++ f.s4.bs ++ f.s5.bs)) := by
  unfold frB innB
  rw [if_neg hk]
  simp only [List.append_assoc]

theorem mid_cut {A B C : List Int} {i j : Nat} (hi : A.length = i) (hj : i + B.length = j) : ((A ++ (B ++ C)).take j).drop i = B := by
  have e : A ++ (B ++ C) = (A ++ B) ++ C := by rw [List.append_assoc]
  rw [e, List.take_left' (by rw [List.length_append]; omega), List.drop_left' hi]

theorem cut1 {f : FD} {bs : List Int} (hk : f.k ≠ 0) (h : frB f = bs) : (bs.take (34 + f.s1.bs.length)).drop 14 = ipB f.x f.s1.bs ∧ 34 + f.s1.bs.length ≤ bs.length := by
  rw [← h, frB_eq hk]
  refine ⟨mid_cut (ethB_len _) (by rw [ipB_len]; omega), ?_⟩
  simp only [List.length_append, ethB_len, ipB_len]; omega
theorem cut2 {f : FD} {bs : List Int} {m : Nat} (hk : f.k ≠ 0) (h : frB f = bs) (hm : m = 20 + f.s1.bs.length + innerN f + f.s4.bs.length) : (bs.take (14 + m)).drop (34 + f.s1.bs.length) = innB f ++ f.s4.bs ∧ 14 + m ≤ bs.length := by
  have hl := innB_len f
  rw [← h, frB_eq hk]
  have e : ethB f.e ++ (ipB f.x f.s1.bs ++ (innB f ++ f.s4.bs ++ f.s5.bs)) = (ethB f.e ++ ipB f.x f.s1.bs) ++ ((innB f ++ f.s4.bs) ++ f.s5.bs) := by simp only [List.append_assoc]
  rw [e]
  refine ⟨mid_cut (by rw [List.length_append, ethB_len, ipB_len]; omega) (by rw [List.length_append]; omega), ?_⟩
  simp only [List.length_append, ethB_len, ipB_len]; omega

theorem foldV_cut {bs : List Int} (hb : Byt bs) {k : Nat} (hk : k % 2 = 0) (hl : k ≤ bs.length) : foldV (foldV (wsum (bs.take k)) + wsum (bs.drop k)) = foldV (wsum bs) := by
  rw [foldV_add (wsum_nonneg fun x hx => hb x (List.mem_of_mem_take hx)) (wsum_nonneg fun x hx => hb x (List.mem_of_mem_drop hx)), ← wsum_append _ (by simp; omega), List.take_append_drop]

theorem verV_1 {f : FD} (k0 : f.k ≠ 0) (k2 : f.k ≠ 2) (k3 : f.k ≠ 3) : verV f = decide (foldV (ipSumV f.x f.s1.bs + f.x 7) = 65535) := by
  unfold verV; rw [if_neg k2, if_neg k3]; simp [k0]
theorem verV_2 {f : FD} (k2 : f.k = 2) : verV f = (decide (foldV (ipSumV f.x f.s1.bs + f.x 7) = 65535) && decide (foldV (tcpSumV (tcpPs (f.x 8) (f.x 9) (f.x 10) (f.x 11) (f.x 12) (f.x 13) (f.x 14) (f.x 15) f.s2.bs.length f.s4.bs.length) f.t f.s2.bs f.s4.bs + f.t 7) = 65535)) := by
  unfold verV; rw [if_pos k2]; simp [k2]
theorem verV_3 {f : FD} (k3 : f.k = 3) : verV f = (decide (foldV (ipSumV f.x f.s1.bs + f.x 7) = 65535) && decide (foldV (icSumV f.y f.z f.s3.bs f.s4.bs + f.y 2) = 65535)) := by
  unfold verV; rw [if_neg (by omega), if_pos k3]; simp [k3]

set_option maxHeartbeats 16000000 in
theorem lookC_ok (hE : ErrOk w0 ET EU) (v0 : Value) {v : Value} {bs : List Int} {XI : List HI} (kd : Int) (fo : FD) (d : SV) (off val : Int) (hop : OpOk w0 kd fo d off val) (ho : BO 5 v bs XI) (hb : bs.length ≤ 100000000) (st : S0 w0 (XI ++ L) w) :
    Calls Tryd.prog 14 #[v0, v, .agg (opC kd fo d.v off val).toArray] w (Ret fun r w' => r = .bool true ∧ S0 w0 (XI ++ L) w') := by
  obtain ⟨s, rfl, hsb, hsok, hsrd⟩ := ho.sv
  have hsr : ∀ l w', S0 w0 (l ++ (XI ++ L)) w' → s.rd w' := fun l w' q => hsrd q (fun x hx => by simp [hx])
  have hbl : s.bs.length ≤ 100000000 := by rw [hsb]; exact hb
  have hlec := hsok.le
  have vr := hop.vr
  obtain ⟨o', ho'⟩ : ∃ o' : Nat, off = (o' : Int) := ⟨off.toNat, by have := hop.ofr; omega⟩
  have ho2 : o' < 4294967296 := by have := hop.ofr; omega
  obtain ⟨cut, hcut⟩ : ∃ cut, cut = o' % (s.bs.length / 2 + 1) * 2 := ⟨_, rfl⟩
  have hcl : cut ≤ s.bs.length := by have := Nat.mod_lt o' (show 0 < s.bs.length / 2 + 1 by omega); omega
  have hc2 : cut % 2 = 0 := by omega
  have hfr := foldV_rng (wsum s.bs)
  have hfc := foldV_rng (wsum (s.bs.take cut))
  have hp1 := Part.sub hsok (l := 0) (h := cut) (m := s.c) (by omega) hcl (by omega) (Nat.le_refl _)
  have hp2 := Part.sub hsok (l := cut) (h := s.bs.length) (m := s.c) hcl (Nat.le_refl _) hlec (Nat.le_refl _)
  rw [List.drop_zero] at hp1
  rw [List.take_length] at hp2
  refine enter [v0, s.v, .agg (opC kd fo d.v off val).toArray] Tryd.func14 rfl Tryd.ntmps14 rfl ?_
  show WC _ _ _ 152 [] [(0, v0), (1, s.v), (2, .agg (opC kd fo d.v off val).toArray)] _
  refine WC.seq fun K1187 hK1187 => ?_
  -- region 0
  refine WC.region ?_
  -- R0.0 5 := wirelaw.go:249 box
  refine WL.box (m := 68) (vs := opC kd fo d.v off val) st rfl rfl rfl rfl rfl rfl ?_
  intro b5 w st
  -- R0.1 6 := wirelaw.go:249 assign
  refine WL.v (by first | exact r_assign (v := .bool _) rfl | exact r_assign rfl) rfl rfl rfl ?_
  refine WL.fin hK1187 (fun _ _ h => h) ?_
  refine WC.seq fun K1188 hK1188 => ?_
  -- region 1
  refine WC.region ?_
  -- R1.0 17 := wirelaw.go:250 move
  refine WL.v (by first | exact r_move (v := .slice _ _ _) rfl | exact r_move rfl) rfl rfl rfl ?_
  -- R1.1 18 := wirelaw.go:250 call
  refine WL.call (r_call ty_call15 rfl) rfl rfl rfl (ones_ok s hsok (by omega) (fun w' q => hsr [_] w' q) st) ?_
  rintro _ w ⟨rfl, st⟩
  -- R1.2 7 := wirelaw.go:250 assign
  refine WL.v (by first | exact r_assign (v := .int _ _) rfl | exact r_assign rfl) rfl rfl rfl ?_
  refine WL.fin hK1188 (fun _ _ h => h) ?_
  refine WC.seq fun K1189 hK1189 => ?_
  -- region 2
  refine WC.region ?_
  -- R2.0 19 := wirelaw.go:251 fieldAddr
  refine WL.v (by exact r_field ty_fld45_3 rfl) rfl rfl rfl ?_
  -- R2.1 20 := wirelaw.go:251 load
  refine WL.v (by exact r_load1 ty_one37 rfl (by first | assumption | exact st.c0 (by first | decide | omega) | exact st.c1 (by first | decide | omega) | exact st.c2 (by first | decide | omega) | exact st.c3 (by first | decide | omega) | exact st.c4 (by first | decide | omega) | exact st.c5 (by first | decide | omega) | exact st.c6 (by first | decide | omega) | exact st.c7 (by first | decide | omega) | exact st.c8 (by first | decide | omega))) rfl rfl rfl ?_
  -- R2.2 21 := wirelaw.go:251 convert
  refine WL.v (by exact r_conv (r := (o' : Int)) ty_cv37_3 rfl ((congrArg IntKind.i64.wrap ho').trans (wi64 (by omega) (by omega)))) rfl rfl rfl ?_
  -- R2.3 22 := wirelaw.go:251 move
  refine WL.v (by first | exact r_move (v := .slice _ _ _) rfl | exact r_move rfl) rfl rfl rfl ?_
  -- R2.4 23 := wirelaw.go:251 call
  refine WL.v (by exact r_len ty_usl25 rfl) rfl rfl rfl ?_
  -- R2.5 24 := wirelaw.go:251 binOp
  refine WL.v (by exact r_quo (r := ((s.bs.length / 2 : Nat) : Int)) rfl rfl (by omega) (by rw [show ((s.bs.length : Nat) : Int).tdiv 2 = ((s.bs.length / 2 : Nat) : Int) from rfl, wi64 (by omega) (by omega)])) rfl rfl rfl ?_
  -- R2.6 25 := wirelaw.go:251 binOp
  refine WL.v (by exact r_add (r := ((s.bs.length / 2 + 1 : Nat) : Int)) rfl rfl ((wi64 (by omega) (by omega)).trans (by omega))) rfl rfl rfl ?_
  -- R2.7 26 := wirelaw.go:251 binOp
  refine WL.v (by exact r_rem (r := ((o' % (s.bs.length / 2 + 1) : Nat) : Int)) rfl rfl (by omega) rfl) rfl rfl rfl ?_
  -- R2.8 27 := wirelaw.go:251 binOp
  refine WL.v (by exact r_mul (r := (cut : Int)) rfl rfl ((wi64 (by omega) (by omega)).trans (by omega))) rfl rfl rfl ?_
  -- R2.9 8 := wirelaw.go:251 assign
  refine WL.v (by first | exact r_assign (v := .int _ _) rfl | exact r_assign rfl) rfl rfl rfl ?_
  refine WL.fin hK1189 (fun _ _ h => h) ?_
  refine WC.seq fun K1190 hK1190 => ?_
  refine WC.seq fun K1191 hK1191 => ?_
  -- region 3 (draws)
  refine WC.quietS st ty_mixed (by kernel_rfl) fun Kq hKq => ?_
  -- R3.0 28 := wirelaw.go:252 move
  refine QL.v (fun w st => by first | exact r_move (v := .slice _ _ _) rfl | exact r_move rfl) rfl rfl rfl ?_
  -- R3.1 29 := wirelaw.go:252 call
  refine QL.call (val := .int .u16 (foldV (wsum s.bs))) (fun w st => r_call ty_call16 rfl) rfl rfl rfl (fun w st => by
    have := sum_ok 0 s (by omega) (by omega) hsok (by omega) (moreL hsr [_]) st
    rw [Int.zero_add] at this; exact this) ?_
  -- R3.2 30 := wirelaw.go:252 move
  refine QL.v (fun w st => by first | exact r_move (v := .int _ _) rfl | exact r_move rfl) rfl rfl rfl ?_
  -- R3.3 31 := wirelaw.go:252 binOp
  refine QL.v (fun w st => by first | exact r_neq rfl rfl (decide_eq_true (by omega)) | exact r_neq rfl rfl (decide_eq_false (by omega)) | exact r_neq rfl rfl rfl) rfl rfl rfl ?_
  -- R3.4 32 := wirelaw.go:252 move
  refine QL.v (fun w st => by first | exact r_move (v := .bool _) rfl | exact r_move rfl) rfl rfl rfl ?_
  -- R3.5 33 := wirelaw.go:252 move
  refine QL.v (fun w st => by first | exact r_move (v := .slice _ _ _) rfl | exact r_move rfl) rfl rfl rfl ?_
  -- R3.6 34 := wirelaw.go:252 call
  refine QL.call (val := .int .u16 (65535 - foldV (wsum s.bs))) (fun w st => r_call ty_call17 rfl) rfl rfl rfl (fun w st => cksum_ok s hsok (by omega) (moreL hsr [_]) st) ?_
  -- R3.7 35 := wirelaw.go:252 move
  refine QL.v (fun w st => by first | exact r_move (v := .int _ _) rfl | exact r_move rfl) rfl rfl rfl ?_
  -- R3.8 36 := wirelaw.go:252 binOp
  refine QL.v (fun w st => by first | exact r_sub rfl rfl (wu16 (by omega) (by omega)) | exact r_sub rfl rfl rfl) rfl rfl rfl ?_
  -- R3.9 37 := wirelaw.go:252 binOp
  refine QL.v (fun w st => by first | exact r_neq rfl rfl (decide_eq_true (by omega)) | exact r_neq rfl rfl (decide_eq_false (by omega)) | exact r_neq rfl rfl rfl) rfl rfl rfl ?_
  -- R3.10 38 := wirelaw.go:252 pick
  refine QL.v (fun w st => by first | exact r_pickT (v := .bool _) rfl rfl | exact r_pickF (v := .bool _) rfl rfl) rfl rfl rfl ?_
  -- R3.11 39 := wirelaw.go:252 move
  refine QL.v (fun w st => by first | exact r_move (v := .bool _) rfl | exact r_move rfl) rfl rfl rfl ?_
  -- R3.12 40 := wirelaw.go:252 move
  refine QL.v (fun w st => by first | exact r_move (v := .slice _ _ _) rfl | exact r_move rfl) rfl rfl rfl ?_
  -- R3.13 41 := wirelaw.go:252 move
  refine QL.v (fun w st => by first | exact r_move (v := .int _ _) rfl | exact r_move rfl) rfl rfl rfl ?_
  -- R3.14 42 := wirelaw.go:252 slice
  refine QL.v (fun w st => by exact r_slV s (l := 0) (h := cut) ty_sl25 rfl rfl ⟨_, rfl⟩ rfl (fun h => by cases h) (by omega) (by omega) (Nat.le_refl _) hcl) rfl rfl rfl ?_
  -- R3.15 43 := wirelaw.go:253 call
  refine QL.call (val := .int .u16 (foldV (wsum (s.bs.take cut)))) (fun w st => r_call ty_call16 rfl) rfl rfl rfl (fun w st => by
    have := sum_ok 0 (s.sub 0 cut s.c) (by omega) (by omega) hp1.ok (by rw [hp1.bs_]; simp; omega) (fun its w' q => hp1.rd w' (hsr (its ++ [_]) w' (by rw [List.append_assoc]; exact q))) st
    rw [Int.zero_add, hp1.bs_] at this; rw [← hp1.bs_] at this ⊢; exact this) ?_
  -- R3.16 44 := wirelaw.go:252 move
  refine QL.v (fun w st => by first | exact r_move (v := .slice _ _ _) rfl | exact r_move rfl) rfl rfl rfl ?_
  -- R3.17 45 := wirelaw.go:252 move
  refine QL.v (fun w st => by first | exact r_move (v := .int _ _) rfl | exact r_move rfl) rfl rfl rfl ?_
  -- R3.18 46 := wirelaw.go:252 slice
  refine QL.v (fun w st => by exact r_slV s (l := cut) ty_sl25 rfl ⟨_, rfl⟩ rfl rfl (fun h => rfl) hcl (by omega) (Nat.le_refl _) (Nat.le_refl _)) rfl rfl rfl ?_
  -- R3.19 47 := wirelaw.go:253 call
  refine QL.call (val := .int .u16 (foldV (wsum s.bs))) (fun w st => r_call ty_call16 rfl) rfl rfl rfl (fun w st => by
    have := sum_ok (foldV (wsum (s.bs.take cut))) (s.sub cut s.bs.length s.c) hfc.1 hfc.2 hp2.ok (by rw [hp2.bs_]; simp; omega) (fun its w' q => hp2.rd w' (hsr (its ++ [_]) w' (by rw [List.append_assoc]; exact q))) st
    have e : foldV (foldV (wsum (s.bs.take cut)) + wsum (s.sub cut s.bs.length s.c).bs) = foldV (wsum s.bs) := by rw [hp2.bs_]; exact foldV_cut hsok.byt hc2 hcl
    rw [e] at this; exact this) ?_
  -- R3.20 48 := wirelaw.go:252 move
  refine QL.v (fun w st => by first | exact r_move (v := .int _ _) rfl | exact r_move rfl) rfl rfl rfl ?_
  -- R3.21 49 := wirelaw.go:252 binOp
  refine QL.v (fun w st => by first | exact r_neq rfl rfl (decide_eq_true (by omega)) | exact r_neq rfl rfl (decide_eq_false (by omega)) | exact r_neq rfl rfl rfl) rfl rfl rfl ?_
  -- R3.22 50 := wirelaw.go:252 pick
  refine QL.v (fun w st => by first | exact r_pickT (v := .bool _) rfl rfl | exact r_pickF (v := .bool _) rfl rfl) rfl rfl rfl ?_
  refine QL.wl hKq fun w st => ?_
  refine WL.fin hK1191 (fun _ _ h => h) ?_
  refine WC.condF rfl rfl ?_
  refine WC.skipF hK1190 (fun _ _ h => h) ?_
  by_cases h12 : 12 ≤ s.bs.length
  · have ha := hsok.adr (by omega)
    have hav := congrArg (fun q => Value.slice q s.bs.length s.c) ha
    have g : ∀ i, i < 12 → 0 ≤ s.bs.getD i 0 ∧ s.bs.getD i 0 < 256 := fun i hi => hsok.at (by omega)
    refine WC.seq fun K1192 hK1192 => ?_
    refine WC.seq fun K1193 hK1193 => ?_
    -- region 5
    refine WC.region ?_
    -- R5.0 51 := wirelaw.go:256 move
    refine WL.v (by first | exact r_move (v := .slice _ _ _) rfl | exact r_move rfl) rfl rfl rfl ?_
    -- R5.1 52 := wirelaw.go:256 call
    refine WL.v (by exact r_len ty_usl25 rfl) rfl rfl rfl ?_
    -- R5.2 53 := wirelaw.go:256 binOp
    refine WL.v (by first | exact r_geq rfl rfl (decide_eq_true (by omega)) | exact r_geq rfl rfl (decide_eq_false (by omega)) | exact r_geq rfl rfl rfl) rfl rfl rfl ?_
    refine WL.fin hK1193 (fun _ _ h => h) ?_
    refine WC.condT rfl rfl ?_
    refine WC.seq fun K1194 hK1194 => ?_
    refine WC.heldW [11] 8 9 [9, 10, 11] [8, 10, 11] [0, 1, 2, 3, 4, 5, 6, 7] st st ty_mixed (by kernel_rfl) fun w st Kq hKq => ?_
    -- R6.0 54 := wirelaw.go:257 move
    refine HL.v (fun w st => by first | exact r_move (v := .slice _ _ _) rfl | exact r_move rfl) rfl rfl rfl ?_
    -- R6.1 55 := wirelaw.go:257 slice
    refine HL.v (fun w st => by exact r_slS (l := 0) (h := 4) ty_sl25 hav ⟨_, rfl⟩ ⟨_, rfl⟩ rfl (fun h => by cases h) (by omega) (by omega) (Nat.le_refl _) (by omega)) rfl rfl rfl ?_
    -- R6.2 56 := wirelaw.go:257 sliceToArrayPointer
    refine HL.v (fun w st => by exact r_s2a ty_ar34 rfl (by first | decide | omega)) rfl rfl rfl ?_
    -- R6.3 57 := wirelaw.go:257 load
    refine HL.v (fun w st => by exact r_loadL (vs := [_, _, _, _]) ty_agg34 rfl ⟨(hsr [_] _ st 0 (by omega)), (hsr [_] _ st 1 (by omega)), (hsr [_] _ st 2 (by omega)), (hsr [_] _ st 3 (by omega)), trivial⟩) rfl rfl rfl ?_
    -- R6.4 58 := wirelaw.go:257 move
    refine HL.v (fun w st => by first | exact r_move (v := .slice _ _ _) rfl | exact r_move rfl) rfl rfl rfl ?_
    -- R6.5 59 := wirelaw.go:257 slice
    refine HL.v (fun w st => by exact r_slS (l := 4) (h := 8) ty_sl25 hav ⟨_, rfl⟩ ⟨_, rfl⟩ rfl (fun h => by cases h) (by omega) (by omega) (Nat.le_refl _) (by omega)) rfl rfl rfl ?_
    -- R6.6 60 := wirelaw.go:257 sliceToArrayPointer
    refine HL.v (fun w st => by exact r_s2a ty_ar34 rfl (by first | decide | omega)) rfl rfl rfl ?_
    -- R6.7 61 := wirelaw.go:257 load
    refine HL.v (fun w st => by exact r_loadL (vs := [_, _, _, _]) ty_agg34 rfl ⟨(hsr [_] _ st 4 (by omega)), (hsr [_] _ st 5 (by omega)), (hsr [_] _ st 6 (by omega)), (hsr [_] _ st 7 (by omega)), trivial⟩) rfl rfl rfl ?_
    refine HL.fin hKq ⟨?_, ?_⟩
    · skip
      refine TL.at ?_
      -- R6.8 9 := wirelaw.go:257 alloc
      refine WL.alloc (m := 4) st ty_zero34 rfl rfl rfl ?_
      intro b9 w st
      refine TL.nxt (by first | exact st | exact st.drop | exact st.drop1 | exact st.drop2 | exact st.drop3 | exact st.drop4 | exact st.drop.drop | exact st.drop.drop1 | exact st.drop.drop2 | exact st.drop.drop3 | exact st.drop.drop4 | exact st.drop.drop.drop | exact st_dropL st | exact st_dropL st.drop | exact st_none st) ?_
      refine TL.at ?_
      -- R6.9 10 := wirelaw.go:257 alloc
      refine WL.alloc (m := 4) st ty_zero34 rfl rfl rfl ?_
      intro b10 w st
      refine TL.nxt (by first | exact st | exact st.drop | exact st.drop1 | exact st.drop2 | exact st.drop3 | exact st.drop4 | exact st.drop.drop | exact st.drop.drop1 | exact st.drop.drop2 | exact st.drop.drop3 | exact st.drop.drop4 | exact st.drop.drop.drop | exact st_dropL st | exact st_dropL st.drop | exact st_none st) ?_
      refine TL.at ?_
      -- R6.10 None := wirelaw.go:257 store
      first | refine WL.storeW (vs := [_, _, _, _]) st ty_agg34 rfl rfl rfl rfl rfl rfl ?_ | refine WL.storeL (vs := [_, _, _, _]) st ty_agg34 rfl rfl rfl rfl (by first | decide | omega) rfl rfl ?_ | refine WL.storeW (vs := [_, _, _, _]) st.front1 ty_agg34 rfl rfl rfl rfl rfl rfl ?_ | refine WL.storeL (vs := [_, _, _, _]) st.front1 ty_agg34 rfl rfl rfl rfl (by first | decide | omega) rfl rfl ?_ | refine WL.storeW (vs := [_, _, _, _]) st.front2 ty_agg34 rfl rfl rfl rfl rfl rfl ?_ | refine WL.storeL (vs := [_, _, _, _]) st.front2 ty_agg34 rfl rfl rfl rfl (by first | decide | omega) rfl rfl ?_ | refine WL.storeW (vs := [_, _, _, _]) st.front3 ty_agg34 rfl rfl rfl rfl rfl rfl ?_ | refine WL.storeL (vs := [_, _, _, _]) st.front3 ty_agg34 rfl rfl rfl rfl (by first | decide | omega) rfl rfl ?_ | refine WL.storeW (vs := [_, _, _, _]) st.front4 ty_agg34 rfl rfl rfl rfl rfl rfl ?_ | refine WL.storeL (vs := [_, _, _, _]) st.front4 ty_agg34 rfl rfl rfl rfl (by first | decide | omega) rfl rfl ?_ | refine WL.storeW (vs := [_, _, _, _]) st.front5 ty_agg34 rfl rfl rfl rfl rfl rfl ?_ | refine WL.storeL (vs := [_, _, _, _]) st.front5 ty_agg34 rfl rfl rfl rfl (by first | decide | omega) rfl rfl ?_ | refine WL.storeW (vs := [_, _, _, _]) st.front6 ty_agg34 rfl rfl rfl rfl rfl rfl ?_ | refine WL.storeL (vs := [_, _, _, _]) st.front6 ty_agg34 rfl rfl rfl rfl (by first | decide | omega) rfl rfl ?_ | refine WL.storeW (vs := [_, _, _, _]) st.front7 ty_agg34 rfl rfl rfl rfl rfl rfl ?_ | refine WL.storeL (vs := [_, _, _, _]) st.front7 ty_agg34 rfl rfl rfl rfl (by first | decide | omega) rfl rfl ?_ | refine WL.storeW (vs := [_, _, _, _]) st.front8 ty_agg34 rfl rfl rfl rfl rfl rfl ?_ | refine WL.storeL (vs := [_, _, _, _]) st.front8 ty_agg34 rfl rfl rfl rfl (by first | decide | omega) rfl rfl ?_
      intro w st
      refine TL.nxt (by first | exact st | exact st.drop | exact st.drop1 | exact st.drop2 | exact st.drop3 | exact st.drop4 | exact st.drop.drop | exact st.drop.drop1 | exact st.drop.drop2 | exact st.drop.drop3 | exact st.drop.drop4 | exact st.drop.drop.drop | exact st_dropL st | exact st_dropL st.drop | exact st_none st) ?_
      refine TL.at ?_
      -- R6.11 None := wirelaw.go:257 store
      first | refine WL.storeW (vs := [_, _, _, _]) st ty_agg34 rfl rfl rfl rfl rfl rfl ?_ | refine WL.storeL (vs := [_, _, _, _]) st ty_agg34 rfl rfl rfl rfl (by first | decide | omega) rfl rfl ?_ | refine WL.storeW (vs := [_, _, _, _]) st.front1 ty_agg34 rfl rfl rfl rfl rfl rfl ?_ | refine WL.storeL (vs := [_, _, _, _]) st.front1 ty_agg34 rfl rfl rfl rfl (by first | decide | omega) rfl rfl ?_ | refine WL.storeW (vs := [_, _, _, _]) st.front2 ty_agg34 rfl rfl rfl rfl rfl rfl ?_ | refine WL.storeL (vs := [_, _, _, _]) st.front2 ty_agg34 rfl rfl rfl rfl (by first | decide | omega) rfl rfl ?_ | refine WL.storeW (vs := [_, _, _, _]) st.front3 ty_agg34 rfl rfl rfl rfl rfl rfl ?_ | refine WL.storeL (vs := [_, _, _, _]) st.front3 ty_agg34 rfl rfl rfl rfl (by first | decide | omega) rfl rfl ?_ | refine WL.storeW (vs := [_, _, _, _]) st.front4 ty_agg34 rfl rfl rfl rfl rfl rfl ?_ | refine WL.storeL (vs := [_, _, _, _]) st.front4 ty_agg34 rfl rfl rfl rfl (by first | decide | omega) rfl rfl ?_ | refine WL.storeW (vs := [_, _, _, _]) st.front5 ty_agg34 rfl rfl rfl rfl rfl rfl ?_ | refine WL.storeL (vs := [_, _, _, _]) st.front5 ty_agg34 rfl rfl rfl rfl (by first | decide | omega) rfl rfl ?_ | refine WL.storeW (vs := [_, _, _, _]) st.front6 ty_agg34 rfl rfl rfl rfl rfl rfl ?_ | refine WL.storeL (vs := [_, _, _, _]) st.front6 ty_agg34 rfl rfl rfl rfl (by first | decide | omega) rfl rfl ?_ | refine WL.storeW (vs := [_, _, _, _]) st.front7 ty_agg34 rfl rfl rfl rfl rfl rfl ?_ | refine WL.storeL (vs := [_, _, _, _]) st.front7 ty_agg34 rfl rfl rfl rfl (by first | decide | omega) rfl rfl ?_ | refine WL.storeW (vs := [_, _, _, _]) st.front8 ty_agg34 rfl rfl rfl rfl rfl rfl ?_ | refine WL.storeL (vs := [_, _, _, _]) st.front8 ty_agg34 rfl rfl rfl rfl (by first | decide | omega) rfl rfl ?_
      intro w st
      refine TL.nxt' rfl ?_
      refine TL.wl ?_
      refine WL.fin hK1194 (fun _ _ h => h) ?_
      refine WC.seq fun K1195 hK1195 => ?_
      -- region 7 (draws)
      refine WC.heldS [] [0, 1, 2, 3, 4, 5, 6, 8, 9, 10, 11, 12, 13, 14] [7, 15, 16, 17] st (st) ty_mixed (by kernel_rfl) fun w st Kq hKq => ?_
      -- R7.0 62 := wirelaw.go:258 load
      refine HL.v (fun w st => by exact r_loadL (vs := [_, _, _, _]) ty_agg34 rfl ⟨(by first | assumption | exact st.c0 (by first | decide | omega) | exact st.c1 (by first | decide | omega) | exact st.c2 (by first | decide | omega) | exact st.c3 (by first | decide | omega) | exact st.c4 (by first | decide | omega) | exact st.c5 (by first | decide | omega) | exact st.c6 (by first | decide | omega) | exact st.c7 (by first | decide | omega) | exact st.c8 (by first | decide | omega)), (by first | assumption | exact st.c0 (by first | decide | omega) | exact st.c1 (by first | decide | omega) | exact st.c2 (by first | decide | omega) | exact st.c3 (by first | decide | omega) | exact st.c4 (by first | decide | omega) | exact st.c5 (by first | decide | omega) | exact st.c6 (by first | decide | omega) | exact st.c7 (by first | decide | omega) | exact st.c8 (by first | decide | omega)), (by first | assumption | exact st.c0 (by first | decide | omega) | exact st.c1 (by first | decide | omega) | exact st.c2 (by first | decide | omega) | exact st.c3 (by first | decide | omega) | exact st.c4 (by first | decide | omega) | exact st.c5 (by first | decide | omega) | exact st.c6 (by first | decide | omega) | exact st.c7 (by first | decide | omega) | exact st.c8 (by first | decide | omega)), (by first | assumption | exact st.c0 (by first | decide | omega) | exact st.c1 (by first | decide | omega) | exact st.c2 (by first | decide | omega) | exact st.c3 (by first | decide | omega) | exact st.c4 (by first | decide | omega) | exact st.c5 (by first | decide | omega) | exact st.c6 (by first | decide | omega) | exact st.c7 (by first | decide | omega) | exact st.c8 (by first | decide | omega)), trivial⟩) rfl rfl rfl ?_
      -- R7.1 63 := wirelaw.go:258 load
      refine HL.v (fun w st => by exact r_loadL (vs := [_, _, _, _]) ty_agg34 rfl ⟨(by first | assumption | exact st.c0 (by first | decide | omega) | exact st.c1 (by first | decide | omega) | exact st.c2 (by first | decide | omega) | exact st.c3 (by first | decide | omega) | exact st.c4 (by first | decide | omega) | exact st.c5 (by first | decide | omega) | exact st.c6 (by first | decide | omega) | exact st.c7 (by first | decide | omega) | exact st.c8 (by first | decide | omega)), (by first | assumption | exact st.c0 (by first | decide | omega) | exact st.c1 (by first | decide | omega) | exact st.c2 (by first | decide | omega) | exact st.c3 (by first | decide | omega) | exact st.c4 (by first | decide | omega) | exact st.c5 (by first | decide | omega) | exact st.c6 (by first | decide | omega) | exact st.c7 (by first | decide | omega) | exact st.c8 (by first | decide | omega)), (by first | assumption | exact st.c0 (by first | decide | omega) | exact st.c1 (by first | decide | omega) | exact st.c2 (by first | decide | omega) | exact st.c3 (by first | decide | omega) | exact st.c4 (by first | decide | omega) | exact st.c5 (by first | decide | omega) | exact st.c6 (by first | decide | omega) | exact st.c7 (by first | decide | omega) | exact st.c8 (by first | decide | omega)), (by first | assumption | exact st.c0 (by first | decide | omega) | exact st.c1 (by first | decide | omega) | exact st.c2 (by first | decide | omega) | exact st.c3 (by first | decide | omega) | exact st.c4 (by first | decide | omega) | exact st.c5 (by first | decide | omega) | exact st.c6 (by first | decide | omega) | exact st.c7 (by first | decide | omega) | exact st.c8 (by first | decide | omega)), trivial⟩) rfl rfl rfl ?_
      -- R7.2 64 := wirelaw.go:258 move
      refine HL.v (fun w st => by first | exact r_move (v := .slice _ _ _) rfl | exact r_move rfl) rfl rfl rfl ?_
      -- R7.3 65 := wirelaw.go:258 indexAddr
      refine HL.v (fun w st => by exact r_indexS (j := 8) ty_sl25 hav rfl rfl (by omega)) rfl rfl rfl ?_
      -- R7.4 66 := wirelaw.go:258 load
      refine HL.v (fun w st => by exact r_load1 ty_one5 rfl (hsr [_, _, _] _ st 8 (by omega))) rfl rfl rfl ?_
      -- R7.5 67 := wirelaw.go:258 fieldAddr
      refine HL.v (fun w st => by exact r_field ty_fld45_4 rfl) rfl rfl rfl ?_
      -- R7.6 68 := wirelaw.go:258 load
      refine HL.v (fun w st => by exact r_load1 ty_one30 rfl (by first | assumption | exact st.c0 (by first | decide | omega) | exact st.c1 (by first | decide | omega) | exact st.c2 (by first | decide | omega) | exact st.c3 (by first | decide | omega) | exact st.c4 (by first | decide | omega) | exact st.c5 (by first | decide | omega) | exact st.c6 (by first | decide | omega) | exact st.c7 (by first | decide | omega) | exact st.c8 (by first | decide | omega))) rfl rfl rfl ?_
      -- R7.8 70 := wirelaw.go:258 load
      refine HL.v (fun w st => by exact r_loadL (vs := [_, _, _, _]) ty_agg34 rfl ⟨(by first | assumption | exact st.c0 (by first | decide | omega) | exact st.c1 (by first | decide | omega) | exact st.c2 (by first | decide | omega) | exact st.c3 (by first | decide | omega) | exact st.c4 (by first | decide | omega) | exact st.c5 (by first | decide | omega) | exact st.c6 (by first | decide | omega) | exact st.c7 (by first | decide | omega) | exact st.c8 (by first | decide | omega)), (by first | assumption | exact st.c0 (by first | decide | omega) | exact st.c1 (by first | decide | omega) | exact st.c2 (by first | decide | omega) | exact st.c3 (by first | decide | omega) | exact st.c4 (by first | decide | omega) | exact st.c5 (by first | decide | omega) | exact st.c6 (by first | decide | omega) | exact st.c7 (by first | decide | omega) | exact st.c8 (by first | decide | omega)), (by first | assumption | exact st.c0 (by first | decide | omega) | exact st.c1 (by first | decide | omega) | exact st.c2 (by first | decide | omega) | exact st.c3 (by first | decide | omega) | exact st.c4 (by first | decide | omega) | exact st.c5 (by first | decide | omega) | exact st.c6 (by first | decide | omega) | exact st.c7 (by first | decide | omega) | exact st.c8 (by first | decide | omega)), (by first | assumption | exact st.c0 (by first | decide | omega) | exact st.c1 (by first | decide | omega) | exact st.c2 (by first | decide | omega) | exact st.c3 (by first | decide | omega) | exact st.c4 (by first | decide | omega) | exact st.c5 (by first | decide | omega) | exact st.c6 (by first | decide | omega) | exact st.c7 (by first | decide | omega) | exact st.c8 (by first | decide | omega)), trivial⟩) rfl rfl rfl ?_
      -- R7.9 71 := wirelaw.go:258 load
      refine HL.v (fun w st => by exact r_loadL (vs := [_, _, _, _]) ty_agg34 rfl ⟨(by first | assumption | exact st.c0 (by first | decide | omega) | exact st.c1 (by first | decide | omega) | exact st.c2 (by first | decide | omega) | exact st.c3 (by first | decide | omega) | exact st.c4 (by first | decide | omega) | exact st.c5 (by first | decide | omega) | exact st.c6 (by first | decide | omega) | exact st.c7 (by first | decide | omega) | exact st.c8 (by first | decide | omega)), (by first | assumption | exact st.c0 (by first | decide | omega) | exact st.c1 (by first | decide | omega) | exact st.c2 (by first | decide | omega) | exact st.c3 (by first | decide | omega) | exact st.c4 (by first | decide | omega) | exact st.c5 (by first | decide | omega) | exact st.c6 (by first | decide | omega) | exact st.c7 (by first | decide | omega) | exact st.c8 (by first | decide | omega)), (by first | assumption | exact st.c0 (by first | decide | omega) | exact st.c1 (by first | decide | omega) | exact st.c2 (by first | decide | omega) | exact st.c3 (by first | decide | omega) | exact st.c4 (by first | decide | omega) | exact st.c5 (by first | decide | omega) | exact st.c6 (by first | decide | omega) | exact st.c7 (by first | decide | omega) | exact st.c8 (by first | decide | omega)), (by first | assumption | exact st.c0 (by first | decide | omega) | exact st.c1 (by first | decide | omega) | exact st.c2 (by first | decide | omega) | exact st.c3 (by first | decide | omega) | exact st.c4 (by first | decide | omega) | exact st.c5 (by first | decide | omega) | exact st.c6 (by first | decide | omega) | exact st.c7 (by first | decide | omega) | exact st.c8 (by first | decide | omega)), trivial⟩) rfl rfl rfl ?_
      -- R7.10 72 := wirelaw.go:258 move
      refine HL.v (fun w st => by first | exact r_move (v := .slice _ _ _) rfl | exact r_move rfl) rfl rfl rfl ?_
      -- R7.11 73 := wirelaw.go:258 indexAddr
      refine HL.v (fun w st => by exact r_indexS (j := 8) ty_sl25 hav rfl rfl (by omega)) rfl rfl rfl ?_
      -- R7.12 74 := wirelaw.go:258 load
      refine HL.v (fun w st => by exact r_load1 ty_one5 rfl (hsr [_, _, _] _ st 8 (by omega))) rfl rfl rfl ?_
      -- R7.13 75 := wirelaw.go:258 fieldAddr
      refine HL.v (fun w st => by exact r_field ty_fld45_4 rfl) rfl rfl rfl ?_
      -- R7.14 76 := wirelaw.go:258 load
      refine HL.v (fun w st => by exact r_load1 ty_one30 rfl (by first | assumption | exact st.c0 (by first | decide | omega) | exact st.c1 (by first | decide | omega) | exact st.c2 (by first | decide | omega) | exact st.c3 (by first | decide | omega) | exact st.c4 (by first | decide | omega) | exact st.c5 (by first | decide | omega) | exact st.c6 (by first | decide | omega) | exact st.c7 (by first | decide | omega) | exact st.c8 (by first | decide | omega))) rfl rfl rfl ?_
      refine HL.fin hKq ?_
      refine TL.at ?_
      -- R7.7 69 := wirelaw.go:258 call
      refine WL.call (r_call ty_call18 rfl) rfl rfl rfl (pseudo_ok _ _ _ _ _ _ _ _ _ _ (g 0 (by omega)) (g 1 (by omega)) (g 2 (by omega)) (g 3 (by omega)) (g 4 (by omega)) (g 5 (by omega)) (g 6 (by omega)) (g 7 (by omega)) (g 8 (by omega)) vr st) ?_
      rintro _ w ⟨rfl, st⟩
      refine TL.nxt (by first | exact st | exact st.drop | exact st.drop1 | exact st.drop2 | exact st.drop3 | exact st.drop4 | exact st.drop.drop | exact st.drop.drop1 | exact st.drop.drop2 | exact st.drop.drop3 | exact st.drop.drop4 | exact st.drop.drop.drop | exact st_dropL st | exact st_dropL st.drop | exact st_none st) ?_
      refine TL.at ?_
      -- R7.15 77 := wirelaw.go:258 call
      refine WL.call (r_call ty_call19 rfl) rfl rfl rfl (pseudoB_ok _ _ _ _ _ _ _ _ _ _ (g 0 (by omega)) (g 1 (by omega)) (g 2 (by omega)) (g 3 (by omega)) (g 4 (by omega)) (g 5 (by omega)) (g 6 (by omega)) (g 7 (by omega)) (g 8 (by omega)) vr st) ?_
      rintro vp w ⟨XP, hbp, st⟩
      obtain ⟨sp, rfl, hsp, hspok, hsprd⟩ := hbp.bo.sv
      refine TL.nxt (by first | exact st | exact st.drop | exact st.drop1 | exact st.drop2 | exact st.drop3 | exact st.drop4 | exact st.drop.drop | exact st.drop.drop1 | exact st.drop.drop2 | exact st.drop.drop3 | exact st.drop.drop4 | exact st.drop.drop.drop | exact st_dropL st | exact st_dropL st.drop | exact st_none st) ?_
      refine TL.at ?_
      -- R7.16 78 := wirelaw.go:258 call
      refine WL.call (r_call ty_call15 rfl) rfl rfl rfl (ones_ok sp hspok (by rw [hsp]; simp only [psB, List.length_cons, List.length_nil]; omega) (fun w' q => hsprd q (fun x hx => by simp [hx])) st) ?_
      rintro _ w ⟨rfl, st⟩
      rw [hsp, ← ps_sum (g 0 (by omega)) (g 1 (by omega)) (g 2 (by omega)) (g 3 (by omega)) (g 4 (by omega)) (g 5 (by omega)) (g 6 (by omega)) (g 7 (by omega)) (g 8 (by omega)) vr]
      refine TL.nxt (by first | exact st | exact st.drop | exact st.drop1 | exact st.drop2 | exact st.drop3 | exact st.drop4 | exact st.drop.drop | exact st.drop.drop1 | exact st.drop.drop2 | exact st.drop.drop3 | exact st.drop.drop4 | exact st.drop.drop.drop | exact st_dropL st | exact st_dropL st.drop | exact st_none st) ?_
      refine TL.at ?_
      -- R7.17 79 := wirelaw.go:258 binOp
      refine WL.v (by exact r_neq rfl rfl (decide_eq_false (fun h => h rfl))) rfl rfl rfl ?_
      refine TL.nxt (by first | exact st | exact st.drop | exact st.drop1 | exact st.drop2 | exact st.drop3 | exact st.drop4 | exact st.drop.drop | exact st.drop.drop1 | exact st.drop.drop2 | exact st.drop.drop3 | exact st.drop.drop4 | exact st.drop.drop.drop | exact st_dropL st | exact st_dropL st.drop | exact st_none st) ?_
      refine TL.wl ?_
      refine WL.fin hK1195 (fun _ _ h => h) ?_
      have st := (st_dropL (P := XP) st).drop.drop
      refine WC.condF rfl rfl ?_
      refine WC.skipF hK1192 (fun _ _ h => h) ?_
      refine WC.seq fun K1196 hK1196 => ?_
      -- region 9
      refine WC.region ?_
      -- R9.0 81 := wirelaw.go:262 move
      refine WL.v (by first | exact r_move (v := .slice _ _ _) rfl | exact r_move rfl) rfl rfl rfl ?_
      -- R9.1 82 := wirelaw.go:262 call
      refine WL.call (r_call ty_call10 rfl) rfl rfl rfl (parse_ok hE s hsok (by omega) (fun its w' q => hsr (its ++ [_]) w' (by rw [List.append_assoc]; exact q)) st) ?_
      rintro pv w ⟨⟨k, e, x, t, y, z, s1, s2, s3, s4, s5, er, rfl, hpo⟩, st⟩
      -- R9.2 80 := wirelaw.go:262 move
      refine WL.v (by first | exact r_move (v := .tuple _) rfl | exact r_move rfl) rfl rfl rfl ?_
      -- R9.3 83 := wirelaw.go:262 extract
      refine WL.v (by first | exact r_extract (v := .agg _) rfl rfl | exact r_extract rfl rfl) rfl rfl rfl ?_
      -- R9.4 84 := wirelaw.go:262 extract
      refine WL.v (by first | exact r_extract (v := .nilIface) rfl rfl | exact r_extract (v := .iface _ _) rfl rfl | exact r_extract rfl rfl) rfl rfl rfl ?_
      -- R9.5 11 := wirelaw.go:262 alloc
      refine WL.alloc (m := 64) st ty_zero43 rfl rfl rfl ?_
      intro b11 w st
      -- R9.6 None := wirelaw.go:262 store
      first | refine WL.storeW (vs := [_, _, _, _, _, _, _, _, _, _, _, _, _, _, _, _, _, _, _, _, _, _, _, _, _, _, _, _, _, _, _, _, _, _, _, _, _, _, _, _, _, _, _, _, _, _, _, _, _, _, _, _, _, _, _, _, _, _, _, _, _, _, _, _]) st ty_agg43 rfl rfl rfl rfl rfl rfl ?_ | refine WL.storeL (vs := [_, _, _, _, _, _, _, _, _, _, _, _, _, _, _, _, _, _, _, _, _, _, _, _, _, _, _, _, _, _, _, _, _, _, _, _, _, _, _, _, _, _, _, _, _, _, _, _, _, _, _, _, _, _, _, _, _, _, _, _, _, _, _, _]) st ty_agg43 rfl rfl rfl rfl (by first | decide | omega) rfl rfl ?_ | refine WL.storeW (vs := [_, _, _, _, _, _, _, _, _, _, _, _, _, _, _, _, _, _, _, _, _, _, _, _, _, _, _, _, _, _, _, _, _, _, _, _, _, _, _, _, _, _, _, _, _, _, _, _, _, _, _, _, _, _, _, _, _, _, _, _, _, _, _, _]) st.front1 ty_agg43 rfl rfl rfl rfl rfl rfl ?_ | refine WL.storeL (vs := [_, _, _, _, _, _, _, _, _, _, _, _, _, _, _, _, _, _, _, _, _, _, _, _, _, _, _, _, _, _, _, _, _, _, _, _, _, _, _, _, _, _, _, _, _, _, _, _, _, _, _, _, _, _, _, _, _, _, _, _, _, _, _, _]) st.front1 ty_agg43 rfl rfl rfl rfl (by first | decide | omega) rfl rfl ?_ | refine WL.storeW (vs := [_, _, _, _, _, _, _, _, _, _, _, _, _, _, _, _, _, _, _, _, _, _, _, _, _, _, _, _, _, _, _, _, _, _, _, _, _, _, _, _, _, _, _, _, _, _, _, _, _, _, _, _, _, _, _, _, _, _, _, _, _, _, _, _]) st.front2 ty_agg43 rfl rfl rfl rfl rfl rfl ?_ | refine WL.storeL (vs := [_, _, _, _, _, _, _, _, _, _, _, _, _, _, _, _, _, _, _, _, _, _, _, _, _, _, _, _, _, _, _, _, _, _, _, _, _, _, _, _, _, _, _, _, _, _, _, _, _, _, _, _, _, _, _, _, _, _, _, _, _, _, _, _]) st.front2 ty_agg43 rfl rfl rfl rfl (by first | decide | omega) rfl rfl ?_ | refine WL.storeW (vs := [_, _, _, _, _, _, _, _, _, _, _, _, _, _, _, _, _, _, _, _, _, _, _, _, _, _, _, _, _, _, _, _, _, _, _, _, _, _, _, _, _, _, _, _, _, _, _, _, _, _, _, _, _, _, _, _, _, _, _, _, _, _, _, _]) st.front3 ty_agg43 rfl rfl rfl rfl rfl rfl ?_ | refine WL.storeL (vs := [_, _, _, _, _, _, _, _, _, _, _, _, _, _, _, _, _, _, _, _, _, _, _, _, _, _, _, _, _, _, _, _, _, _, _, _, _, _, _, _, _, _, _, _, _, _, _, _, _, _, _, _, _, _, _, _, _, _, _, _, _, _, _, _]) st.front3 ty_agg43 rfl rfl rfl rfl (by first | decide | omega) rfl rfl ?_ | refine WL.storeW (vs := [_, _, _, _, _, _, _, _, _, _, _, _, _, _, _, _, _, _, _, _, _, _, _, _, _, _, _, _, _, _, _, _, _, _, _, _, _, _, _, _, _, _, _, _, _, _, _, _, _, _, _, _, _, _, _, _, _, _, _, _, _, _, _, _]) st.front4 ty_agg43 rfl rfl rfl rfl rfl rfl ?_ | refine WL.storeL (vs := [_, _, _, _, _, _, _, _, _, _, _, _, _, _, _, _, _, _, _, _, _, _, _, _, _, _, _, _, _, _, _, _, _, _, _, _, _, _, _, _, _, _, _, _, _, _, _, _, _, _, _, _, _, _, _, _, _, _, _, _, _, _, _, _]) st.front4 ty_agg43 rfl rfl rfl rfl (by first | decide | omega) rfl rfl ?_ | refine WL.storeW (vs := [_, _, _, _, _, _, _, _, _, _, _, _, _, _, _, _, _, _, _, _, _, _, _, _, _, _, _, _, _, _, _, _, _, _, _, _, _, _, _, _, _, _, _, _, _, _, _, _, _, _, _, _, _, _, _, _, _, _, _, _, _, _, _, _]) st.front5 ty_agg43 rfl rfl rfl rfl rfl rfl ?_ | refine WL.storeL (vs := [_, _, _, _, _, _, _, _, _, _, _, _, _, _, _, _, _, _, _, _, _, _, _, _, _, _, _, _, _, _, _, _, _, _, _, _, _, _, _, _, _, _, _, _, _, _, _, _, _, _, _, _, _, _, _, _, _, _, _, _, _, _, _, _]) st.front5 ty_agg43 rfl rfl rfl rfl (by first | decide | omega) rfl rfl ?_ | refine WL.storeW (vs := [_, _, _, _, _, _, _, _, _, _, _, _, _, _, _, _, _, _, _, _, _, _, _, _, _, _, _, _, _, _, _, _, _, _, _, _, _, _, _, _, _, _, _, _, _, _, _, _, _, _, _, _, _, _, _, _, _, _, _, _, _, _, _, _]) st.front6 ty_agg43 rfl rfl rfl rfl rfl rfl ?_ | refine WL.storeL (vs := [_, _, _, _, _, _, _, _, _, _, _, _, _, _, _, _, _, _, _, _, _, _, _, _, _, _, _, _, _, _, _, _, _, _, _, _, _, _, _, _, _, _, _, _, _, _, _, _, _, _, _, _, _, _, _, _, _, _, _, _, _, _, _, _]) st.front6 ty_agg43 rfl rfl rfl rfl (by first | decide | omega) rfl rfl ?_ | refine WL.storeW (vs := [_, _, _, _, _, _, _, _, _, _, _, _, _, _, _, _, _, _, _, _, _, _, _, _, _, _, _, _, _, _, _, _, _, _, _, _, _, _, _, _, _, _, _, _, _, _, _, _, _, _, _, _, _, _, _, _, _, _, _, _, _, _, _, _]) st.front7 ty_agg43 rfl rfl rfl rfl rfl rfl ?_ | refine WL.storeL (vs := [_, _, _, _, _, _, _, _, _, _, _, _, _, _, _, _, _, _, _, _, _, _, _, _, _, _, _, _, _, _, _, _, _, _, _, _, _, _, _, _, _, _, _, _, _, _, _, _, _, _, _, _, _, _, _, _, _, _, _, _, _, _, _, _]) st.front7 ty_agg43 rfl rfl rfl rfl (by first | decide | omega) rfl rfl ?_ | refine WL.storeW (vs := [_, _, _, _, _, _, _, _, _, _, _, _, _, _, _, _, _, _, _, _, _, _, _, _, _, _, _, _, _, _, _, _, _, _, _, _, _, _, _, _, _, _, _, _, _, _, _, _, _, _, _, _, _, _, _, _, _, _, _, _, _, _, _, _]) st.front8 ty_agg43 rfl rfl rfl rfl rfl rfl ?_ | refine WL.storeL (vs := [_, _, _, _, _, _, _, _, _, _, _, _, _, _, _, _, _, _, _, _, _, _, _, _, _, _, _, _, _, _, _, _, _, _, _, _, _, _, _, _, _, _, _, _, _, _, _, _, _, _, _, _, _, _, _, _, _, _, _, _, _, _, _, _]) st.front8 ty_agg43 rfl rfl rfl rfl (by first | decide | omega) rfl rfl ?_
      intro w st
      -- R9.7 12 := wirelaw.go:262 assign
      refine WL.v (by first | exact r_assign (v := .nilIface) rfl | exact r_assign (v := .iface _ _) rfl | exact r_assign rfl) rfl rfl rfl ?_
      refine WL.fin hK1196 (fun _ _ h => h) ?_
      rcases hpo with ⟨T, u, rfl⟩ | ⟨rfl, hps, hpd⟩
      · skip
        refine WC.seq fun K1197 hK1197 => ?_
        refine WC.seq fun K1198 hK1198 => ?_
        -- region 10
        refine WC.region ?_
        -- R10.0 85 := wirelaw.go:263 move
        refine WL.v (by first | exact r_move (v := .nilIface) rfl | exact r_move (v := .iface _ _) rfl | exact r_move rfl) rfl rfl rfl ?_
        -- R10.1 86 := wirelaw.go:263 binOp
        refine WL.v (by first | exact r_nil_neq ty_ifc47 rfl | exact r_some_neq ty_ifc47 rfl) rfl rfl rfl ?_
        -- R10.2 87 := wirelaw.go:263 move
        refine WL.v (by first | exact r_move (v := .bool _) rfl | exact r_move rfl) rfl rfl rfl ?_
        -- R10.3 88 := wirelaw.go:263 fieldAddr
        refine WL.no rfl rfl ?_
        -- R10.4 89 := wirelaw.go:263 load
        refine WL.no rfl rfl ?_
        -- R10.5 90 := wirelaw.go:263 binOp
        refine WL.no rfl rfl ?_
        -- R10.6 91 := wirelaw.go:263 pick
        refine WL.v (by first | exact r_pickT (v := .bool _) rfl rfl | exact r_pickF (v := .bool _) rfl rfl) rfl rfl rfl ?_
        refine WL.fin hK1198 (fun _ _ h => h) ?_
        refine WC.condT rfl rfl ?_
        refine WC.seq fun K1199 hK1199 => ?_
        -- region 11
        refine WC.region ?_
        -- R11.0 92 := wirelaw.go:264 move
        refine WL.v (by first | exact r_move (v := .nilIface) rfl | exact r_move (v := .iface _ _) rfl | exact r_move rfl) rfl rfl rfl ?_
        -- R11.1 93 := wirelaw.go:264 binOp
        refine WL.v (by first | exact r_nil_neq ty_ifc47 rfl | exact r_some_neq ty_ifc47 rfl) rfl rfl rfl ?_
        -- R11.2 94 := wirelaw.go:264 move
        refine WL.v (by first | exact r_move (v := .bool _) rfl | exact r_move rfl) rfl rfl rfl ?_
        -- R11.3 95 := wirelaw.go:264 call
        refine WL.no rfl rfl ?_
        -- R11.4 96 := wirelaw.go:264 pick
        refine WL.v (by first | exact r_pickT (v := .bool _) rfl rfl | exact r_pickF (v := .bool _) rfl rfl) rfl rfl rfl ?_
        -- R11.5 6 := wirelaw.go:264 assign
        refine WL.v (by first | exact r_assign (v := .bool _) rfl | exact r_assign rfl) rfl rfl rfl ?_
        refine WL.fin hK1199 (fun _ _ h => h) ?_
        refine WC.ret1 Tryd.results14 (fun _ _ h => h) rfl ?_
        exact ⟨_, rfl, rfl, st.drop.drop⟩
      obtain ⟨hfok, hchk, hfb⟩ := parsed_good hsok.byt (by omega) ⟨k, e, x, t, y, z, s1, s2, s3, s4, s5⟩ hps.p1.ok hps.p2.ok hps.p3.ok hps.p4.ok hps.p5.ok hpd
      have st := st_nrm (L' := (FD.mk k e x t y z s1 s2 s3 s4 s5).cs) rfl st
      obtain ⟨f, hf⟩ : ∃ f, f = FD.mk k e x t y z s1 s2 s3 s4 s5 := ⟨_, rfl⟩
      have hfrd : ∀ l w', S0 w0 (l ++ (XI ++ L)) w' → f.rd w' := fun l w' q => by
        rw [hf]
        have := hsr l w' q
        exact ⟨hps.p1.rd w' this, hps.p2.rd w' this, hps.p3.rd w' this, hps.p4.rd w' this, hps.p5.rd w' this⟩
      rw [← hf] at st hfok hchk hfb
      clear hps hpd hf
      have hchk' := hchk
      obtain ⟨k4, _, hP2⟩ := hchk'
      have hFr : ∀ its w', S0 w0 (its ++ ((b11, Row 43 64 (nth f.cs)) :: (b5, Row 45 68 (nth (opC kd fo d.v off val))) :: (XI ++ L))) w' → FrAt w' b11 0 f := fun its w' q => ⟨cf_row (t := 43) q (by simp), hfrd (its ++ [_, _]) w' (by rw [List.append_assoc]; exact q)⟩
      have hFrc := fun its w' q => (hFr its w' q).c
      by_cases k0 : f.k = 0
      · skip
        refine WC.seq fun K1200 hK1200 => ?_
        refine WC.seq fun K1201 hK1201 => ?_
        -- region 10
        refine WC.region ?_
        -- R10.0 85 := wirelaw.go:263 move
        refine WL.v (by first | exact r_move (v := .nilIface) rfl | exact r_move (v := .iface _ _) rfl | exact r_move rfl) rfl rfl rfl ?_
        -- R10.1 86 := wirelaw.go:263 binOp
        refine WL.v (by first | exact r_nil_neq ty_ifc47 rfl | exact r_some_neq ty_ifc47 rfl) rfl rfl rfl ?_
        -- R10.2 87 := wirelaw.go:263 move
        refine WL.v (by first | exact r_move (v := .bool _) rfl | exact r_move rfl) rfl rfl rfl ?_
        -- R10.3 88 := wirelaw.go:263 fieldAddr
        refine WL.v (by exact r_field ty_fld43_0 rfl) rfl rfl rfl ?_
        -- R10.4 89 := wirelaw.go:263 load
        refine WL.v (by first | exact r_load1 ty_one27 rfl (hFrc [] _ st 0 (by decide)) | exact r_load1 ty_one27 rfl (hFrc _ _ st 0 (by decide)) | exact r_load1 ty_one27 rfl (hFrc [_] _ st 0 (by decide)) | exact r_load1 ty_one27 rfl (hFrc [_, _] _ st 0 (by decide)) | exact r_load1 ty_one27 rfl (hFrc [_, _, _] _ st 0 (by decide))) rfl rfl rfl ?_
        -- R10.5 90 := wirelaw.go:263 binOp
        refine WL.v (by exact r_eql rfl rfl (decide_eq_true k0)) rfl rfl rfl ?_
        -- R10.6 91 := wirelaw.go:263 pick
        refine WL.v (by first | exact r_pickT (v := .bool _) rfl rfl | exact r_pickF (v := .bool _) rfl rfl) rfl rfl rfl ?_
        refine WL.fin hK1201 (fun _ _ h => h) ?_
        refine WC.condT rfl rfl ?_
        refine WC.seq fun K1202 hK1202 => ?_
        -- region 11
        refine WC.region ?_
        -- R11.0 92 := wirelaw.go:264 move
        refine WL.v (by first | exact r_move (v := .nilIface) rfl | exact r_move (v := .iface _ _) rfl | exact r_move rfl) rfl rfl rfl ?_
        -- R11.1 93 := wirelaw.go:264 binOp
        refine WL.v (by first | exact r_nil_neq ty_ifc47 rfl | exact r_some_neq ty_ifc47 rfl) rfl rfl rfl ?_
        -- R11.2 94 := wirelaw.go:264 move
        refine WL.v (by first | exact r_move (v := .bool _) rfl | exact r_move rfl) rfl rfl rfl ?_
        -- R11.3 95 := wirelaw.go:264 call
        refine WL.call (r_call ty_call20 rfl) rfl rfl rfl (ver_ok b11 0 f hfok hchk hFr st) ?_
        rintro _ w ⟨rfl, st⟩
        rw [show verV f = true by simp [verV, k0]]
        -- R11.4 96 := wirelaw.go:264 pick
        refine WL.v (by first | exact r_pickT (v := .bool _) rfl rfl | exact r_pickF (v := .bool _) rfl rfl) rfl rfl rfl ?_
        -- R11.5 6 := wirelaw.go:264 assign
        refine WL.v (by first | exact r_assign (v := .bool _) rfl | exact r_assign rfl) rfl rfl rfl ?_
        refine WL.fin hK1202 (fun _ _ h => h) ?_
        refine WC.ret1 Tryd.results14 (fun _ _ h => h) rfl ?_
        exact ⟨_, rfl, rfl, st.drop.drop⟩
      obtain ⟨_, _, hip, hin, hx1⟩ := hP2.resolve_left fun q => k0 q.1
      obtain ⟨m, hm⟩ : ∃ m, m = 20 + f.s1.bs.length + innerN f + f.s4.bs.length := ⟨_, rfl⟩
      rw [← hm] at hx1
      have hc1 := cut1 k0 hfb
      have hc2' := cut2 k0 hfb hm
      have hx1r := hfok.xr.r1
      have hq1 := Part.sub hsok (l := 14) (h := 34 + f.s1.bs.length) (m := s.c) (by omega) hc1.2 (by omega) (Nat.le_refl _)
      have hq2 := Part.sub hsok (l := 34 + f.s1.bs.length) (h := 14 + m) (m := s.c) (by omega) hc2'.2 (by omega) (Nat.le_refl _)
      rw [hc1.1] at hq1
      rw [hc2'.1] at hq2
      refine WC.seq fun K1203 hK1203 => ?_
      refine WC.seq fun K1204 hK1204 => ?_
      -- region 10
      refine WC.region ?_
      -- R10.0 85 := wirelaw.go:263 move
      refine WL.v (by first | exact r_move (v := .nilIface) rfl | exact r_move (v := .iface _ _) rfl | exact r_move rfl) rfl rfl rfl ?_
      -- R10.1 86 := wirelaw.go:263 binOp
      refine WL.v (by first | exact r_nil_neq ty_ifc47 rfl | exact r_some_neq ty_ifc47 rfl) rfl rfl rfl ?_
      -- R10.2 87 := wirelaw.go:263 move
      refine WL.v (by first | exact r_move (v := .bool _) rfl | exact r_move rfl) rfl rfl rfl ?_
      -- R10.3 88 := wirelaw.go:263 fieldAddr
      refine WL.v (by exact r_field ty_fld43_0 rfl) rfl rfl rfl ?_
      -- R10.4 89 := wirelaw.go:263 load
      refine WL.v (by first | exact r_load1 ty_one27 rfl (hFrc [] _ st 0 (by decide)) | exact r_load1 ty_one27 rfl (hFrc _ _ st 0 (by decide)) | exact r_load1 ty_one27 rfl (hFrc [_] _ st 0 (by decide)) | exact r_load1 ty_one27 rfl (hFrc [_, _] _ st 0 (by decide)) | exact r_load1 ty_one27 rfl (hFrc [_, _, _] _ st 0 (by decide))) rfl rfl rfl ?_
      -- R10.5 90 := wirelaw.go:263 binOp
      refine WL.v (by exact r_eql rfl rfl (decide_eq_false k0)) rfl rfl rfl ?_
      -- R10.6 91 := wirelaw.go:263 pick
      refine WL.v (by first | exact r_pickT (v := .bool _) rfl rfl | exact r_pickF (v := .bool _) rfl rfl) rfl rfl rfl ?_
      refine WL.fin hK1204 (fun _ _ h => h) ?_
      refine WC.condF rfl rfl ?_
      refine WC.skipF hK1203 (fun _ _ h => h) ?_
      refine WC.seq fun K1205 hK1205 => ?_
      -- region 12
      refine WC.region ?_
      -- R12.0 97 := wirelaw.go:266 fieldAddr
      refine WL.v (by exact r_field ty_fld43_2 rfl) rfl rfl rfl ?_
      -- R12.1 98 := wirelaw.go:266 fieldAddr
      refine WL.v (by exact r_field ty_fld36_10 rfl) rfl rfl rfl ?_
      -- R12.2 99 := wirelaw.go:266 load
      refine WL.v (by first | exact r_load1 ty_one25 rfl (hFrc [] _ st 30 (by decide)) | exact r_load1 ty_one25 rfl (hFrc _ _ st 30 (by decide)) | exact r_load1 ty_one25 rfl (hFrc [_] _ st 30 (by decide)) | exact r_load1 ty_one25 rfl (hFrc [_, _] _ st 30 (by decide)) | exact r_load1 ty_one25 rfl (hFrc [_, _, _] _ st 30 (by decide))) rfl rfl rfl ?_
      -- R12.3 100 := wirelaw.go:266 call
      refine WL.v (by exact r_len ty_usl25 rfl) rfl rfl rfl ?_
      -- R12.4 101 := wirelaw.go:266 binOp
      refine WL.v (by exact r_add (r := ((34 + f.s1.bs.length : Nat) : Int)) rfl rfl ((wi64 (by omega) (by omega)).trans (by omega))) rfl rfl rfl ?_
      -- R12.5 13 := wirelaw.go:266 assign
      refine WL.v (by first | exact r_assign (v := .int _ _) rfl | exact r_assign rfl) rfl rfl rfl ?_
      refine WL.fin hK1205 (fun _ _ h => h) ?_
      refine WC.seq fun K1206 hK1206 => ?_
      -- region 13
      refine WC.region ?_
      -- R13.0 102 := wirelaw.go:267 fieldAddr
      refine WL.v (by exact r_field ty_fld43_2 rfl) rfl rfl rfl ?_
      -- R13.1 103 := wirelaw.go:267 fieldAddr
      refine WL.v (by exact r_field ty_fld36_1 rfl) rfl rfl rfl ?_
      -- R13.2 104 := wirelaw.go:267 load
      refine WL.v (by first | exact r_load1 ty_one30 rfl (hFrc [] _ st 15 (by decide)) | exact r_load1 ty_one30 rfl (hFrc _ _ st 15 (by decide)) | exact r_load1 ty_one30 rfl (hFrc [_] _ st 15 (by decide)) | exact r_load1 ty_one30 rfl (hFrc [_, _] _ st 15 (by decide)) | exact r_load1 ty_one30 rfl (hFrc [_, _, _] _ st 15 (by decide))) rfl rfl rfl ?_
      -- R13.3 105 := wirelaw.go:267 convert
      refine WL.v (by exact r_conv (r := (m : Int)) ty_cv30_3 rfl ((congrArg IntKind.i64.wrap hx1).trans (wi64 (by omega) (by omega)))) rfl rfl rfl ?_
      -- R13.4 106 := wirelaw.go:267 binOp
      refine WL.v (by exact r_add (r := ((14 + m : Nat) : Int)) rfl rfl ((wi64 (by omega) (by omega)).trans (by omega))) rfl rfl rfl ?_
      -- R13.5 14 := wirelaw.go:267 assign
      refine WL.v (by first | exact r_assign (v := .int _ _) rfl | exact r_assign rfl) rfl rfl rfl ?_
      refine WL.fin hK1206 (fun _ _ h => h) ?_
      refine WC.seq fun K1207 hK1207 => ?_
      -- region 14
      refine WC.region ?_
      -- R14.0 107 := wirelaw.go:268 move
      refine WL.v (by first | exact r_move (v := .slice _ _ _) rfl | exact r_move rfl) rfl rfl rfl ?_
      -- R14.1 108 := wirelaw.go:268 move
      refine WL.v (by first | exact r_move (v := .int _ _) rfl | exact r_move rfl) rfl rfl rfl ?_
      -- R14.2 109 := wirelaw.go:268 slice
      refine WL.v (by exact r_slV s (l := 14) (h := 34 + f.s1.bs.length) ty_sl25 rfl ⟨_, rfl⟩ ⟨_, rfl⟩ rfl (fun h => by cases h) (by omega) (by omega) (Nat.le_refl _) hc1.2) rfl rfl rfl ?_
      -- R14.3 110 := wirelaw.go:268 call
      refine WL.call (r_call ty_call15 rfl) rfl rfl rfl (ones_ok (s.sub 14 (34 + f.s1.bs.length) s.c) hq1.ok (by rw [hq1.bs_, ipB_len]; omega) (fun w' q => hq1.rd w' (hsr [_, _] w' q)) st) ?_
      rintro _ w ⟨rfl, st⟩
      rw [hq1.bs_, ← ip_ver hfok.xr hfok.o1.byt hip]
      -- R14.4 111 := wirelaw.go:268 binOp
      refine WL.v (by exact r_eql rfl rfl rfl) rfl rfl rfl ?_
      obtain ⟨tb, htb⟩ : ∃ tb, tb = decide (foldV (ipSumV f.x f.s1.bs + f.x 7) = 65535) := ⟨_, rfl⟩
      rw [← htb]
      -- R14.5 15 := wirelaw.go:268 assign
      refine WL.v (by first | exact r_assign (v := .bool _) rfl | exact r_assign rfl) rfl rfl rfl ?_
      refine WL.fin hK1207 (fun _ _ h => h) ?_
      by_cases k2 : f.k = 2
      · have hN : innerN f = 20 + f.s2.bs.length := by unfold innerN; rw [if_pos k2]
        have htcp : tcpP f.t f.s2.bs.length := hin.elim (fun r => by omega) (fun r => r.2.2.elim (fun r => r.2.2) (fun r => absurd k2 r.1))
        have hvv := verV_2 k2
        rw [← htb] at hvv
        refine WC.seq fun K1208 hK1208 => ?_
        refine WC.seq fun K1209 hK1209 => ?_
        -- region 15
        refine WC.region ?_
        -- R15.0 112 := wirelaw.go:269 fieldAddr
        refine WL.v (by exact r_field ty_fld43_0 rfl) rfl rfl rfl ?_
        -- R15.1 113 := wirelaw.go:269 load
        refine WL.v (by first | exact r_load1 ty_one27 rfl (hFrc [] _ st 0 (by decide)) | exact r_load1 ty_one27 rfl (hFrc _ _ st 0 (by decide)) | exact r_load1 ty_one27 rfl (hFrc [_] _ st 0 (by decide)) | exact r_load1 ty_one27 rfl (hFrc [_, _] _ st 0 (by decide)) | exact r_load1 ty_one27 rfl (hFrc [_, _, _] _ st 0 (by decide))) rfl rfl rfl ?_
        refine WL.fin hK1209 (fun _ _ h => h) ?_
        refine WC.block ?_
        refine WC.seq fun K1210 hK1210 => ?_
        -- region 16
        refine WC.region ?_
        -- R16.0 115 := wirelaw.go:270 binOp
        refine WL.v (by exact r_eql rfl rfl (decide_eq_true k2)) rfl rfl rfl ?_
        -- R16.1 114 := wirelaw.go:270 assign
        refine WL.v (by first | exact r_assign (v := .bool _) rfl | exact r_assign rfl) rfl rfl rfl ?_
        refine WL.fin hK1210 (fun _ _ h => h) ?_
        refine WC.condT rfl rfl ?_
        refine WC.seq fun K1211 hK1211 => ?_
        -- region 17
        refine WC.region ?_
        -- R17.0 116 := wirelaw.go:271 fieldAddr
        refine WL.v (by exact r_field ty_fld43_2 rfl) rfl rfl rfl ?_
        -- R17.1 117 := wirelaw.go:271 fieldAddr
        refine WL.v (by exact r_field ty_fld36_8 rfl) rfl rfl rfl ?_
        -- R17.2 118 := wirelaw.go:271 load
        refine WL.v (by first | exact r_loadL (vs := [_, _, _, _]) ty_agg34 rfl ⟨hFrc [] _ st 22 (by decide), hFrc [] _ st 23 (by decide), hFrc [] _ st 24 (by decide), hFrc [] _ st 25 (by decide), trivial⟩ | exact r_loadL (vs := [_, _, _, _]) ty_agg34 rfl ⟨hFrc _ _ st 22 (by decide), hFrc _ _ st 23 (by decide), hFrc _ _ st 24 (by decide), hFrc _ _ st 25 (by decide), trivial⟩ | exact r_loadL (vs := [_, _, _, _]) ty_agg34 rfl ⟨hFrc [_] _ st 22 (by decide), hFrc [_] _ st 23 (by decide), hFrc [_] _ st 24 (by decide), hFrc [_] _ st 25 (by decide), trivial⟩ | exact r_loadL (vs := [_, _, _, _]) ty_agg34 rfl ⟨hFrc [_, _] _ st 22 (by decide), hFrc [_, _] _ st 23 (by decide), hFrc [_, _] _ st 24 (by decide), hFrc [_, _] _ st 25 (by decide), trivial⟩ | exact r_loadL (vs := [_, _, _, _]) ty_agg34 rfl ⟨hFrc [_, _, _] _ st 22 (by decide), hFrc [_, _, _] _ st 23 (by decide), hFrc [_, _, _] _ st 24 (by decide), hFrc [_, _, _] _ st 25 (by decide), trivial⟩) rfl rfl rfl ?_
        -- R17.3 119 := wirelaw.go:271 fieldAddr
        refine WL.v (by exact r_field ty_fld43_2 rfl) rfl rfl rfl ?_
        -- R17.4 120 := wirelaw.go:271 fieldAddr
        refine WL.v (by exact r_field ty_fld36_9 rfl) rfl rfl rfl ?_
        -- R17.5 121 := wirelaw.go:271 load
        refine WL.v (by first | exact r_loadL (vs := [_, _, _, _]) ty_agg34 rfl ⟨hFrc [] _ st 26 (by decide), hFrc [] _ st 27 (by decide), hFrc [] _ st 28 (by decide), hFrc [] _ st 29 (by decide), trivial⟩ | exact r_loadL (vs := [_, _, _, _]) ty_agg34 rfl ⟨hFrc _ _ st 26 (by decide), hFrc _ _ st 27 (by decide), hFrc _ _ st 28 (by decide), hFrc _ _ st 29 (by decide), trivial⟩ | exact r_loadL (vs := [_, _, _, _]) ty_agg34 rfl ⟨hFrc [_] _ st 26 (by decide), hFrc [_] _ st 27 (by decide), hFrc [_] _ st 28 (by decide), hFrc [_] _ st 29 (by decide), trivial⟩ | exact r_loadL (vs := [_, _, _, _]) ty_agg34 rfl ⟨hFrc [_, _] _ st 26 (by decide), hFrc [_, _] _ st 27 (by decide), hFrc [_, _] _ st 28 (by decide), hFrc [_, _] _ st 29 (by decide), trivial⟩ | exact r_loadL (vs := [_, _, _, _]) ty_agg34 rfl ⟨hFrc [_, _, _] _ st 26 (by decide), hFrc [_, _, _] _ st 27 (by decide), hFrc [_, _, _] _ st 28 (by decide), hFrc [_, _, _] _ st 29 (by decide), trivial⟩) rfl rfl rfl ?_
        -- R17.6 122 := wirelaw.go:271 move
        refine WL.v (by first | exact r_move (v := .int _ _) rfl | exact r_move rfl) rfl rfl rfl ?_
        -- R17.7 123 := wirelaw.go:271 move
        refine WL.v (by first | exact r_move (v := .int _ _) rfl | exact r_move rfl) rfl rfl rfl ?_
        -- R17.8 124 := wirelaw.go:271 binOp
        refine WL.v (by exact r_sub (r := ((20 + f.s2.bs.length + f.s4.bs.length : Nat) : Int)) rfl rfl ((wi64 (by omega) (by omega)).trans (by omega))) rfl rfl rfl ?_
        -- R17.9 125 := wirelaw.go:271 convert
        refine WL.v (by exact r_conv (r := ((20 + f.s2.bs.length + f.s4.bs.length : Nat) : Int) % 65536) ty_cv3_30 rfl (wrap16 _)) rfl rfl rfl ?_
        -- R17.10 126 := wirelaw.go:271 call
        refine WL.call (r_call ty_call19 rfl) rfl rfl rfl (pseudoB_ok (f.x 8) (f.x 9) (f.x 10) (f.x 11) (f.x 12) (f.x 13) (f.x 14) (f.x 15) 6 (((20 + f.s2.bs.length + f.s4.bs.length : Nat) : Int) % 65536) hfok.xr.r8 hfok.xr.r9 hfok.xr.r10 hfok.xr.r11 hfok.xr.r12 hfok.xr.r13 hfok.xr.r14 hfok.xr.r15 (by omega) (by omega) st) ?_
        rintro vp w ⟨XP, hbp, st⟩
        have hpv : ∃ pa pn pc, vp = .slice pa pn pc := by
          rcases hbp.form with ⟨rfl, _, _⟩ | ⟨b, c, g, rfl, _⟩
          · exact ⟨_, _, _, rfl⟩
          · exact ⟨_, _, _, rfl⟩
        obtain ⟨pa, pn, pc, rfl⟩ := hpv
        -- R17.11 16 := wirelaw.go:271 assign
        refine WL.v (by first | exact r_assign (v := .slice _ _ _) rfl | exact r_assign rfl) rfl rfl rfl ?_
        refine WL.fin hK1211 (fun _ _ h => h) ?_
        rcases tb with _ | _
        · skip
          -- region 18
          refine WC.region ?_
          -- R18.0 127 := wirelaw.go:272 move
          refine WL.v (by first | exact r_move (v := .bool _) rfl | exact r_move rfl) rfl rfl rfl ?_
          -- R18.1 128 := wirelaw.go:272 move
          refine WL.v (by first | exact r_move (v := .bool _) rfl | exact r_move rfl) rfl rfl rfl ?_
          -- R18.2 129 := wirelaw.go:272 move
          refine WL.no rfl rfl ?_
          -- R18.3 130 := wirelaw.go:272 move
          refine WL.no rfl rfl ?_
          -- R18.4 131 := wirelaw.go:272 move
          refine WL.no rfl rfl ?_
          -- R18.5 132 := wirelaw.go:272 move
          refine WL.no rfl rfl ?_
          -- R18.6 133 := wirelaw.go:272 slice
          refine WL.no rfl rfl ?_
          -- R18.7 134 := wirelaw.go:272 call
          refine WL.no rfl rfl ?_
          -- R18.8 135 := wirelaw.go:272 call
          refine WL.no rfl rfl ?_
          -- R18.9 136 := wirelaw.go:272 binOp
          refine WL.no rfl rfl ?_
          -- R18.10 137 := wirelaw.go:272 pick
          refine WL.v (by first | exact r_pickT (v := .bool _) rfl rfl | exact r_pickF (v := .bool _) rfl rfl) rfl rfl rfl ?_
          -- R18.11 15 := wirelaw.go:272 assign
          refine WL.v (by first | exact r_assign (v := .bool _) rfl | exact r_assign rfl) rfl rfl rfl ?_
          refine WL.fin hK1208 (fun _ _ h => h) ?_
          refine WC.seq fun K1212 hK1212 => ?_
          -- region 21
          refine WC.region ?_
          -- R21.0 149 := wirelaw.go:276 call
          refine WL.call (r_call ty_call20 rfl) rfl rfl rfl (ver_ok b11 0 f hfok hchk (moreL hFr XP) st) ?_
          rintro _ w ⟨rfl, st⟩
          rw [show verV f = false by rw [hvv]; rfl]
          -- R21.1 150 := wirelaw.go:276 move
          refine WL.v (by first | exact r_move (v := .bool _) rfl | exact r_move rfl) rfl rfl rfl ?_
          -- R21.2 151 := wirelaw.go:276 binOp
          refine WL.v (by exact r_beql ty_bool4 rfl rfl (t := true) (by simp)) rfl rfl rfl ?_
          -- R21.3 6 := wirelaw.go:276 assign
          refine WL.v (by first | exact r_assign (v := .bool _) rfl | exact r_assign rfl) rfl rfl rfl ?_
          refine WL.fin hK1212 (fun _ _ h => h) ?_
          refine WC.ret1 Tryd.results14 (fun _ _ h => h) rfl ?_
          exact ⟨_, rfl, rfl, (st_dropL st).drop.drop⟩
        · skip
          -- region 18
          refine WC.region ?_
          -- R18.0 127 := wirelaw.go:272 move
          refine WL.v (by first | exact r_move (v := .bool _) rfl | exact r_move rfl) rfl rfl rfl ?_
          -- R18.1 128 := wirelaw.go:272 move
          refine WL.v (by first | exact r_move (v := .bool _) rfl | exact r_move rfl) rfl rfl rfl ?_
          -- R18.2 129 := wirelaw.go:272 move
          refine WL.v (by first | exact r_move (v := .slice _ _ _) rfl | exact r_move rfl) rfl rfl rfl ?_
          -- R18.3 130 := wirelaw.go:272 move
          refine WL.v (by first | exact r_move (v := .slice _ _ _) rfl | exact r_move rfl) rfl rfl rfl ?_
          -- R18.4 131 := wirelaw.go:272 move
          refine WL.v (by first | exact r_move (v := .int _ _) rfl | exact r_move rfl) rfl rfl rfl ?_
          -- R18.5 132 := wirelaw.go:272 move
          refine WL.v (by first | exact r_move (v := .int _ _) rfl | exact r_move rfl) rfl rfl rfl ?_
          -- R18.6 133 := wirelaw.go:272 slice
          refine WL.v (by exact r_slV s (l := 34 + f.s1.bs.length) (h := 14 + m) ty_sl25 rfl ⟨_, rfl⟩ ⟨_, rfl⟩ rfl (fun h => by cases h) (by omega) (by omega) (Nat.le_refl _) hc2'.2) rfl rfl rfl ?_
          -- R18.7 134 := wirelaw.go:272 call
          refine WL.appW (s := s.sub (34 + f.s1.bs.length) (14 + m) s.c) hbp hq2.ok (hq2.rd w (hsr (XP ++ [_, _]) w (by rw [List.append_assoc]; exact st))) st ty_mk25 ty_sl25 ty_zero5 rfl rfl rfl (by rw [hq2.bs_, List.length_append, innB_len]; simp only [psB, List.length_cons, List.length_nil]; omega) (by rw [hq2.bs_, List.length_append, innB_len]; simp only [psB, List.length_cons, List.length_nil]; omega) rfl rfl rfl ?_
          intro vn XN w hbn st
          rw [hq2.bs_] at hbn
          obtain ⟨sn, rfl, hsn, hsnok, hsnrd⟩ := hbn.bo.sv
          -- R18.8 135 := wirelaw.go:272 call
          refine WL.call (r_call ty_call15 rfl) rfl rfl rfl (ones_ok sn hsnok (by rw [hsn]; simp only [psB, List.length_append, List.length_cons, List.length_nil, innB_len]; omega) (fun w' q => hsnrd q (fun x hx => by simp [hx])) st) ?_
          rintro _ w ⟨rfl, st⟩
          rw [hsn, show innB f = tcpB f.t f.s2.bs by unfold innB; rw [if_pos k2], ← tcp_ver hfok.xr.r8 hfok.xr.r9 hfok.xr.r10 hfok.xr.r11 hfok.xr.r12 hfok.xr.r13 hfok.xr.r14 hfok.xr.r15 hfok.tr hfok.o2.byt hfok.o4.byt htcp]
          -- R18.9 136 := wirelaw.go:272 binOp
          refine WL.v (by exact r_eql rfl rfl rfl) rfl rfl rfl ?_
          obtain ⟨tc, htc⟩ : ∃ tc, tc = decide (foldV (tcpSumV (tcpPs (f.x 8) (f.x 9) (f.x 10) (f.x 11) (f.x 12) (f.x 13) (f.x 14) (f.x 15) f.s2.bs.length f.s4.bs.length) f.t f.s2.bs f.s4.bs + f.t 7) = 65535) := ⟨_, rfl⟩
          rw [← htc]
          -- R18.10 137 := wirelaw.go:272 pick
          refine WL.v (by first | exact r_pickT (v := .bool _) rfl rfl | exact r_pickF (v := .bool _) rfl rfl) rfl rfl rfl ?_
          -- R18.11 15 := wirelaw.go:272 assign
          refine WL.v (by first | exact r_assign (v := .bool _) rfl | exact r_assign rfl) rfl rfl rfl ?_
          refine WL.fin hK1208 (fun _ _ h => h) ?_
          refine WC.seq fun K1213 hK1213 => ?_
          -- region 21
          refine WC.region ?_
          -- R21.0 149 := wirelaw.go:276 call
          refine WL.call (r_call ty_call20 rfl) rfl rfl rfl (ver_ok b11 0 f hfok hchk (moreL hFr XN) st) ?_
          rintro _ w ⟨rfl, st⟩
          rw [show verV f = tc by rw [hvv]; rw [htc]; rfl]
          -- R21.1 150 := wirelaw.go:276 move
          refine WL.v (by first | exact r_move (v := .bool _) rfl | exact r_move rfl) rfl rfl rfl ?_
          -- R21.2 151 := wirelaw.go:276 binOp
          refine WL.v (by exact r_beql ty_bool4 rfl rfl (t := true) (by simp)) rfl rfl rfl ?_
          -- R21.3 6 := wirelaw.go:276 assign
          refine WL.v (by first | exact r_assign (v := .bool _) rfl | exact r_assign rfl) rfl rfl rfl ?_
          refine WL.fin hK1213 (fun _ _ h => h) ?_
          refine WC.ret1 Tryd.results14 (fun _ _ h => h) rfl ?_
          exact ⟨_, rfl, rfl, (st_dropL st).drop.drop⟩
      by_cases k3 : f.k = 3
      · have hN : innerN f = 28 + f.s3.bs.length := by unfold innerN; rw [if_neg k2, if_pos k3]
        have hic : ipP f.z f.s3.bs.length := hin.elim (fun r => by omega) (fun r => r.2.2.elim (fun r => by omega) (fun r => r.2.2.2.1))
        have hvv := verV_3 k3
        rw [← htb] at hvv
        refine WC.seq fun K1214 hK1214 => ?_
        refine WC.seq fun K1215 hK1215 => ?_
        -- region 15
        refine WC.region ?_
        -- R15.0 112 := wirelaw.go:269 fieldAddr
        refine WL.v (by exact r_field ty_fld43_0 rfl) rfl rfl rfl ?_
        -- R15.1 113 := wirelaw.go:269 load
        refine WL.v (by first | exact r_load1 ty_one27 rfl (hFrc [] _ st 0 (by decide)) | exact r_load1 ty_one27 rfl (hFrc _ _ st 0 (by decide)) | exact r_load1 ty_one27 rfl (hFrc [_] _ st 0 (by decide)) | exact r_load1 ty_one27 rfl (hFrc [_, _] _ st 0 (by decide)) | exact r_load1 ty_one27 rfl (hFrc [_, _, _] _ st 0 (by decide))) rfl rfl rfl ?_
        refine WL.fin hK1215 (fun _ _ h => h) ?_
        refine WC.block ?_
        refine WC.seq fun K1216 hK1216 => ?_
        -- region 16
        refine WC.region ?_
        -- R16.0 115 := wirelaw.go:270 binOp
        refine WL.v (by exact r_eql rfl rfl (decide_eq_false k2)) rfl rfl rfl ?_
        -- R16.1 114 := wirelaw.go:270 assign
        refine WL.v (by first | exact r_assign (v := .bool _) rfl | exact r_assign rfl) rfl rfl rfl ?_
        refine WL.fin hK1216 (fun _ _ h => h) ?_
        refine WC.condF rfl rfl ?_
        refine WC.seq fun K1217 hK1217 => ?_
        -- region 19
        refine WC.region ?_
        -- R19.0 139 := wirelaw.go:273 binOp
        refine WL.v (by exact r_eql rfl rfl (decide_eq_true k3)) rfl rfl rfl ?_
        -- R19.1 138 := wirelaw.go:273 assign
        refine WL.v (by first | exact r_assign (v := .bool _) rfl | exact r_assign rfl) rfl rfl rfl ?_
        refine WL.fin hK1217 (fun _ _ h => h) ?_
        refine WC.condT rfl rfl ?_
        rcases tb with _ | _
        · skip
          -- region 20
          refine WC.region ?_
          -- R20.0 140 := wirelaw.go:274 move
          refine WL.v (by first | exact r_move (v := .bool _) rfl | exact r_move rfl) rfl rfl rfl ?_
          -- R20.1 141 := wirelaw.go:274 move
          refine WL.v (by first | exact r_move (v := .bool _) rfl | exact r_move rfl) rfl rfl rfl ?_
          -- R20.2 142 := wirelaw.go:274 move
          refine WL.no rfl rfl ?_
          -- R20.3 143 := wirelaw.go:274 move
          refine WL.no rfl rfl ?_
          -- R20.4 144 := wirelaw.go:274 move
          refine WL.no rfl rfl ?_
          -- R20.5 145 := wirelaw.go:274 slice
          refine WL.no rfl rfl ?_
          -- R20.6 146 := wirelaw.go:274 call
          refine WL.no rfl rfl ?_
          -- R20.7 147 := wirelaw.go:274 binOp
          refine WL.no rfl rfl ?_
          -- R20.8 148 := wirelaw.go:274 pick
          refine WL.v (by first | exact r_pickT (v := .bool _) rfl rfl | exact r_pickF (v := .bool _) rfl rfl) rfl rfl rfl ?_
          -- R20.9 15 := wirelaw.go:274 assign
          refine WL.v (by first | exact r_assign (v := .bool _) rfl | exact r_assign rfl) rfl rfl rfl ?_
          refine WL.fin hK1214 (fun _ _ h => h) ?_
          refine WC.seq fun K1218 hK1218 => ?_
          -- region 21
          refine WC.region ?_
          -- R21.0 149 := wirelaw.go:276 call
          refine WL.call (r_call ty_call20 rfl) rfl rfl rfl (ver_ok b11 0 f hfok hchk (moreL hFr []) st) ?_
          rintro _ w ⟨rfl, st⟩
          rw [show verV f = false by rw [hvv]; rfl]
          -- R21.1 150 := wirelaw.go:276 move
          refine WL.v (by first | exact r_move (v := .bool _) rfl | exact r_move rfl) rfl rfl rfl ?_
          -- R21.2 151 := wirelaw.go:276 binOp
          refine WL.v (by exact r_beql ty_bool4 rfl rfl (t := true) (by simp)) rfl rfl rfl ?_
          -- R21.3 6 := wirelaw.go:276 assign
          refine WL.v (by first | exact r_assign (v := .bool _) rfl | exact r_assign rfl) rfl rfl rfl ?_
          refine WL.fin hK1218 (fun _ _ h => h) ?_
          refine WC.ret1 Tryd.results14 (fun _ _ h => h) rfl ?_
          exact ⟨_, rfl, rfl, st.drop.drop⟩
        · skip
          -- region 20
          refine WC.region ?_
          -- R20.0 140 := wirelaw.go:274 move
          refine WL.v (by first | exact r_move (v := .bool _) rfl | exact r_move rfl) rfl rfl rfl ?_
          -- R20.1 141 := wirelaw.go:274 move
          refine WL.v (by first | exact r_move (v := .bool _) rfl | exact r_move rfl) rfl rfl rfl ?_
          -- R20.2 142 := wirelaw.go:274 move
          refine WL.v (by first | exact r_move (v := .slice _ _ _) rfl | exact r_move rfl) rfl rfl rfl ?_
          -- R20.3 143 := wirelaw.go:274 move
          refine WL.v (by first | exact r_move (v := .int _ _) rfl | exact r_move rfl) rfl rfl rfl ?_
          -- R20.4 144 := wirelaw.go:274 move
          refine WL.v (by first | exact r_move (v := .int _ _) rfl | exact r_move rfl) rfl rfl rfl ?_
          -- R20.5 145 := wirelaw.go:274 slice
          refine WL.v (by exact r_slV s (l := 34 + f.s1.bs.length) (h := 14 + m) ty_sl25 rfl ⟨_, rfl⟩ ⟨_, rfl⟩ rfl (fun h => by cases h) (by omega) (by omega) (Nat.le_refl _) hc2'.2) rfl rfl rfl ?_
          -- R20.6 146 := wirelaw.go:274 call
          refine WL.call (r_call ty_call15 rfl) rfl rfl rfl (ones_ok (s.sub (34 + f.s1.bs.length) (14 + m) s.c) hq2.ok (by rw [hq2.bs_, List.length_append, innB_len]; omega) (fun w' q => hq2.rd w' (hsr [_, _] w' q)) st) ?_
          rintro _ w ⟨rfl, st⟩
          rw [hq2.bs_, show innB f = icB f.y f.z f.s3.bs by unfold innB; rw [if_neg k2, if_pos k3], ← ic_ver hfok.yr hfok.zr hfok.o3.byt hfok.o4.byt hic]
          -- R20.7 147 := wirelaw.go:274 binOp
          refine WL.v (by exact r_eql rfl rfl rfl) rfl rfl rfl ?_
          obtain ⟨tc, htc⟩ : ∃ tc, tc = decide (foldV (icSumV f.y f.z f.s3.bs f.s4.bs + f.y 2) = 65535) := ⟨_, rfl⟩
          rw [← htc]
          -- R20.8 148 := wirelaw.go:274 pick
          refine WL.v (by first | exact r_pickT (v := .bool _) rfl rfl | exact r_pickF (v := .bool _) rfl rfl) rfl rfl rfl ?_
          -- R20.9 15 := wirelaw.go:274 assign
          refine WL.v (by first | exact r_assign (v := .bool _) rfl | exact r_assign rfl) rfl rfl rfl ?_
          refine WL.fin hK1214 (fun _ _ h => h) ?_
          refine WC.seq fun K1219 hK1219 => ?_
          -- region 21
          refine WC.region ?_
          -- R21.0 149 := wirelaw.go:276 call
          refine WL.call (r_call ty_call20 rfl) rfl rfl rfl (ver_ok b11 0 f hfok hchk (moreL hFr []) st) ?_
          rintro _ w ⟨rfl, st⟩
          rw [show verV f = tc by rw [hvv]; rw [htc]; rfl]
          -- R21.1 150 := wirelaw.go:276 move
          refine WL.v (by first | exact r_move (v := .bool _) rfl | exact r_move rfl) rfl rfl rfl ?_
          -- R21.2 151 := wirelaw.go:276 binOp
          refine WL.v (by exact r_beql ty_bool4 rfl rfl (t := true) (by simp)) rfl rfl rfl ?_
          -- R21.3 6 := wirelaw.go:276 assign
          refine WL.v (by first | exact r_assign (v := .bool _) rfl | exact r_assign rfl) rfl rfl rfl ?_
          refine WL.fin hK1219 (fun _ _ h => h) ?_
          refine WC.ret1 Tryd.results14 (fun _ _ h => h) rfl ?_
          exact ⟨_, rfl, rfl, st.drop.drop⟩
      have hvv := verV_1 k0 k2 k3
      rw [← htb] at hvv
      refine WC.seq fun K1220 hK1220 => ?_
      refine WC.seq fun K1221 hK1221 => ?_
      -- region 15
      refine WC.region ?_
      -- R15.0 112 := wirelaw.go:269 fieldAddr
      refine WL.v (by exact r_field ty_fld43_0 rfl) rfl rfl rfl ?_
      -- R15.1 113 := wirelaw.go:269 load
      refine WL.v (by first | exact r_load1 ty_one27 rfl (hFrc [] _ st 0 (by decide)) | exact r_load1 ty_one27 rfl (hFrc _ _ st 0 (by decide)) | exact r_load1 ty_one27 rfl (hFrc [_] _ st 0 (by decide)) | exact r_load1 ty_one27 rfl (hFrc [_, _] _ st 0 (by decide)) | exact r_load1 ty_one27 rfl (hFrc [_, _, _] _ st 0 (by decide))) rfl rfl rfl ?_
      refine WL.fin hK1221 (fun _ _ h => h) ?_
      refine WC.block ?_
      refine WC.seq fun K1222 hK1222 => ?_
      -- region 16
      refine WC.region ?_
      -- R16.0 115 := wirelaw.go:270 binOp
      refine WL.v (by exact r_eql rfl rfl (decide_eq_false k2)) rfl rfl rfl ?_
      -- R16.1 114 := wirelaw.go:270 assign
      refine WL.v (by first | exact r_assign (v := .bool _) rfl | exact r_assign rfl) rfl rfl rfl ?_
      refine WL.fin hK1222 (fun _ _ h => h) ?_
      refine WC.condF rfl rfl ?_
      refine WC.seq fun K1223 hK1223 => ?_
      -- region 19
      refine WC.region ?_
      -- R19.0 139 := wirelaw.go:273 binOp
      refine WL.v (by exact r_eql rfl rfl (decide_eq_false k3)) rfl rfl rfl ?_
      -- R19.1 138 := wirelaw.go:273 assign
      refine WL.v (by first | exact r_assign (v := .bool _) rfl | exact r_assign rfl) rfl rfl rfl ?_
      refine WL.fin hK1223 (fun _ _ h => h) ?_
      refine WC.condF rfl rfl ?_
      refine WC.skipF hK1220 (fun _ _ h => h) ?_
      refine WC.seq fun K1224 hK1224 => ?_
      -- region 21
      refine WC.region ?_
      -- R21.0 149 := wirelaw.go:276 call
      refine WL.call (r_call ty_call20 rfl) rfl rfl rfl (ver_ok b11 0 f hfok hchk (moreL hFr []) st) ?_
      rintro _ w ⟨rfl, st⟩
      rw [show verV f = tb by rw [hvv]]
      -- R21.1 150 := wirelaw.go:276 move
      refine WL.v (by first | exact r_move (v := .bool _) rfl | exact r_move rfl) rfl rfl rfl ?_
      -- R21.2 151 := wirelaw.go:276 binOp
      refine WL.v (by exact r_beql ty_bool4 rfl rfl (t := true) (by simp)) rfl rfl rfl ?_
      -- R21.3 6 := wirelaw.go:276 assign
      refine WL.v (by first | exact r_assign (v := .bool _) rfl | exact r_assign rfl) rfl rfl rfl ?_
      refine WL.fin hK1224 (fun _ _ h => h) ?_
      refine WC.ret1 Tryd.results14 (fun _ _ h => h) rfl ?_
      exact ⟨_, rfl, rfl, st.drop.drop⟩
    · skip
      refine TL.at ?_
      -- R6.9 10 := wirelaw.go:257 alloc
      refine WL.alloc (m := 4) st ty_zero34 rfl rfl rfl ?_
      intro b10 w st
      refine TL.nxt (by first | exact st | exact st.drop | exact st.drop1 | exact st.drop2 | exact st.drop3 | exact st.drop4 | exact st.drop.drop | exact st.drop.drop1 | exact st.drop.drop2 | exact st.drop.drop3 | exact st.drop.drop4 | exact st.drop.drop.drop | exact st_dropL st | exact st_dropL st.drop | exact st_none st) ?_
      refine TL.at ?_
      -- R6.8 9 := wirelaw.go:257 alloc
      refine WL.alloc (m := 4) st ty_zero34 rfl rfl rfl ?_
      intro b9 w st
      refine TL.nxt (by first | exact st | exact st.drop | exact st.drop1 | exact st.drop2 | exact st.drop3 | exact st.drop4 | exact st.drop.drop | exact st.drop.drop1 | exact st.drop.drop2 | exact st.drop.drop3 | exact st.drop.drop4 | exact st.drop.drop.drop | exact st_dropL st | exact st_dropL st.drop | exact st_none st) ?_
      refine TL.at ?_
      -- R6.10 None := wirelaw.go:257 store
      first | refine WL.storeW (vs := [_, _, _, _]) st ty_agg34 rfl rfl rfl rfl rfl rfl ?_ | refine WL.storeL (vs := [_, _, _, _]) st ty_agg34 rfl rfl rfl rfl (by first | decide | omega) rfl rfl ?_ | refine WL.storeW (vs := [_, _, _, _]) st.front1 ty_agg34 rfl rfl rfl rfl rfl rfl ?_ | refine WL.storeL (vs := [_, _, _, _]) st.front1 ty_agg34 rfl rfl rfl rfl (by first | decide | omega) rfl rfl ?_ | refine WL.storeW (vs := [_, _, _, _]) st.front2 ty_agg34 rfl rfl rfl rfl rfl rfl ?_ | refine WL.storeL (vs := [_, _, _, _]) st.front2 ty_agg34 rfl rfl rfl rfl (by first | decide | omega) rfl rfl ?_ | refine WL.storeW (vs := [_, _, _, _]) st.front3 ty_agg34 rfl rfl rfl rfl rfl rfl ?_ | refine WL.storeL (vs := [_, _, _, _]) st.front3 ty_agg34 rfl rfl rfl rfl (by first | decide | omega) rfl rfl ?_ | refine WL.storeW (vs := [_, _, _, _]) st.front4 ty_agg34 rfl rfl rfl rfl rfl rfl ?_ | refine WL.storeL (vs := [_, _, _, _]) st.front4 ty_agg34 rfl rfl rfl rfl (by first | decide | omega) rfl rfl ?_ | refine WL.storeW (vs := [_, _, _, _]) st.front5 ty_agg34 rfl rfl rfl rfl rfl rfl ?_ | refine WL.storeL (vs := [_, _, _, _]) st.front5 ty_agg34 rfl rfl rfl rfl (by first | decide | omega) rfl rfl ?_ | refine WL.storeW (vs := [_, _, _, _]) st.front6 ty_agg34 rfl rfl rfl rfl rfl rfl ?_ | refine WL.storeL (vs := [_, _, _, _]) st.front6 ty_agg34 rfl rfl rfl rfl (by first | decide | omega) rfl rfl ?_ | refine WL.storeW (vs := [_, _, _, _]) st.front7 ty_agg34 rfl rfl rfl rfl rfl rfl ?_ | refine WL.storeL (vs := [_, _, _, _]) st.front7 ty_agg34 rfl rfl rfl rfl (by first | decide | omega) rfl rfl ?_ | refine WL.storeW (vs := [_, _, _, _]) st.front8 ty_agg34 rfl rfl rfl rfl rfl rfl ?_ | refine WL.storeL (vs := [_, _, _, _]) st.front8 ty_agg34 rfl rfl rfl rfl (by first | decide | omega) rfl rfl ?_
      intro w st
      refine TL.nxt (by first | exact st | exact st.drop | exact st.drop1 | exact st.drop2 | exact st.drop3 | exact st.drop4 | exact st.drop.drop | exact st.drop.drop1 | exact st.drop.drop2 | exact st.drop.drop3 | exact st.drop.drop4 | exact st.drop.drop.drop | exact st_dropL st | exact st_dropL st.drop | exact st_none st) ?_
      refine TL.at ?_
      -- R6.11 None := wirelaw.go:257 store
      first | refine WL.storeW (vs := [_, _, _, _]) st ty_agg34 rfl rfl rfl rfl rfl rfl ?_ | refine WL.storeL (vs := [_, _, _, _]) st ty_agg34 rfl rfl rfl rfl (by first | decide | omega) rfl rfl ?_ | refine WL.storeW (vs := [_, _, _, _]) st.front1 ty_agg34 rfl rfl rfl rfl rfl rfl ?_ | refine WL.storeL (vs := [_, _, _, _]) st.front1 ty_agg34 rfl rfl rfl rfl (by first | decide | omega) rfl rfl ?_ | refine WL.storeW (vs := [_, _, _, _]) st.front2 ty_agg34 rfl rfl rfl rfl rfl rfl ?_ | refine WL.storeL (vs := [_, _, _, _]) st.front2 ty_agg34 rfl rfl rfl rfl (by first | decide | omega) rfl rfl ?_ | refine WL.storeW (vs := [_, _, _, _]) st.front3 ty_agg34 rfl rfl rfl rfl rfl rfl ?_ | refine WL.storeL (vs := [_, _, _, _]) st.front3 ty_agg34 rfl rfl rfl rfl (by first | decide | omega) rfl rfl ?_ | refine WL.storeW (vs := [_, _, _, _]) st.front4 ty_agg34 rfl rfl rfl rfl rfl rfl ?_ | refine WL.storeL (vs := [_, _, _, _]) st.front4 ty_agg34 rfl rfl rfl rfl (by first | decide | omega) rfl rfl ?_ | refine WL.storeW (vs := [_, _, _, _]) st.front5 ty_agg34 rfl rfl rfl rfl rfl rfl ?_ | refine WL.storeL (vs := [_, _, _, _]) st.front5 ty_agg34 rfl rfl rfl rfl (by first | decide | omega) rfl rfl ?_ | refine WL.storeW (vs := [_, _, _, _]) st.front6 ty_agg34 rfl rfl rfl rfl rfl rfl ?_ | refine WL.storeL (vs := [_, _, _, _]) st.front6 ty_agg34 rfl rfl rfl rfl (by first | decide | omega) rfl rfl ?_ | refine WL.storeW (vs := [_, _, _, _]) st.front7 ty_agg34 rfl rfl rfl rfl rfl rfl ?_ | refine WL.storeL (vs := [_, _, _, _]) st.front7 ty_agg34 rfl rfl rfl rfl (by first | decide | omega) rfl rfl ?_ | refine WL.storeW (vs := [_, _, _, _]) st.front8 ty_agg34 rfl rfl rfl rfl rfl rfl ?_ | refine WL.storeL (vs := [_, _, _, _]) st.front8 ty_agg34 rfl rfl rfl rfl (by first | decide | omega) rfl rfl ?_
      intro w st
      refine TL.nxt' rfl ?_
      refine TL.wl ?_
      refine WL.fin hK1194 (fun _ _ h => h) ?_
      have st := st.front1
      refine WC.seq fun K1225 hK1225 => ?_
      -- region 7 (draws)
      refine WC.heldS [] [0, 1, 2, 3, 4, 5, 6, 8, 9, 10, 11, 12, 13, 14] [7, 15, 16, 17] st (st) ty_mixed (by kernel_rfl) fun w st Kq hKq => ?_
      -- R7.0 62 := wirelaw.go:258 load
      refine HL.v (fun w st => by exact r_loadL (vs := [_, _, _, _]) ty_agg34 rfl ⟨(by first | assumption | exact st.c0 (by first | decide | omega) | exact st.c1 (by first | decide | omega) | exact st.c2 (by first | decide | omega) | exact st.c3 (by first | decide | omega) | exact st.c4 (by first | decide | omega) | exact st.c5 (by first | decide | omega) | exact st.c6 (by first | decide | omega) | exact st.c7 (by first | decide | omega) | exact st.c8 (by first | decide | omega)), (by first | assumption | exact st.c0 (by first | decide | omega) | exact st.c1 (by first | decide | omega) | exact st.c2 (by first | decide | omega) | exact st.c3 (by first | decide | omega) | exact st.c4 (by first | decide | omega) | exact st.c5 (by first | decide | omega) | exact st.c6 (by first | decide | omega) | exact st.c7 (by first | decide | omega) | exact st.c8 (by first | decide | omega)), (by first | assumption | exact st.c0 (by first | decide | omega) | exact st.c1 (by first | decide | omega) | exact st.c2 (by first | decide | omega) | exact st.c3 (by first | decide | omega) | exact st.c4 (by first | decide | omega) | exact st.c5 (by first | decide | omega) | exact st.c6 (by first | decide | omega) | exact st.c7 (by first | decide | omega) | exact st.c8 (by first | decide | omega)), (by first | assumption | exact st.c0 (by first | decide | omega) | exact st.c1 (by first | decide | omega) | exact st.c2 (by first | decide | omega) | exact st.c3 (by first | decide | omega) | exact st.c4 (by first | decide | omega) | exact st.c5 (by first | decide | omega) | exact st.c6 (by first | decide | omega) | exact st.c7 (by first | decide | omega) | exact st.c8 (by first | decide | omega)), trivial⟩) rfl rfl rfl ?_
      -- R7.1 63 := wirelaw.go:258 load
      refine HL.v (fun w st => by exact r_loadL (vs := [_, _, _, _]) ty_agg34 rfl ⟨(by first | assumption | exact st.c0 (by first | decide | omega) | exact st.c1 (by first | decide | omega) | exact st.c2 (by first | decide | omega) | exact st.c3 (by first | decide | omega) | exact st.c4 (by first | decide | omega) | exact st.c5 (by first | decide | omega) | exact st.c6 (by first | decide | omega) | exact st.c7 (by first | decide | omega) | exact st.c8 (by first | decide | omega)), (by first | assumption | exact st.c0 (by first | decide | omega) | exact st.c1 (by first | decide | omega) | exact st.c2 (by first | decide | omega) | exact st.c3 (by first | decide | omega) | exact st.c4 (by first | decide | omega) | exact st.c5 (by first | decide | omega) | exact st.c6 (by first | decide | omega) | exact st.c7 (by first | decide | omega) | exact st.c8 (by first | decide | omega)), (by first | assumption | exact st.c0 (by first | decide | omega) | exact st.c1 (by first | decide | omega) | exact st.c2 (by first | decide | omega) | exact st.c3 (by first | decide | omega) | exact st.c4 (by first | decide | omega) | exact st.c5 (by first | decide | omega) | exact st.c6 (by first | decide | omega) | exact st.c7 (by first | decide | omega) | exact st.c8 (by first | decide | omega)), (by first | assumption | exact st.c0 (by first | decide | omega) | exact st.c1 (by first | decide | omega) | exact st.c2 (by first | decide | omega) | exact st.c3 (by first | decide | omega) | exact st.c4 (by first | decide | omega) | exact st.c5 (by first | decide | omega) | exact st.c6 (by first | decide | omega) | exact st.c7 (by first | decide | omega) | exact st.c8 (by first | decide | omega)), trivial⟩) rfl rfl rfl ?_
      -- R7.2 64 := wirelaw.go:258 move
      refine HL.v (fun w st => by first | exact r_move (v := .slice _ _ _) rfl | exact r_move rfl) rfl rfl rfl ?_
      -- R7.3 65 := wirelaw.go:258 indexAddr
      refine HL.v (fun w st => by exact r_indexS (j := 8) ty_sl25 hav rfl rfl (by omega)) rfl rfl rfl ?_
      -- R7.4 66 := wirelaw.go:258 load
      refine HL.v (fun w st => by exact r_load1 ty_one5 rfl (hsr [_, _, _] _ st 8 (by omega))) rfl rfl rfl ?_
      -- R7.5 67 := wirelaw.go:258 fieldAddr
      refine HL.v (fun w st => by exact r_field ty_fld45_4 rfl) rfl rfl rfl ?_
      -- R7.6 68 := wirelaw.go:258 load
      refine HL.v (fun w st => by exact r_load1 ty_one30 rfl (by first | assumption | exact st.c0 (by first | decide | omega) | exact st.c1 (by first | decide | omega) | exact st.c2 (by first | decide | omega) | exact st.c3 (by first | decide | omega) | exact st.c4 (by first | decide | omega) | exact st.c5 (by first | decide | omega) | exact st.c6 (by first | decide | omega) | exact st.c7 (by first | decide | omega) | exact st.c8 (by first | decide | omega))) rfl rfl rfl ?_
      -- R7.8 70 := wirelaw.go:258 load
      refine HL.v (fun w st => by exact r_loadL (vs := [_, _, _, _]) ty_agg34 rfl ⟨(by first | assumption | exact st.c0 (by first | decide | omega) | exact st.c1 (by first | decide | omega) | exact st.c2 (by first | decide | omega) | exact st.c3 (by first | decide | omega) | exact st.c4 (by first | decide | omega) | exact st.c5 (by first | decide | omega) | exact st.c6 (by first | decide | omega) | exact st.c7 (by first | decide | omega) | exact st.c8 (by first | decide | omega)), (by first | assumption | exact st.c0 (by first | decide | omega) | exact st.c1 (by first | decide | omega) | exact st.c2 (by first | decide | omega) | exact st.c3 (by first | decide | omega) | exact st.c4 (by first | decide | omega) | exact st.c5 (by first | decide | omega) | exact st.c6 (by first | decide | omega) | exact st.c7 (by first | decide | omega) | exact st.c8 (by first | decide | omega)), (by first | assumption | exact st.c0 (by first | decide | omega) | exact st.c1 (by first | decide | omega) | exact st.c2 (by first | decide | omega) | exact st.c3 (by first | decide | omega) | exact st.c4 (by first | decide | omega) | exact st.c5 (by first | decide | omega) | exact st.c6 (by first | decide | omega) | exact st.c7 (by first | decide | omega) | exact st.c8 (by first | decide | omega)), (by first | assumption | exact st.c0 (by first | decide | omega) | exact st.c1 (by first | decide | omega) | exact st.c2 (by first | decide | omega) | exact st.c3 (by first | decide | omega) | exact st.c4 (by first | decide | omega) | exact st.c5 (by first | decide | omega) | exact st.c6 (by first | decide | omega) | exact st.c7 (by first | decide | omega) | exact st.c8 (by first | decide | omega)), trivial⟩) rfl rfl rfl ?_
      -- R7.9 71 := wirelaw.go:258 load
      refine HL.v (fun w st => by exact r_loadL (vs := [_, _, _, _]) ty_agg34 rfl ⟨(by first | assumption | exact st.c0 (by first | decide | omega) | exact st.c1 (by first | decide | omega) | exact st.c2 (by first | decide | omega) | exact st.c3 (by first | decide | omega) | exact st.c4 (by first | decide | omega) | exact st.c5 (by first | decide | omega) | exact st.c6 (by first | decide | omega) | exact st.c7 (by first | decide | omega) | exact st.c8 (by first | decide | omega)), (by first | assumption | exact st.c0 (by first | decide | omega) | exact st.c1 (by first | decide | omega) | exact st.c2 (by first | decide | omega) | exact st.c3 (by first | decide | omega) | exact st.c4 (by first | decide | omega) | exact st.c5 (by first | decide | omega) | exact st.c6 (by first | decide | omega) | exact st.c7 (by first | decide | omega) | exact st.c8 (by first | decide | omega)), (by first | assumption | exact st.c0 (by first | decide | omega) | exact st.c1 (by first | decide | omega) | exact st.c2 (by first | decide | omega) | exact st.c3 (by first | decide | omega) | exact st.c4 (by first | decide | omega) | exact st.c5 (by first | decide | omega) | exact st.c6 (by first | decide | omega) | exact st.c7 (by first | decide | omega) | exact st.c8 (by first | decide | omega)), (by first | assumption | exact st.c0 (by first | decide | omega) | exact st.c1 (by first | decide | omega) | exact st.c2 (by first | decide | omega) | exact st.c3 (by first | decide | omega) | exact st.c4 (by first | decide | omega) | exact st.c5 (by first | decide | omega) | exact st.c6 (by first | decide | omega) | exact st.c7 (by first | decide | omega) | exact st.c8 (by first | decide | omega)), trivial⟩) rfl rfl rfl ?_
      -- R7.10 72 := wirelaw.go:258 move
      refine HL.v (fun w st => by first | exact r_move (v := .slice _ _ _) rfl | exact r_move rfl) rfl rfl rfl ?_
      -- R7.11 73 := wirelaw.go:258 indexAddr
      refine HL.v (fun w st => by exact r_indexS (j := 8) ty_sl25 hav rfl rfl (by omega)) rfl rfl rfl ?_
      -- R7.12 74 := wirelaw.go:258 load
      refine HL.v (fun w st => by exact r_load1 ty_one5 rfl (hsr [_, _, _] _ st 8 (by omega))) rfl rfl rfl ?_
      -- R7.13 75 := wirelaw.go:258 fieldAddr
      refine HL.v (fun w st => by exact r_field ty_fld45_4 rfl) rfl rfl rfl ?_
      -- R7.14 76 := wirelaw.go:258 load
      refine HL.v (fun w st => by exact r_load1 ty_one30 rfl (by first | assumption | exact st.c0 (by first | decide | omega) | exact st.c1 (by first | decide | omega) | exact st.c2 (by first | decide | omega) | exact st.c3 (by first | decide | omega) | exact st.c4 (by first | decide | omega) | exact st.c5 (by first | decide | omega) | exact st.c6 (by first | decide | omega) | exact st.c7 (by first | decide | omega) | exact st.c8 (by first | decide | omega))) rfl rfl rfl ?_
      refine HL.fin hKq ?_
      refine TL.at ?_
      -- R7.7 69 := wirelaw.go:258 call
      refine WL.call (r_call ty_call18 rfl) rfl rfl rfl (pseudo_ok _ _ _ _ _ _ _ _ _ _ (g 0 (by omega)) (g 1 (by omega)) (g 2 (by omega)) (g 3 (by omega)) (g 4 (by omega)) (g 5 (by omega)) (g 6 (by omega)) (g 7 (by omega)) (g 8 (by omega)) vr st) ?_
      rintro _ w ⟨rfl, st⟩
      refine TL.nxt (by first | exact st | exact st.drop | exact st.drop1 | exact st.drop2 | exact st.drop3 | exact st.drop4 | exact st.drop.drop | exact st.drop.drop1 | exact st.drop.drop2 | exact st.drop.drop3 | exact st.drop.drop4 | exact st.drop.drop.drop | exact st_dropL st | exact st_dropL st.drop | exact st_none st) ?_
      refine TL.at ?_
      -- R7.15 77 := wirelaw.go:258 call
      refine WL.call (r_call ty_call19 rfl) rfl rfl rfl (pseudoB_ok _ _ _ _ _ _ _ _ _ _ (g 0 (by omega)) (g 1 (by omega)) (g 2 (by omega)) (g 3 (by omega)) (g 4 (by omega)) (g 5 (by omega)) (g 6 (by omega)) (g 7 (by omega)) (g 8 (by omega)) vr st) ?_
      rintro vp w ⟨XP, hbp, st⟩
      obtain ⟨sp, rfl, hsp, hspok, hsprd⟩ := hbp.bo.sv
      refine TL.nxt (by first | exact st | exact st.drop | exact st.drop1 | exact st.drop2 | exact st.drop3 | exact st.drop4 | exact st.drop.drop | exact st.drop.drop1 | exact st.drop.drop2 | exact st.drop.drop3 | exact st.drop.drop4 | exact st.drop.drop.drop | exact st_dropL st | exact st_dropL st.drop | exact st_none st) ?_
      refine TL.at ?_
      -- R7.16 78 := wirelaw.go:258 call
      refine WL.call (r_call ty_call15 rfl) rfl rfl rfl (ones_ok sp hspok (by rw [hsp]; simp only [psB, List.length_cons, List.length_nil]; omega) (fun w' q => hsprd q (fun x hx => by simp [hx])) st) ?_
      rintro _ w ⟨rfl, st⟩
      rw [hsp, ← ps_sum (g 0 (by omega)) (g 1 (by omega)) (g 2 (by omega)) (g 3 (by omega)) (g 4 (by omega)) (g 5 (by omega)) (g 6 (by omega)) (g 7 (by omega)) (g 8 (by omega)) vr]
      refine TL.nxt (by first | exact st | exact st.drop | exact st.drop1 | exact st.drop2 | exact st.drop3 | exact st.drop4 | exact st.drop.drop | exact st.drop.drop1 | exact st.drop.drop2 | exact st.drop.drop3 | exact st.drop.drop4 | exact st.drop.drop.drop | exact st_dropL st | exact st_dropL st.drop | exact st_none st) ?_
      refine TL.at ?_
      -- R7.17 79 := wirelaw.go:258 binOp
      refine WL.v (by exact r_neq rfl rfl (decide_eq_false (fun h => h rfl))) rfl rfl rfl ?_
      refine TL.nxt (by first | exact st | exact st.drop | exact st.drop1 | exact st.drop2 | exact st.drop3 | exact st.drop4 | exact st.drop.drop | exact st.drop.drop1 | exact st.drop.drop2 | exact st.drop.drop3 | exact st.drop.drop4 | exact st.drop.drop.drop | exact st_dropL st | exact st_dropL st.drop | exact st_none st) ?_
      refine TL.wl ?_
      refine WL.fin hK1225 (fun _ _ h => h) ?_
      have st := (st_dropL (P := XP) st).drop.drop
      refine WC.condF rfl rfl ?_
      refine WC.skipF hK1192 (fun _ _ h => h) ?_
      refine WC.seq fun K1226 hK1226 => ?_
      -- region 9
      refine WC.region ?_
      -- R9.0 81 := wirelaw.go:262 move
      refine WL.v (by first | exact r_move (v := .slice _ _ _) rfl | exact r_move rfl) rfl rfl rfl ?_
      -- R9.1 82 := wirelaw.go:262 call
      refine WL.call (r_call ty_call10 rfl) rfl rfl rfl (parse_ok hE s hsok (by omega) (fun its w' q => hsr (its ++ [_]) w' (by rw [List.append_assoc]; exact q)) st) ?_
      rintro pv w ⟨⟨k, e, x, t, y, z, s1, s2, s3, s4, s5, er, rfl, hpo⟩, st⟩
      -- R9.2 80 := wirelaw.go:262 move
      refine WL.v (by first | exact r_move (v := .tuple _) rfl | exact r_move rfl) rfl rfl rfl ?_
      -- R9.3 83 := wirelaw.go:262 extract
      refine WL.v (by first | exact r_extract (v := .agg _) rfl rfl | exact r_extract rfl rfl) rfl rfl rfl ?_
      -- R9.4 84 := wirelaw.go:262 extract
      refine WL.v (by first | exact r_extract (v := .nilIface) rfl rfl | exact r_extract (v := .iface _ _) rfl rfl | exact r_extract rfl rfl) rfl rfl rfl ?_
      -- R9.5 11 := wirelaw.go:262 alloc
      refine WL.alloc (m := 64) st ty_zero43 rfl rfl rfl ?_
      intro b11 w st
      -- R9.6 None := wirelaw.go:262 store
      first | refine WL.storeW (vs := [_, _, _, _, _, _, _, _, _, _, _, _, _, _, _, _, _, _, _, _, _, _, _, _, _, _, _, _, _, _, _, _, _, _, _, _, _, _, _, _, _, _, _, _, _, _, _, _, _, _, _, _, _, _, _, _, _, _, _, _, _, _, _, _]) st ty_agg43 rfl rfl rfl rfl rfl rfl ?_ | refine WL.storeL (vs := [_, _, _, _, _, _, _, _, _, _, _, _, _, _, _, _, _, _, _, _, _, _, _, _, _, _, _, _, _, _, _, _, _, _, _, _, _, _, _, _, _, _, _, _, _, _, _, _, _, _, _, _, _, _, _, _, _, _, _, _, _, _, _, _]) st ty_agg43 rfl rfl rfl rfl (by first | decide | omega) rfl rfl ?_ | refine WL.storeW (vs := [_, _, _, _, _, _, _, _, _, _, _, _, _, _, _, _, _, _, _, _, _, _, _, _, _, _, _, _, _, _, _, _, _, _, _, _, _, _, _, _, _, _, _, _, _, _, _, _, _, _, _, _, _, _, _, _, _, _, _, _, _, _, _, _]) st.front1 ty_agg43 rfl rfl rfl rfl rfl rfl ?_ | refine WL.storeL (vs := [_, _, _, _, _, _, _, _, _, _, _, _, _, _, _, _, _, _, _, _, _, _, _, _, _, _, _, _, _, _, _, _, _, _, _, _, _, _, _, _, _, _, _, _, _, _, _, _, _, _, _, _, _, _, _, _, _, _, _, _, _, _, _, _]) st.front1 ty_agg43 rfl rfl rfl rfl (by first | decide | omega) rfl rfl ?_ | refine WL.storeW (vs := [_, _, _, _, _, _, _, _, _, _, _, _, _, _, _, _, _, _, _, _, _, _, _, _, _, _, _, _, _, _, _, _, _, _, _, _, _, _, _, _, _, _, _, _, _, _, _, _, _, _, _, _, _, _, _, _, _, _, _, _, _, _, _, _]) st.front2 ty_agg43 rfl rfl rfl rfl rfl rfl ?_ | refine WL.storeL (vs := [_, _, _, _, _, _, _, _, _, _, _, _, _, _, _, _, _, _, _, _, _, _, _, _, _, _, _, _, _, _, _, _, _, _, _, _, _, _, _, _, _, _, _, _, _, _, _, _, _, _, _, _, _, _, _, _, _, _, _, _, _, _, _, _]) st.front2 ty_agg43 rfl rfl rfl rfl (by first | decide | omega) rfl rfl ?_ | refine WL.storeW (vs := [_, _, _, _, _, _, _, _, _, _, _, _, _, _, _, _, _, _, _, _, _, _, _, _, _, _, _, _, _, _, _, _, _, _, _, _, _, _, _, _, _, _, _, _, _, _, _, _, _, _, _, _, _, _, _, _, _, _, _, _, _, _, _, _]) st.front3 ty_agg43 rfl rfl rfl rfl rfl rfl ?_ | refine WL.storeL (vs := [_, _, _, _, _, _, _, _, _, _, _, _, _, _, _, _, _, _, _, _, _, _, _, _, _, _, _, _, _, _, _, _, _, _, _, _, _, _, _, _, _, _, _, _, _, _, _, _, _, _, _, _, _, _, _, _, _, _, _, _, _, _, _, _]) st.front3 ty_agg43 rfl rfl rfl rfl (by first | decide | omega) rfl rfl ?_ | refine WL.storeW (vs := [_, _, _, _, _, _, _, _, _, _, _, _, _, _, _, _, _, _, _, _, _, _, _, _, _, _, _, _, _, _, _, _, _, _, _, _, _, _, _, _, _, _, _, _, _, _, _, _, _, _, _, _, _, _, _, _, _, _, _, _, _, _, _, _]) st.front4 ty_agg43 rfl rfl rfl rfl rfl rfl ?_ | refine WL.storeL (vs := [_, _, _, _, _, _, _, _, _, _, _, _, _, _, _, _, _, _, _, _, _, _, _, _, _, _, _, _, _, _, _, _, _, _, _, _, _, _, _, _, _, _, _, _, _, _, _, _, _, _, _, _, _, _, _, _, _, _, _, _, _, _, _, _]) st.front4 ty_agg43 rfl rfl rfl rfl (by first | decide | omega) rfl rfl ?_ | refine WL.storeW (vs := [_, _, _, _, _, _, _, _, _, _, _, _, _, _, _, _, _, _, _, _, _, _, _, _, _, _, _, _, _, _, _, _, _, _, _, _, _, _, _, _, _, _, _, _, _, _, _, _, _, _, _, _, _, _, _, _, _, _, _, _, _, _, _, _]) st.front5 ty_agg43 rfl rfl rfl rfl rfl rfl ?_ | refine WL.storeL (vs := [_, _, _, _, _, _, _, _, _, _, _, _, _, _, _, _, _, _, _, _, _, _, _, _, _, _, _, _, _, _, _, _, _, _, _, _, _, _, _, _, _, _, _, _, _, _, _, _, _, _, _, _, _, _, _, _, _, _, _, _, _, _, _, _]) st.front5 ty_agg43 rfl rfl rfl rfl (by first | decide | omega) rfl rfl ?_ | refine WL.storeW (vs := [_, _, _, _, _, _, _, _, _, _, _, _, _, _, _, _, _, _, _, _, _, _, _, _, _, _, _, _, _, _, _, _, _, _, _, _, _, _, _, _, _, _, _, _, _, _, _, _, _, _, _, _, _, _, _, _, _, _, _, _, _, _, _, _]) st.front6 ty_agg43 rfl rfl rfl rfl rfl rfl ?_ | refine WL.storeL (vs := [_, _, _, _, _, _, _, _, _, _, _, _, _, _, _, _, _, _, _, _, _, _, _, _, _, _, _, _, _, _, _, _, _, _, _, _, _, _, _, _, _, _, _, _, _, _, _, _, _, _, _, _, _, _, _, _, _, _, _, _, _, _, _, _]) st.front6 ty_agg43 rfl rfl rfl rfl (by first | decide | omega) rfl rfl ?_ | refine WL.storeW (vs := [_, _, _, _, _, _, _, _, _, _, _, _, _, _, _, _, _, _, _, _, _, _, _, _, _, _, _, _, _, _, _, _, _, _, _, _, _, _, _, _, _, _, _, _, _, _, _, _, _, _, _, _, _, _, _, _, _, _, _, _, _, _, _, _]) st.front7 ty_agg43 rfl rfl rfl rfl rfl rfl ?_ | refine WL.storeL (vs := [_, _, _, _, _, _, _, _, _, _, _, _, _, _, _, _, _, _, _, _, _, _, _, _, _, _, _, _, _, _, _, _, _, _, _, _, _, _, _, _, _, _, _, _, _, _, _, _, _, _, _, _, _, _, _, _, _, _, _, _, _, _, _, _]) st.front7 ty_agg43 rfl rfl rfl rfl (by first | decide | omega) rfl rfl ?_ | refine WL.storeW (vs := [_, _, _, _, _, _, _, _, _, _, _, _, _, _, _, _, _, _, _, _, _, _, _, _, _, _, _, _, _, _, _, _, _, _, _, _, _, _, _, _, _, _, _, _, _, _, _, _, _, _, _, _, _, _, _, _, _, _, _, _, _, _, _, _]) st.front8 ty_agg43 rfl rfl rfl rfl rfl rfl ?_ | refine WL.storeL (vs := [_, _, _, _, _, _, _, _, _, _, _, _, _, _, _, _, _, _, _, _, _, _, _, _, _, _, _, _, _, _, _, _, _, _, _, _, _, _, _, _, _, _, _, _, _, _, _, _, _, _, _, _, _, _, _, _, _, _, _, _, _, _, _, _]) st.front8 ty_agg43 rfl rfl rfl rfl (by first | decide | omega) rfl rfl ?_
      intro w st
      -- R9.7 12 := wirelaw.go:262 assign
      refine WL.v (by first | exact r_assign (v := .nilIface) rfl | exact r_assign (v := .iface _ _) rfl | exact r_assign rfl) rfl rfl rfl ?_
      refine WL.fin hK1226 (fun _ _ h => h) ?_
      rcases hpo with ⟨T, u, rfl⟩ | ⟨rfl, hps, hpd⟩
      · skip
        refine WC.seq fun K1227 hK1227 => ?_
        refine WC.seq fun K1228 hK1228 => ?_
        -- region 10
        refine WC.region ?_
        -- R10.0 85 := wirelaw.go:263 move
        refine WL.v (by first | exact r_move (v := .nilIface) rfl | exact r_move (v := .iface _ _) rfl | exact r_move rfl) rfl rfl rfl ?_
        -- R10.1 86 := wirelaw.go:263 binOp
        refine WL.v (by first | exact r_nil_neq ty_ifc47 rfl | exact r_some_neq ty_ifc47 rfl) rfl rfl rfl ?_
        -- R10.2 87 := wirelaw.go:263 move
        refine WL.v (by first | exact r_move (v := .bool _) rfl | exact r_move rfl) rfl rfl rfl ?_
        -- R10.3 88 := wirelaw.go:263 fieldAddr
        refine WL.no rfl rfl ?_
        -- R10.4 89 := wirelaw.go:263 load
        refine WL.no rfl rfl ?_
        -- R10.5 90 := wirelaw.go:263 binOp
        refine WL.no rfl rfl ?_
        -- R10.6 91 := wirelaw.go:263 pick
        refine WL.v (by first | exact r_pickT (v := .bool _) rfl rfl | exact r_pickF (v := .bool _) rfl rfl) rfl rfl rfl ?_
        refine WL.fin hK1228 (fun _ _ h => h) ?_
        refine WC.condT rfl rfl ?_
        refine WC.seq fun K1229 hK1229 => ?_
        -- region 11
        refine WC.region ?_
        -- R11.0 92 := wirelaw.go:264 move
        refine WL.v (by first | exact r_move (v := .nilIface) rfl | exact r_move (v := .iface _ _) rfl | exact r_move rfl) rfl rfl rfl ?_
        -- R11.1 93 := wirelaw.go:264 binOp
        refine WL.v (by first | exact r_nil_neq ty_ifc47 rfl | exact r_some_neq ty_ifc47 rfl) rfl rfl rfl ?_
        -- R11.2 94 := wirelaw.go:264 move
        refine WL.v (by first | exact r_move (v := .bool _) rfl | exact r_move rfl) rfl rfl rfl ?_
        -- R11.3 95 := wirelaw.go:264 call
        refine WL.no rfl rfl ?_
        -- R11.4 96 := wirelaw.go:264 pick
        refine WL.v (by first | exact r_pickT (v := .bool _) rfl rfl | exact r_pickF (v := .bool _) rfl rfl) rfl rfl rfl ?_
        -- R11.5 6 := wirelaw.go:264 assign
        refine WL.v (by first | exact r_assign (v := .bool _) rfl | exact r_assign rfl) rfl rfl rfl ?_
        refine WL.fin hK1229 (fun _ _ h => h) ?_
        refine WC.ret1 Tryd.results14 (fun _ _ h => h) rfl ?_
        exact ⟨_, rfl, rfl, st.drop.drop⟩
      obtain ⟨hfok, hchk, hfb⟩ := parsed_good hsok.byt (by omega) ⟨k, e, x, t, y, z, s1, s2, s3, s4, s5⟩ hps.p1.ok hps.p2.ok hps.p3.ok hps.p4.ok hps.p5.ok hpd
      have st := st_nrm (L' := (FD.mk k e x t y z s1 s2 s3 s4 s5).cs) rfl st
      obtain ⟨f, hf⟩ : ∃ f, f = FD.mk k e x t y z s1 s2 s3 s4 s5 := ⟨_, rfl⟩
      have hfrd : ∀ l w', S0 w0 (l ++ (XI ++ L)) w' → f.rd w' := fun l w' q => by
        rw [hf]
        have := hsr l w' q
        exact ⟨hps.p1.rd w' this, hps.p2.rd w' this, hps.p3.rd w' this, hps.p4.rd w' this, hps.p5.rd w' this⟩
      rw [← hf] at st hfok hchk hfb
      clear hps hpd hf
      have hchk' := hchk
      obtain ⟨k4, _, hP2⟩ := hchk'
      have hFr : ∀ its w', S0 w0 (its ++ ((b11, Row 43 64 (nth f.cs)) :: (b5, Row 45 68 (nth (opC kd fo d.v off val))) :: (XI ++ L))) w' → FrAt w' b11 0 f := fun its w' q => ⟨cf_row (t := 43) q (by simp), hfrd (its ++ [_, _]) w' (by rw [List.append_assoc]; exact q)⟩
      have hFrc := fun its w' q => (hFr its w' q).c
      by_cases k0 : f.k = 0
      · skip
        refine WC.seq fun K1230 hK1230 => ?_
        refine WC.seq fun K1231 hK1231 => ?_
        -- region 10
        refine WC.region ?_
        -- R10.0 85 := wirelaw.go:263 move
        refine WL.v (by first | exact r_move (v := .nilIface) rfl | exact r_move (v := .iface _ _) rfl | exact r_move rfl) rfl rfl rfl ?_
        -- R10.1 86 := wirelaw.go:263 binOp
        refine WL.v (by first | exact r_nil_neq ty_ifc47 rfl | exact r_some_neq ty_ifc47 rfl) rfl rfl rfl ?_
        -- R10.2 87 := wirelaw.go:263 move
        refine WL.v (by first | exact r_move (v := .bool _) rfl | exact r_move rfl) rfl rfl rfl ?_
        -- R10.3 88 := wirelaw.go:263 fieldAddr
        refine WL.v (by exact r_field ty_fld43_0 rfl) rfl rfl rfl ?_
        -- R10.4 89 := wirelaw.go:263 load
        refine WL.v (by first | exact r_load1 ty_one27 rfl (hFrc [] _ st 0 (by decide)) | exact r_load1 ty_one27 rfl (hFrc _ _ st 0 (by decide)) | exact r_load1 ty_one27 rfl (hFrc [_] _ st 0 (by decide)) | exact r_load1 ty_one27 rfl (hFrc [_, _] _ st 0 (by decide)) | exact r_load1 ty_one27 rfl (hFrc [_, _, _] _ st 0 (by decide))) rfl rfl rfl ?_
        -- R10.5 90 := wirelaw.go:263 binOp
        refine WL.v (by exact r_eql rfl rfl (decide_eq_true k0)) rfl rfl rfl ?_
        -- R10.6 91 := wirelaw.go:263 pick
        refine WL.v (by first | exact r_pickT (v := .bool _) rfl rfl | exact r_pickF (v := .bool _) rfl rfl) rfl rfl rfl ?_
        refine WL.fin hK1231 (fun _ _ h => h) ?_
        refine WC.condT rfl rfl ?_
        refine WC.seq fun K1232 hK1232 => ?_
        -- region 11
        refine WC.region ?_
        -- R11.0 92 := wirelaw.go:264 move
        refine WL.v (by first | exact r_move (v := .nilIface) rfl | exact r_move (v := .iface _ _) rfl | exact r_move rfl) rfl rfl rfl ?_
        -- R11.1 93 := wirelaw.go:264 binOp
        refine WL.v (by first | exact r_nil_neq ty_ifc47 rfl | exact r_some_neq ty_ifc47 rfl) rfl rfl rfl ?_
        -- R11.2 94 := wirelaw.go:264 move
        refine WL.v (by first | exact r_move (v := .bool _) rfl | exact r_move rfl) rfl rfl rfl ?_
        -- R11.3 95 := wirelaw.go:264 call
        refine WL.call (r_call ty_call20 rfl) rfl rfl rfl (ver_ok b11 0 f hfok hchk hFr st) ?_
        rintro _ w ⟨rfl, st⟩
        rw [show verV f = true by simp [verV, k0]]
        -- R11.4 96 := wirelaw.go:264 pick
        refine WL.v (by first | exact r_pickT (v := .bool _) rfl rfl | exact r_pickF (v := .bool _) rfl rfl) rfl rfl rfl ?_
        -- R11.5 6 := wirelaw.go:264 assign
        refine WL.v (by first | exact r_assign (v := .bool _) rfl | exact r_assign rfl) rfl rfl rfl ?_
        refine WL.fin hK1232 (fun _ _ h => h) ?_
        refine WC.ret1 Tryd.results14 (fun _ _ h => h) rfl ?_
        exact ⟨_, rfl, rfl, st.drop.drop⟩
      obtain ⟨_, _, hip, hin, hx1⟩ := hP2.resolve_left fun q => k0 q.1
      obtain ⟨m, hm⟩ : ∃ m, m = 20 + f.s1.bs.length + innerN f + f.s4.bs.length := ⟨_, rfl⟩
      rw [← hm] at hx1
      have hc1 := cut1 k0 hfb
      have hc2' := cut2 k0 hfb hm
      have hx1r := hfok.xr.r1
      have hq1 := Part.sub hsok (l := 14) (h := 34 + f.s1.bs.length) (m := s.c) (by omega) hc1.2 (by omega) (Nat.le_refl _)
      have hq2 := Part.sub hsok (l := 34 + f.s1.bs.length) (h := 14 + m) (m := s.c) (by omega) hc2'.2 (by omega) (Nat.le_refl _)
      rw [hc1.1] at hq1
      rw [hc2'.1] at hq2
      refine WC.seq fun K1233 hK1233 => ?_
      refine WC.seq fun K1234 hK1234 => ?_
      -- region 10
      refine WC.region ?_
      -- R10.0 85 := wirelaw.go:263 move
      refine WL.v (by first | exact r_move (v := .nilIface) rfl | exact r_move (v := .iface _ _) rfl | exact r_move rfl) rfl rfl rfl ?_
      -- R10.1 86 := wirelaw.go:263 binOp
      refine WL.v (by first | exact r_nil_neq ty_ifc47 rfl | exact r_some_neq ty_ifc47 rfl) rfl rfl rfl ?_
      -- R10.2 87 := wirelaw.go:263 move
      refine WL.v (by first | exact r_move (v := .bool _) rfl | exact r_move rfl) rfl rfl rfl ?_
      -- R10.3 88 := wirelaw.go:263 fieldAddr
      refine WL.v (by exact r_field ty_fld43_0 rfl) rfl rfl rfl ?_
      -- R10.4 89 := wirelaw.go:263 load
      refine WL.v (by first | exact r_load1 ty_one27 rfl (hFrc [] _ st 0 (by decide)) | exact r_load1 ty_one27 rfl (hFrc _ _ st 0 (by decide)) | exact r_load1 ty_one27 rfl (hFrc [_] _ st 0 (by decide)) | exact r_load1 ty_one27 rfl (hFrc [_, _] _ st 0 (by decide)) | exact r_load1 ty_one27 rfl (hFrc [_, _, _] _ st 0 (by decide))) rfl rfl rfl ?_
      -- R10.5 90 := wirelaw.go:263 binOp
      refine WL.v (by exact r_eql rfl rfl (decide_eq_false k0)) rfl rfl rfl ?_
      -- R10.6 91 := wirelaw.go:263 pick
      refine WL.v (by first | exact r_pickT (v := .bool _) rfl rfl | exact r_pickF (v := .bool _) rfl rfl) rfl rfl rfl ?_
      refine WL.fin hK1234 (fun _ _ h => h) ?_
      refine WC.condF rfl rfl ?_
      refine WC.skipF hK1233 (fun _ _ h => h) ?_
      refine WC.seq fun K1235 hK1235 => ?_
      -- region 12
      refine WC.region ?_
      -- R12.0 97 := wirelaw.go:266 fieldAddr
      refine WL.v (by exact r_field ty_fld43_2 rfl) rfl rfl rfl ?_
      -- R12.1 98 := wirelaw.go:266 fieldAddr
      refine WL.v (by exact r_field ty_fld36_10 rfl) rfl rfl rfl ?_
      -- R12.2 99 := wirelaw.go:266 load
      refine WL.v (by first | exact r_load1 ty_one25 rfl (hFrc [] _ st 30 (by decide)) | exact r_load1 ty_one25 rfl (hFrc _ _ st 30 (by decide)) | exact r_load1 ty_one25 rfl (hFrc [_] _ st 30 (by decide)) | exact r_load1 ty_one25 rfl (hFrc [_, _] _ st 30 (by decide)) | exact r_load1 ty_one25 rfl (hFrc [_, _, _] _ st 30 (by decide))) rfl rfl rfl ?_
      -- R12.3 100 := wirelaw.go:266 call
      refine WL.v (by exact r_len ty_usl25 rfl) rfl rfl rfl ?_
      -- R12.4 101 := wirelaw.go:266 binOp
      refine WL.v (by exact r_add (r := ((34 + f.s1.bs.length : Nat) : Int)) rfl rfl ((wi64 (by omega) (by omega)).trans (by omega))) rfl rfl rfl ?_
      -- R12.5 13 := wirelaw.go:266 assign
      refine WL.v (by first | exact r_assign (v := .int _ _) rfl | exact r_assign rfl) rfl rfl rfl ?_
      refine WL.fin hK1235 (fun _ _ h => h) ?_
      refine WC.seq fun K1236 hK1236 => ?_
      -- region 13
      refine WC.region ?_
      -- R13.0 102 := wirelaw.go:267 fieldAddr
      refine WL.v (by exact r_field ty_fld43_2 rfl) rfl rfl rfl ?_
      -- R13.1 103 := wirelaw.go:267 fieldAddr
      refine WL.v (by exact r_field ty_fld36_1 rfl) rfl rfl rfl ?_
      -- R13.2 104 := wirelaw.go:267 load
      refine WL.v (by first | exact r_load1 ty_one30 rfl (hFrc [] _ st 15 (by decide)) | exact r_load1 ty_one30 rfl (hFrc _ _ st 15 (by decide)) | exact r_load1 ty_one30 rfl (hFrc [_] _ st 15 (by decide)) | exact r_load1 ty_one30 rfl (hFrc [_, _] _ st 15 (by decide)) | exact r_load1 ty_one30 rfl (hFrc [_, _, _] _ st 15 (by decide))) rfl rfl rfl ?_
      -- R13.3 105 := wirelaw.go:267 convert
      refine WL.v (by exact r_conv (r := (m : Int)) ty_cv30_3 rfl ((congrArg IntKind.i64.wrap hx1).trans (wi64 (by omega) (by omega)))) rfl rfl rfl ?_
      -- R13.4 106 := wirelaw.go:267 binOp
      refine WL.v (by exact r_add (r := ((14 + m : Nat) : Int)) rfl rfl ((wi64 (by omega) (by omega)).trans (by omega))) rfl rfl rfl ?_
      -- R13.5 14 := wirelaw.go:267 assign
      refine WL.v (by first | exact r_assign (v := .int _ _) rfl | exact r_assign rfl) rfl rfl rfl ?_
      refine WL.fin hK1236 (fun _ _ h => h) ?_
      refine WC.seq fun K1237 hK1237 => ?_
      -- region 14
      refine WC.region ?_
      -- R14.0 107 := wirelaw.go:268 move
      refine WL.v (by first | exact r_move (v := .slice _ _ _) rfl | exact r_move rfl) rfl rfl rfl ?_
      -- R14.1 108 := wirelaw.go:268 move
      refine WL.v (by first | exact r_move (v := .int _ _) rfl | exact r_move rfl) rfl rfl rfl ?_
      -- R14.2 109 := wirelaw.go:268 slice
      refine WL.v (by exact r_slV s (l := 14) (h := 34 + f.s1.bs.length) ty_sl25 rfl ⟨_, rfl⟩ ⟨_, rfl⟩ rfl (fun h => by cases h) (by omega) (by omega) (Nat.le_refl _) hc1.2) rfl rfl rfl ?_
      -- R14.3 110 := wirelaw.go:268 call
      refine WL.call (r_call ty_call15 rfl) rfl rfl rfl (ones_ok (s.sub 14 (34 + f.s1.bs.length) s.c) hq1.ok (by rw [hq1.bs_, ipB_len]; omega) (fun w' q => hq1.rd w' (hsr [_, _] w' q)) st) ?_
      rintro _ w ⟨rfl, st⟩
      rw [hq1.bs_, ← ip_ver hfok.xr hfok.o1.byt hip]
      -- R14.4 111 := wirelaw.go:268 binOp
      refine WL.v (by exact r_eql rfl rfl rfl) rfl rfl rfl ?_
      obtain ⟨tb, htb⟩ : ∃ tb, tb = decide (foldV (ipSumV f.x f.s1.bs + f.x 7) = 65535) := ⟨_, rfl⟩
      rw [← htb]
      -- R14.5 15 := wirelaw.go:268 assign
      refine WL.v (by first | exact r_assign (v := .bool _) rfl | exact r_assign rfl) rfl rfl rfl ?_
      refine WL.fin hK1237 (fun _ _ h => h) ?_
      by_cases k2 : f.k = 2
      · have hN : innerN f = 20 + f.s2.bs.length := by unfold innerN; rw [if_pos k2]
        have htcp : tcpP f.t f.s2.bs.length := hin.elim (fun r => by omega) (fun r => r.2.2.elim (fun r => r.2.2) (fun r => absurd k2 r.1))
        have hvv := verV_2 k2
        rw [← htb] at hvv
        refine WC.seq fun K1238 hK1238 => ?_
        refine WC.seq fun K1239 hK1239 => ?_
        -- region 15
        refine WC.region ?_
        -- R15.0 112 := wirelaw.go:269 fieldAddr
        refine WL.v (by exact r_field ty_fld43_0 rfl) rfl rfl rfl ?_
        -- R15.1 113 := wirelaw.go:269 load
        refine WL.v (by first | exact r_load1 ty_one27 rfl (hFrc [] _ st 0 (by decide)) | exact r_load1 ty_one27 rfl (hFrc _ _ st 0 (by decide)) | exact r_load1 ty_one27 rfl (hFrc [_] _ st 0 (by decide)) | exact r_load1 ty_one27 rfl (hFrc [_, _] _ st 0 (by decide)) | exact r_load1 ty_one27 rfl (hFrc [_, _, _] _ st 0 (by decide))) rfl rfl rfl ?_
        refine WL.fin hK1239 (fun _ _ h => h) ?_
        refine WC.block ?_
        refine WC.seq fun K1240 hK1240 => ?_
        -- region 16
        refine WC.region ?_
        -- R16.0 115 := wirelaw.go:270 binOp
        refine WL.v (by exact r_eql rfl rfl (decide_eq_true k2)) rfl rfl rfl ?_
        -- R16.1 114 := wirelaw.go:270 assign
        refine WL.v (by first | exact r_assign (v := .bool _) rfl | exact r_assign rfl) rfl rfl rfl ?_
        refine WL.fin hK1240 (fun _ _ h => h) ?_
        refine WC.condT rfl rfl ?_
        refine WC.seq fun K1241 hK1241 => ?_
        -- region 17
        refine WC.region ?_
        -- R17.0 116 := wirelaw.go:271 fieldAddr
        refine WL.v (by exact r_field ty_fld43_2 rfl) rfl rfl rfl ?_
        -- R17.1 117 := wirelaw.go:271 fieldAddr
        refine WL.v (by exact r_field ty_fld36_8 rfl) rfl rfl rfl ?_
        -- R17.2 118 := wirelaw.go:271 load
        refine WL.v (by first | exact r_loadL (vs := [_, _, _, _]) ty_agg34 rfl ⟨hFrc [] _ st 22 (by decide), hFrc [] _ st 23 (by decide), hFrc [] _ st 24 (by decide), hFrc [] _ st 25 (by decide), trivial⟩ | exact r_loadL (vs := [_, _, _, _]) ty_agg34 rfl ⟨hFrc _ _ st 22 (by decide), hFrc _ _ st 23 (by decide), hFrc _ _ st 24 (by decide), hFrc _ _ st 25 (by decide), trivial⟩ | exact r_loadL (vs := [_, _, _, _]) ty_agg34 rfl ⟨hFrc [_] _ st 22 (by decide), hFrc [_] _ st 23 (by decide), hFrc [_] _ st 24 (by decide), hFrc [_] _ st 25 (by decide), trivial⟩ | exact r_loadL (vs := [_, _, _, _]) ty_agg34 rfl ⟨hFrc [_, _] _ st 22 (by decide), hFrc [_, _] _ st 23 (by decide), hFrc [_, _] _ st 24 (by decide), hFrc [_, _] _ st 25 (by decide), trivial⟩ | exact r_loadL (vs := [_, _, _, _]) ty_agg34 rfl ⟨hFrc [_, _, _] _ st 22 (by decide), hFrc [_, _, _] _ st 23 (by decide), hFrc [_, _, _] _ st 24 (by decide), hFrc [_, _, _] _ st 25 (by decide), trivial⟩) rfl rfl rfl ?_
        -- R17.3 119 := wirelaw.go:271 fieldAddr
        refine WL.v (by exact r_field ty_fld43_2 rfl) rfl rfl rfl ?_
        -- R17.4 120 := wirelaw.go:271 fieldAddr
        refine WL.v (by exact r_field ty_fld36_9 rfl) rfl rfl rfl ?_
        -- R17.5 121 := wirelaw.go:271 load
        refine WL.v (by first | exact r_loadL (vs := [_, _, _, _]) ty_agg34 rfl ⟨hFrc [] _ st 26 (by decide), hFrc [] _ st 27 (by decide), hFrc [] _ st 28 (by decide), hFrc [] _ st 29 (by decide), trivial⟩ | exact r_loadL (vs := [_, _, _, _]) ty_agg34 rfl ⟨hFrc _ _ st 26 (by decide), hFrc _ _ st 27 (by decide), hFrc _ _ st 28 (by decide), hFrc _ _ st 29 (by decide), trivial⟩ | exact r_loadL (vs := [_, _, _, _]) ty_agg34 rfl ⟨hFrc [_] _ st 26 (by decide), hFrc [_] _ st 27 (by decide), hFrc [_] _ st 28 (by decide), hFrc [_] _ st 29 (by decide), trivial⟩ | exact r_loadL (vs := [_, _, _, _]) ty_agg34 rfl ⟨hFrc [_, _] _ st 26 (by decide), hFrc [_, _] _ st 27 (by decide), hFrc [_, _] _ st 28 (by decide), hFrc [_, _] _ st 29 (by decide), trivial⟩ | exact r_loadL (vs := [_, _, _, _]) ty_agg34 rfl ⟨hFrc [_, _, _] _ st 26 (by decide), hFrc [_, _, _] _ st 27 (by decide), hFrc [_, _, _] _ st 28 (by decide), hFrc [_, _, _] _ st 29 (by decide), trivial⟩) rfl rfl rfl ?_
        -- R17.6 122 := wirelaw.go:271 move
        refine WL.v (by first | exact r_move (v := .int _ _) rfl | exact r_move rfl) rfl rfl rfl ?_
        -- R17.7 123 := wirelaw.go:271 move
        refine WL.v (by first | exact r_move (v := .int _ _) rfl | exact r_move rfl) rfl rfl rfl ?_
        -- R17.8 124 := wirelaw.go:271 binOp
        refine WL.v (by exact r_sub (r := ((20 + f.s2.bs.length + f.s4.bs.length : Nat) : Int)) rfl rfl ((wi64 (by omega) (by omega)).trans (by omega))) rfl rfl rfl ?_
        -- R17.9 125 := wirelaw.go:271 convert
        refine WL.v (by exact r_conv (r := ((20 + f.s2.bs.length + f.s4.bs.length : Nat) : Int) % 65536) ty_cv3_30 rfl (wrap16 _)) rfl rfl rfl ?_
        -- R17.10 126 := wirelaw.go:271 call
        refine WL.call (r_call ty_call19 rfl) rfl rfl rfl (pseudoB_ok (f.x 8) (f.x 9) (f.x 10) (f.x 11) (f.x 12) (f.x 13) (f.x 14) (f.x 15) 6 (((20 + f.s2.bs.length + f.s4.bs.length : Nat) : Int) % 65536) hfok.xr.r8 hfok.xr.r9 hfok.xr.r10 hfok.xr.r11 hfok.xr.r12 hfok.xr.r13 hfok.xr.r14 hfok.xr.r15 (by omega) (by omega) st) ?_
        rintro vp w ⟨XP, hbp, st⟩
        have hpv : ∃ pa pn pc, vp = .slice pa pn pc := by
          rcases hbp.form with ⟨rfl, _, _⟩ | ⟨b, c, g, rfl, _⟩
          · exact ⟨_, _, _, rfl⟩
          · exact ⟨_, _, _, rfl⟩
        obtain ⟨pa, pn, pc, rfl⟩ := hpv
        -- R17.11 16 := wirelaw.go:271 assign
        refine WL.v (by first | exact r_assign (v := .slice _ _ _) rfl | exact r_assign rfl) rfl rfl rfl ?_
        refine WL.fin hK1241 (fun _ _ h => h) ?_
        rcases tb with _ | _
        · skip
          -- region 18
          refine WC.region ?_
          -- R18.0 127 := wirelaw.go:272 move
          refine WL.v (by first | exact r_move (v := .bool _) rfl | exact r_move rfl) rfl rfl rfl ?_
          -- R18.1 128 := wirelaw.go:272 move
          refine WL.v (by first | exact r_move (v := .bool _) rfl | exact r_move rfl) rfl rfl rfl ?_
          -- R18.2 129 := wirelaw.go:272 move
          refine WL.no rfl rfl ?_
          -- R18.3 130 := wirelaw.go:272 move
          refine WL.no rfl rfl ?_
          -- R18.4 131 := wirelaw.go:272 move
          refine WL.no rfl rfl ?_
          -- R18.5 132 := wirelaw.go:272 move
          refine WL.no rfl rfl ?_
          -- R18.6 133 := wirelaw.go:272 slice
          refine WL.no rfl rfl ?_
          -- R18.7 134 := wirelaw.go:272 call
          refine WL.no rfl rfl ?_
          -- R18.8 135 := wirelaw.go:272 call
          refine WL.no rfl rfl ?_
          -- R18.9 136 := wirelaw.go:272 binOp
          refine WL.no rfl rfl ?_
          -- R18.10 137 := wirelaw.go:272 pick
          refine WL.v (by first | exact r_pickT (v := .bool _) rfl rfl | exact r_pickF (v := .bool _) rfl rfl) rfl rfl rfl ?_
          -- R18.11 15 := wirelaw.go:272 assign
          refine WL.v (by first | exact r_assign (v := .bool _) rfl | exact r_assign rfl) rfl rfl rfl ?_
          refine WL.fin hK1238 (fun _ _ h => h) ?_
          refine WC.seq fun K1242 hK1242 => ?_
          -- region 21
          refine WC.region ?_
          -- R21.0 149 := wirelaw.go:276 call
          refine WL.call (r_call ty_call20 rfl) rfl rfl rfl (ver_ok b11 0 f hfok hchk (moreL hFr XP) st) ?_
          rintro _ w ⟨rfl, st⟩
          rw [show verV f = false by rw [hvv]; rfl]
          -- R21.1 150 := wirelaw.go:276 move
          refine WL.v (by first | exact r_move (v := .bool _) rfl | exact r_move rfl) rfl rfl rfl ?_
          -- R21.2 151 := wirelaw.go:276 binOp
          refine WL.v (by exact r_beql ty_bool4 rfl rfl (t := true) (by simp)) rfl rfl rfl ?_
          -- R21.3 6 := wirelaw.go:276 assign
          refine WL.v (by first | exact r_assign (v := .bool _) rfl | exact r_assign rfl) rfl rfl rfl ?_
          refine WL.fin hK1242 (fun _ _ h => h) ?_
          refine WC.ret1 Tryd.results14 (fun _ _ h => h) rfl ?_
          exact ⟨_, rfl, rfl, (st_dropL st).drop.drop⟩
        · skip
          -- region 18
          refine WC.region ?_
          -- R18.0 127 := wirelaw.go:272 move
          refine WL.v (by first | exact r_move (v := .bool _) rfl | exact r_move rfl) rfl rfl rfl ?_
          -- R18.1 128 := wirelaw.go:272 move
          refine WL.v (by first | exact r_move (v := .bool _) rfl | exact r_move rfl) rfl rfl rfl ?_
          -- R18.2 129 := wirelaw.go:272 move
          refine WL.v (by first | exact r_move (v := .slice _ _ _) rfl | exact r_move rfl) rfl rfl rfl ?_
          -- R18.3 130 := wirelaw.go:272 move
          refine WL.v (by first | exact r_move (v := .slice _ _ _) rfl | exact r_move rfl) rfl rfl rfl ?_
          -- R18.4 131 := wirelaw.go:272 move
          refine WL.v (by first | exact r_move (v := .int _ _) rfl | exact r_move rfl) rfl rfl rfl ?_
          -- R18.5 132 := wirelaw.go:272 move
          refine WL.v (by first | exact r_move (v := .int _ _) rfl | exact r_move rfl) rfl rfl rfl ?_
          -- R18.6 133 := wirelaw.go:272 slice
          refine WL.v (by exact r_slV s (l := 34 + f.s1.bs.length) (h := 14 + m) ty_sl25 rfl ⟨_, rfl⟩ ⟨_, rfl⟩ rfl (fun h => by cases h) (by omega) (by omega) (Nat.le_refl _) hc2'.2) rfl rfl rfl ?_
          -- R18.7 134 := wirelaw.go:272 call
          refine WL.appW (s := s.sub (34 + f.s1.bs.length) (14 + m) s.c) hbp hq2.ok (hq2.rd w (hsr (XP ++ [_, _]) w (by rw [List.append_assoc]; exact st))) st ty_mk25 ty_sl25 ty_zero5 rfl rfl rfl (by rw [hq2.bs_, List.length_append, innB_len]; simp only [psB, List.length_cons, List.length_nil]; omega) (by rw [hq2.bs_, List.length_append, innB_len]; simp only [psB, List.length_cons, List.length_nil]; omega) rfl rfl rfl ?_
          intro vn XN w hbn st
          rw [hq2.bs_] at hbn
          obtain ⟨sn, rfl, hsn, hsnok, hsnrd⟩ := hbn.bo.sv
          -- R18.8 135 := wirelaw.go:272 call
          refine WL.call (r_call ty_call15 rfl) rfl rfl rfl (ones_ok sn hsnok (by rw [hsn]; simp only [psB, List.length_append, List.length_cons, List.length_nil, innB_len]; omega) (fun w' q => hsnrd q (fun x hx => by simp [hx])) st) ?_
          rintro _ w ⟨rfl, st⟩
          rw [hsn, show innB f = tcpB f.t f.s2.bs by unfold innB; rw [if_pos k2], ← tcp_ver hfok.xr.r8 hfok.xr.r9 hfok.xr.r10 hfok.xr.r11 hfok.xr.r12 hfok.xr.r13 hfok.xr.r14 hfok.xr.r15 hfok.tr hfok.o2.byt hfok.o4.byt htcp]
          -- R18.9 136 := wirelaw.go:272 binOp
          refine WL.v (by exact r_eql rfl rfl rfl) rfl rfl rfl ?_
          obtain ⟨tc, htc⟩ : ∃ tc, tc = decide (foldV (tcpSumV (tcpPs (f.x 8) (f.x 9) (f.x 10) (f.x 11) (f.x 12) (f.x 13) (f.x 14) (f.x 15) f.s2.bs.length f.s4.bs.length) f.t f.s2.bs f.s4.bs + f.t 7) = 65535) := ⟨_, rfl⟩
          rw [← htc]
          -- R18.10 137 := wirelaw.go:272 pick
          refine WL.v (by first | exact r_pickT (v := .bool _) rfl rfl | exact r_pickF (v := .bool _) rfl rfl) rfl rfl rfl ?_
          -- R18.11 15 := wirelaw.go:272 assign
          refine WL.v (by first | exact r_assign (v := .bool _) rfl | exact r_assign rfl) rfl rfl rfl ?_
          refine WL.fin hK1238 (fun _ _ h => h) ?_
          refine WC.seq fun K1243 hK1243 => ?_
          -- region 21
          refine WC.region ?_
          -- R21.0 149 := wirelaw.go:276 call
          refine WL.call (r_call ty_call20 rfl) rfl rfl rfl (ver_ok b11 0 f hfok hchk (moreL hFr XN) st) ?_
          rintro _ w ⟨rfl, st⟩
          rw [show verV f = tc by rw [hvv]; rw [htc]; rfl]
          -- R21.1 150 := wirelaw.go:276 move
          refine WL.v (by first | exact r_move (v := .bool _) rfl | exact r_move rfl) rfl rfl rfl ?_
          -- R21.2 151 := wirelaw.go:276 binOp
          refine WL.v (by exact r_beql ty_bool4 rfl rfl (t := true) (by simp)) rfl rfl rfl ?_
          -- R21.3 6 := wirelaw.go:276 assign
          refine WL.v (by first | exact r_assign (v := .bool _) rfl | exact r_assign rfl) rfl rfl rfl ?_
          refine WL.fin hK1243 (fun _ _ h => h) ?_
          refine WC.ret1 Tryd.results14 (fun _ _ h => h) rfl ?_
          exact ⟨_, rfl, rfl, (st_dropL st).drop.drop⟩
      by_cases k3 : f.k = 3
      · have hN : innerN f = 28 + f.s3.bs.length := by unfold innerN; rw [if_neg k2, if_pos k3]
        have hic : ipP f.z f.s3.bs.length := hin.elim (fun r => by omega) (fun r => r.2.2.elim (fun r => by omega) (fun r => r.2.2.2.1))
        have hvv := verV_3 k3
        rw [← htb] at hvv
        refine WC.seq fun K1244 hK1244 => ?_
        refine WC.seq fun K1245 hK1245 => ?_
        -- region 15
        refine WC.region ?_
        -- R15.0 112 := wirelaw.go:269 fieldAddr
        refine WL.v (by exact r_field ty_fld43_0 rfl) rfl rfl rfl ?_
        -- R15.1 113 := wirelaw.go:269 load
        refine WL.v (by first | exact r_load1 ty_one27 rfl (hFrc [] _ st 0 (by decide)) | exact r_load1 ty_one27 rfl (hFrc _ _ st 0 (by decide)) | exact r_load1 ty_one27 rfl (hFrc [_] _ st 0 (by decide)) | exact r_load1 ty_one27 rfl (hFrc [_, _] _ st 0 (by decide)) | exact r_load1 ty_one27 rfl (hFrc [_, _, _] _ st 0 (by decide))) rfl rfl rfl ?_
        refine WL.fin hK1245 (fun _ _ h => h) ?_
        refine WC.block ?_
        refine WC.seq fun K1246 hK1246 => ?_
        -- region 16
        refine WC.region ?_
        -- R16.0 115 := wirelaw.go:270 binOp
        refine WL.v (by exact r_eql rfl rfl (decide_eq_false k2)) rfl rfl rfl ?_
        -- R16.1 114 := wirelaw.go:270 assign
        refine WL.v (by first | exact r_assign (v := .bool _) rfl | exact r_assign rfl) rfl rfl rfl ?_
        refine WL.fin hK1246 (fun _ _ h => h) ?_
        refine WC.condF rfl rfl ?_
        refine WC.seq fun K1247 hK1247 => ?_
        -- region 19
        refine WC.region ?_
        -- R19.0 139 := wirelaw.go:273 binOp
        refine WL.v (by exact r_eql rfl rfl (decide_eq_true k3)) rfl rfl rfl ?_
        -- R19.1 138 := wirelaw.go:273 assign
        refine WL.v (by first | exact r_assign (v := .bool _) rfl | exact r_assign rfl) rfl rfl rfl ?_
        refine WL.fin hK1247 (fun _ _ h => h) ?_
        refine WC.condT rfl rfl ?_
        rcases tb with _ | _
        · skip
          -- region 20
          refine WC.region ?_
          -- R20.0 140 := wirelaw.go:274 move
          refine WL.v (by first | exact r_move (v := .bool _) rfl | exact r_move rfl) rfl rfl rfl ?_
          -- R20.1 141 := wirelaw.go:274 move
          refine WL.v (by first | exact r_move (v := .bool _) rfl | exact r_move rfl) rfl rfl rfl ?_
          -- R20.2 142 := wirelaw.go:274 move
          refine WL.no rfl rfl ?_
          -- R20.3 143 := wirelaw.go:274 move
          refine WL.no rfl rfl ?_
          -- R20.4 144 := wirelaw.go:274 move
          refine WL.no rfl rfl ?_
          -- R20.5 145 := wirelaw.go:274 slice
          refine WL.no rfl rfl ?_
          -- R20.6 146 := wirelaw.go:274 call
          refine WL.no rfl rfl ?_
          -- R20.7 147 := wirelaw.go:274 binOp
          refine WL.no rfl rfl ?_
          -- R20.8 148 := wirelaw.go:274 pick
          refine WL.v (by first | exact r_pickT (v := .bool _) rfl rfl | exact r_pickF (v := .bool _) rfl rfl) rfl rfl rfl ?_
          -- R20.9 15 := wirelaw.go:274 assign
          refine WL.v (by first | exact r_assign (v := .bool _) rfl | exact r_assign rfl) rfl rfl rfl ?_
          refine WL.fin hK1244 (fun _ _ h => h) ?_
          refine WC.seq fun K1248 hK1248 => ?_
          -- region 21
          refine WC.region ?_
          -- R21.0 149 := wirelaw.go:276 call
          refine WL.call (r_call ty_call20 rfl) rfl rfl rfl (ver_ok b11 0 f hfok hchk (moreL hFr []) st) ?_
          rintro _ w ⟨rfl, st⟩
          rw [show verV f = false by rw [hvv]; rfl]
          -- R21.1 150 := wirelaw.go:276 move
          refine WL.v (by first | exact r_move (v := .bool _) rfl | exact r_move rfl) rfl rfl rfl ?_
          -- R21.2 151 := wirelaw.go:276 binOp
          refine WL.v (by exact r_beql ty_bool4 rfl rfl (t := true) (by simp)) rfl rfl rfl ?_
          -- R21.3 6 := wirelaw.go:276 assign
          refine WL.v (by first | exact r_assign (v := .bool _) rfl | exact r_assign rfl) rfl rfl rfl ?_
          refine WL.fin hK1248 (fun _ _ h => h) ?_
          refine WC.ret1 Tryd.results14 (fun _ _ h => h) rfl ?_
          exact ⟨_, rfl, rfl, st.drop.drop⟩
        · skip
          -- region 20
          refine WC.region ?_
          -- R20.0 140 := wirelaw.go:274 move
          refine WL.v (by first | exact r_move (v := .bool _) rfl | exact r_move rfl) rfl rfl rfl ?_
          -- R20.1 141 := wirelaw.go:274 move
          refine WL.v (by first | exact r_move (v := .bool _) rfl | exact r_move rfl) rfl rfl rfl ?_
          -- R20.2 142 := wirelaw.go:274 move
          refine WL.v (by first | exact r_move (v := .slice _ _ _) rfl | exact r_move rfl) rfl rfl rfl ?_
          -- R20.3 143 := wirelaw.go:274 move
          refine WL.v (by first | exact r_move (v := .int _ _) rfl | exact r_move rfl) rfl rfl rfl ?_
          -- R20.4 144 := wirelaw.go:274 move
          refine WL.v (by first | exact r_move (v := .int _ _) rfl | exact r_move rfl) rfl rfl rfl ?_
          -- R20.5 145 := wirelaw.go:274 slice
          refine WL.v (by exact r_slV s (l := 34 + f.s1.bs.length) (h := 14 + m) ty_sl25 rfl ⟨_, rfl⟩ ⟨_, rfl⟩ rfl (fun h => by cases h) (by omega) (by omega) (Nat.le_refl _) hc2'.2) rfl rfl rfl ?_
          -- R20.6 146 := wirelaw.go:274 call
          refine WL.call (r_call ty_call15 rfl) rfl rfl rfl (ones_ok (s.sub (34 + f.s1.bs.length) (14 + m) s.c) hq2.ok (by rw [hq2.bs_, List.length_append, innB_len]; omega) (fun w' q => hq2.rd w' (hsr [_, _] w' q)) st) ?_
          rintro _ w ⟨rfl, st⟩
          rw [hq2.bs_, show innB f = icB f.y f.z f.s3.bs by unfold innB; rw [if_neg k2, if_pos k3], ← ic_ver hfok.yr hfok.zr hfok.o3.byt hfok.o4.byt hic]
          -- R20.7 147 := wirelaw.go:274 binOp
          refine WL.v (by exact r_eql rfl rfl rfl) rfl rfl rfl ?_
          obtain ⟨tc, htc⟩ : ∃ tc, tc = decide (foldV (icSumV f.y f.z f.s3.bs f.s4.bs + f.y 2) = 65535) := ⟨_, rfl⟩
          rw [← htc]
          -- R20.8 148 := wirelaw.go:274 pick
          refine WL.v (by first | exact r_pickT (v := .bool _) rfl rfl | exact r_pickF (v := .bool _) rfl rfl) rfl rfl rfl ?_
          -- R20.9 15 := wirelaw.go:274 assign
          refine WL.v (by first | exact r_assign (v := .bool _) rfl | exact r_assign rfl) rfl rfl rfl ?_
          refine WL.fin hK1244 (fun _ _ h => h) ?_
          refine WC.seq fun K1249 hK1249 => ?_
          -- region 21
          refine WC.region ?_
          -- R21.0 149 := wirelaw.go:276 call
          refine WL.call (r_call ty_call20 rfl) rfl rfl rfl (ver_ok b11 0 f hfok hchk (moreL hFr []) st) ?_
          rintro _ w ⟨rfl, st⟩
          rw [show verV f = tc by rw [hvv]; rw [htc]; rfl]
          -- R21.1 150 := wirelaw.go:276 move
          refine WL.v (by first | exact r_move (v := .bool _) rfl | exact r_move rfl) rfl rfl rfl ?_
          -- R21.2 151 := wirelaw.go:276 binOp
          refine WL.v (by exact r_beql ty_bool4 rfl rfl (t := true) (by simp)) rfl rfl rfl ?_
          -- R21.3 6 := wirelaw.go:276 assign
          refine WL.v (by first | exact r_assign (v := .bool _) rfl | exact r_assign rfl) rfl rfl rfl ?_
          refine WL.fin hK1249 (fun _ _ h => h) ?_
          refine WC.ret1 Tryd.results14 (fun _ _ h => h) rfl ?_
          exact ⟨_, rfl, rfl, st.drop.drop⟩
      have hvv := verV_1 k0 k2 k3
      rw [← htb] at hvv
      refine WC.seq fun K1250 hK1250 => ?_
      refine WC.seq fun K1251 hK1251 => ?_
      -- region 15
      refine WC.region ?_
      -- R15.0 112 := wirelaw.go:269 fieldAddr
      refine WL.v (by exact r_field ty_fld43_0 rfl) rfl rfl rfl ?_
      -- R15.1 113 := wirelaw.go:269 load
      refine WL.v (by first | exact r_load1 ty_one27 rfl (hFrc [] _ st 0 (by decide)) | exact r_load1 ty_one27 rfl (hFrc _ _ st 0 (by decide)) | exact r_load1 ty_one27 rfl (hFrc [_] _ st 0 (by decide)) | exact r_load1 ty_one27 rfl (hFrc [_, _] _ st 0 (by decide)) | exact r_load1 ty_one27 rfl (hFrc [_, _, _] _ st 0 (by decide))) rfl rfl rfl ?_
      refine WL.fin hK1251 (fun _ _ h => h) ?_
      refine WC.block ?_
      refine WC.seq fun K1252 hK1252 => ?_
      -- region 16
      refine WC.region ?_
      -- R16.0 115 := wirelaw.go:270 binOp
      refine WL.v (by exact r_eql rfl rfl (decide_eq_false k2)) rfl rfl rfl ?_
      -- R16.1 114 := wirelaw.go:270 assign
      refine WL.v (by first | exact r_assign (v := .bool _) rfl | exact r_assign rfl) rfl rfl rfl ?_
      refine WL.fin hK1252 (fun _ _ h => h) ?_
      refine WC.condF rfl rfl ?_
      refine WC.seq fun K1253 hK1253 => ?_
      -- region 19
      refine WC.region ?_
      -- R19.0 139 := wirelaw.go:273 binOp
      refine WL.v (by exact r_eql rfl rfl (decide_eq_false k3)) rfl rfl rfl ?_
      -- R19.1 138 := wirelaw.go:273 assign
      refine WL.v (by first | exact r_assign (v := .bool _) rfl | exact r_assign rfl) rfl rfl rfl ?_
      refine WL.fin hK1253 (fun _ _ h => h) ?_
      refine WC.condF rfl rfl ?_
      refine WC.skipF hK1250 (fun _ _ h => h) ?_
      refine WC.seq fun K1254 hK1254 => ?_
      -- region 21
      refine WC.region ?_
      -- R21.0 149 := wirelaw.go:276 call
      refine WL.call (r_call ty_call20 rfl) rfl rfl rfl (ver_ok b11 0 f hfok hchk (moreL hFr []) st) ?_
      rintro _ w ⟨rfl, st⟩
      rw [show verV f = tb by rw [hvv]]
      -- R21.1 150 := wirelaw.go:276 move
      refine WL.v (by first | exact r_move (v := .bool _) rfl | exact r_move rfl) rfl rfl rfl ?_
      -- R21.2 151 := wirelaw.go:276 binOp
      refine WL.v (by exact r_beql ty_bool4 rfl rfl (t := true) (by simp)) rfl rfl rfl ?_
      -- R21.3 6 := wirelaw.go:276 assign
      refine WL.v (by first | exact r_assign (v := .bool _) rfl | exact r_assign rfl) rfl rfl rfl ?_
      refine WL.fin hK1254 (fun _ _ h => h) ?_
      refine WC.ret1 Tryd.results14 (fun _ _ h => h) rfl ?_
      exact ⟨_, rfl, rfl, st.drop.drop⟩
  refine WC.seq fun K1255 hK1255 => ?_
  refine WC.seq fun K1256 hK1256 => ?_
  -- region 5
  refine WC.region ?_
  -- R5.0 51 := wirelaw.go:256 move
  refine WL.v (by first | exact r_move (v := .slice _ _ _) rfl | exact r_move rfl) rfl rfl rfl ?_
  -- R5.1 52 := wirelaw.go:256 call
  refine WL.v (by exact r_len ty_usl25 rfl) rfl rfl rfl ?_
  -- R5.2 53 := wirelaw.go:256 binOp
  refine WL.v (by first | exact r_geq rfl rfl (decide_eq_true (by omega)) | exact r_geq rfl rfl (decide_eq_false (by omega)) | exact r_geq rfl rfl rfl) rfl rfl rfl ?_
  refine WL.fin hK1256 (fun _ _ h => h) ?_
  refine WC.condF rfl rfl ?_
  refine WC.skipF hK1255 (fun _ _ h => h) ?_
  refine WC.seq fun K1257 hK1257 => ?_
  -- region 9
  refine WC.region ?_
  -- R9.0 81 := wirelaw.go:262 move
  refine WL.v (by first | exact r_move (v := .slice _ _ _) rfl | exact r_move rfl) rfl rfl rfl ?_
  -- R9.1 82 := wirelaw.go:262 call
  refine WL.call (r_call ty_call10 rfl) rfl rfl rfl (parse_ok hE s hsok (by omega) (fun its w' q => hsr (its ++ [_]) w' (by rw [List.append_assoc]; exact q)) st) ?_
  rintro pv w ⟨⟨k, e, x, t, y, z, s1, s2, s3, s4, s5, er, rfl, hpo⟩, st⟩
  -- R9.2 80 := wirelaw.go:262 move
  refine WL.v (by first | exact r_move (v := .tuple _) rfl | exact r_move rfl) rfl rfl rfl ?_
  -- R9.3 83 := wirelaw.go:262 extract
  refine WL.v (by first | exact r_extract (v := .agg _) rfl rfl | exact r_extract rfl rfl) rfl rfl rfl ?_
  -- R9.4 84 := wirelaw.go:262 extract
  refine WL.v (by first | exact r_extract (v := .nilIface) rfl rfl | exact r_extract (v := .iface _ _) rfl rfl | exact r_extract rfl rfl) rfl rfl rfl ?_
  -- R9.5 11 := wirelaw.go:262 alloc
  refine WL.alloc (m := 64) st ty_zero43 rfl rfl rfl ?_
  intro b11 w st
  -- R9.6 None := wirelaw.go:262 store
  first | refine WL.storeW (vs := [_, _, _, _, _, _, _, _, _, _, _, _, _, _, _, _, _, _, _, _, _, _, _, _, _, _, _, _, _, _, _, _, _, _, _, _, _, _, _, _, _, _, _, _, _, _, _, _, _, _, _, _, _, _, _, _, _, _, _, _, _, _, _, _]) st ty_agg43 rfl rfl rfl rfl rfl rfl ?_ | refine WL.storeL (vs := [_, _, _, _, _, _, _, _, _, _, _, _, _, _, _, _, _, _, _, _, _, _, _, _, _, _, _, _, _, _, _, _, _, _, _, _, _, _, _, _, _, _, _, _, _, _, _, _, _, _, _, _, _, _, _, _, _, _, _, _, _, _, _, _]) st ty_agg43 rfl rfl rfl rfl (by first | decide | omega) rfl rfl ?_ | refine WL.storeW (vs := [_, _, _, _, _, _, _, _, _, _, _, _, _, _, _, _, _, _, _, _, _, _, _, _, _, _, _, _, _, _, _, _, _, _, _, _, _, _, _, _, _, _, _, _, _, _, _, _, _, _, _, _, _, _, _, _, _, _, _, _, _, _, _, _]) st.front1 ty_agg43 rfl rfl rfl rfl rfl rfl ?_ | refine WL.storeL (vs := [_, _, _, _, _, _, _, _, _, _, _, _, _, _, _, _, _, _, _, _, _, _, _, _, _, _, _, _, _, _, _, _, _, _, _, _, _, _, _, _, _, _, _, _, _, _, _, _, _, _, _, _, _, _, _, _, _, _, _, _, _, _, _, _]) st.front1 ty_agg43 rfl rfl rfl rfl (by first | decide | omega) rfl rfl ?_ | refine WL.storeW (vs := [_, _, _, _, _, _, _, _, _, _, _, _, _, _, _, _, _, _, _, _, _, _, _, _, _, _, _, _, _, _, _, _, _, _, _, _, _, _, _, _, _, _, _, _, _, _, _, _, _, _, _, _, _, _, _, _, _, _, _, _, _, _, _, _]) st.front2 ty_agg43 rfl rfl rfl rfl rfl rfl ?_ | refine WL.storeL (vs := [_, _, _, _, _, _, _, _, _, _, _, _, _, _, _, _, _, _, _, _, _, _, _, _, _, _, _, _, _, _, _, _, _, _, _, _, _, _, _, _, _, _, _, _, _, _, _, _, _, _, _, _, _, _, _, _, _, _, _, _, _, _, _, _]) st.front2 ty_agg43 rfl rfl rfl rfl (by first | decide | omega) rfl rfl ?_ | refine WL.storeW (vs := [_, _, _, _, _, _, _, _, _, _, _, _, _, _, _, _, _, _, _, _, _, _, _, _, _, _, _, _, _, _, _, _, _, _, _, _, _, _, _, _, _, _, _, _, _, _, _, _, _, _, _, _, _, _, _, _, _, _, _, _, _, _, _, _]) st.front3 ty_agg43 rfl rfl rfl rfl rfl rfl ?_ | refine WL.storeL (vs := [_, _, _, _, _, _, _, _, _, _, _, _, _, _, _, _, _, _, _, _, _, _, _, _, _, _, _, _, _, _, _, _, _, _, _, _, _, _, _, _, _, _, _, _, _, _, _, _, _, _, _, _, _, _, _, _, _, _, _, _, _, _, _, _]) st.front3 ty_agg43 rfl rfl rfl rfl (by first | decide | omega) rfl rfl ?_ | refine WL.storeW (vs := [_, _, _, _, _, _, _, _, _, _, _, _, _, _, _, _, _, _, _, _, _, _, _, _, _, _, _, _, _, _, _, _, _, _, _, _, _, _, _, _, _, _, _, _, _, _, _, _, _, _, _, _, _, _, _, _, _, _, _, _, _, _, _, _]) st.front4 ty_agg43 rfl rfl rfl rfl rfl rfl ?_ | refine WL.storeL (vs := [_, _, _, _, _, _, _, _, _, _, _, _, _, _, _, _, _, _, _, _, _, _, _, _, _, _, _, _, _, _, _, _, _, _, _, _, _, _, _, _, _, _, _, _, _, _, _, _, _, _, _, _, _, _, _, _, _, _, _, _, _, _, _, _]) st.front4 ty_agg43 rfl rfl rfl rfl (by first | decide | omega) rfl rfl ?_ | refine WL.storeW (vs := [_, _, _, _, _, _, _, _, _, _, _, _, _, _, _, _, _, _, _, _, _, _, _, _, _, _, _, _, _, _, _, _, _, _, _, _, _, _, _, _, _, _, _, _, _, _, _, _, _, _, _, _, _, _, _, _, _, _, _, _, _, _, _, _]) st.front5 ty_agg43 rfl rfl rfl rfl rfl rfl ?_ | refine WL.storeL (vs := [_, _, _, _, _, _, _, _, _, _, _, _, _, _, _, _, _, _, _, _, _, _, _, _, _, _, _, _, _, _, _, _, _, _, _, _, _, _, _, _, _, _, _, _, _, _, _, _, _, _, _, _, _, _, _, _, _, _, _, _, _, _, _, _]) st.front5 ty_agg43 rfl rfl rfl rfl (by first | decide | omega) rfl rfl ?_ | refine WL.storeW (vs := [_, _, _, _, _, _, _, _, _, _, _, _, _, _, _, _, _, _, _, _, _, _, _, _, _, _, _, _, _, _, _, _, _, _, _, _, _, _, _, _, _, _, _, _, _, _, _, _, _, _, _, _, _, _, _, _, _, _, _, _, _, _, _, _]) st.front6 ty_agg43 rfl rfl rfl rfl rfl rfl ?_ | refine WL.storeL (vs := [_, _, _, _, _, _, _, _, _, _, _, _, _, _, _, _, _, _, _, _, _, _, _, _, _, _, _, _, _, _, _, _, _, _, _, _, _, _, _, _, _, _, _, _, _, _, _, _, _, _, _, _, _, _, _, _, _, _, _, _, _, _, _, _]) st.front6 ty_agg43 rfl rfl rfl rfl (by first | decide | omega) rfl rfl ?_ | refine WL.storeW (vs := [_, _, _, _, _, _, _, _, _, _, _, _, _, _, _, _, _, _, _, _, _, _, _, _, _, _, _, _, _, _, _, _, _, _, _, _, _, _, _, _, _, _, _, _, _, _, _, _, _, _, _, _, _, _, _, _, _, _, _, _, _, _, _, _]) st.front7 ty_agg43 rfl rfl rfl rfl rfl rfl ?_ | refine WL.storeL (vs := [_, _, _, _, _, _, _, _, _, _, _, _, _, _, _, _, _, _, _, _, _, _, _, _, _, _, _, _, _, _, _, _, _, _, _, _, _, _, _, _, _, _, _, _, _, _, _, _, _, _, _, _, _, _, _, _, _, _, _, _, _, _, _, _]) st.front7 ty_agg43 rfl rfl rfl rfl (by first | decide | omega) rfl rfl ?_ | refine WL.storeW (vs := [_, _, _, _, _, _, _, _, _, _, _, _, _, _, _, _, _, _, _, _, _, _, _, _, _, _, _, _, _, _, _, _, _, _, _, _, _, _, _, _, _, _, _, _, _, _, _, _, _, _, _, _, _, _, _, _, _, _, _, _, _, _, _, _]) st.front8 ty_agg43 rfl rfl rfl rfl rfl rfl ?_ | refine WL.storeL (vs := [_, _, _, _, _, _, _, _, _, _, _, _, _, _, _, _, _, _, _, _, _, _, _, _, _, _, _, _, _, _, _, _, _, _, _, _, _, _, _, _, _, _, _, _, _, _, _, _, _, _, _, _, _, _, _, _, _, _, _, _, _, _, _, _]) st.front8 ty_agg43 rfl rfl rfl rfl (by first | decide | omega) rfl rfl ?_
  intro w st
  -- R9.7 12 := wirelaw.go:262 assign
  refine WL.v (by first | exact r_assign (v := .nilIface) rfl | exact r_assign (v := .iface _ _) rfl | exact r_assign rfl) rfl rfl rfl ?_
  refine WL.fin hK1257 (fun _ _ h => h) ?_
  rcases hpo with ⟨T, u, rfl⟩ | ⟨rfl, hps, hpd⟩
  · skip
    refine WC.seq fun K1258 hK1258 => ?_
    refine WC.seq fun K1259 hK1259 => ?_
    -- region 10
    refine WC.region ?_
    -- R10.0 85 := wirelaw.go:263 move
    refine WL.v (by first | exact r_move (v := .nilIface) rfl | exact r_move (v := .iface _ _) rfl | exact r_move rfl) rfl rfl rfl ?_
    -- R10.1 86 := wirelaw.go:263 binOp
    refine WL.v (by first | exact r_nil_neq ty_ifc47 rfl | exact r_some_neq ty_ifc47 rfl) rfl rfl rfl ?_
    -- R10.2 87 := wirelaw.go:263 move
    refine WL.v (by first | exact r_move (v := .bool _) rfl | exact r_move rfl) rfl rfl rfl ?_
    -- R10.3 88 := wirelaw.go:263 fieldAddr
    refine WL.no rfl rfl ?_
    -- R10.4 89 := wirelaw.go:263 load
    refine WL.no rfl rfl ?_
    -- R10.5 90 := wirelaw.go:263 binOp
    refine WL.no rfl rfl ?_
    -- R10.6 91 := wirelaw.go:263 pick
    refine WL.v (by first | exact r_pickT (v := .bool _) rfl rfl | exact r_pickF (v := .bool _) rfl rfl) rfl rfl rfl ?_
    refine WL.fin hK1259 (fun _ _ h => h) ?_
    refine WC.condT rfl rfl ?_
    refine WC.seq fun K1260 hK1260 => ?_
    -- region 11
    refine WC.region ?_
    -- R11.0 92 := wirelaw.go:264 move
    refine WL.v (by first | exact r_move (v := .nilIface) rfl | exact r_move (v := .iface _ _) rfl | exact r_move rfl) rfl rfl rfl ?_
    -- R11.1 93 := wirelaw.go:264 binOp
    refine WL.v (by first | exact r_nil_neq ty_ifc47 rfl | exact r_some_neq ty_ifc47 rfl) rfl rfl rfl ?_
    -- R11.2 94 := wirelaw.go:264 move
    refine WL.v (by first | exact r_move (v := .bool _) rfl | exact r_move rfl) rfl rfl rfl ?_
    -- R11.3 95 := wirelaw.go:264 call
    refine WL.no rfl rfl ?_
    -- R11.4 96 := wirelaw.go:264 pick
    refine WL.v (by first | exact r_pickT (v := .bool _) rfl rfl | exact r_pickF (v := .bool _) rfl rfl) rfl rfl rfl ?_
    -- R11.5 6 := wirelaw.go:264 assign
    refine WL.v (by first | exact r_assign (v := .bool _) rfl | exact r_assign rfl) rfl rfl rfl ?_
    refine WL.fin hK1260 (fun _ _ h => h) ?_
    refine WC.ret1 Tryd.results14 (fun _ _ h => h) rfl ?_
    exact ⟨_, rfl, rfl, st.drop.drop⟩
  obtain ⟨hfok, hchk, hfb⟩ := parsed_good hsok.byt (by omega) ⟨k, e, x, t, y, z, s1, s2, s3, s4, s5⟩ hps.p1.ok hps.p2.ok hps.p3.ok hps.p4.ok hps.p5.ok hpd
  have st := st_nrm (L' := (FD.mk k e x t y z s1 s2 s3 s4 s5).cs) rfl st
  obtain ⟨f, hf⟩ : ∃ f, f = FD.mk k e x t y z s1 s2 s3 s4 s5 := ⟨_, rfl⟩
  have hfrd : ∀ l w', S0 w0 (l ++ (XI ++ L)) w' → f.rd w' := fun l w' q => by
    rw [hf]
    have := hsr l w' q
    exact ⟨hps.p1.rd w' this, hps.p2.rd w' this, hps.p3.rd w' this, hps.p4.rd w' this, hps.p5.rd w' this⟩
  rw [← hf] at st hfok hchk hfb
  clear hps hpd hf
  have hchk' := hchk
  obtain ⟨k4, _, hP2⟩ := hchk'
  have hFr : ∀ its w', S0 w0 (its ++ ((b11, Row 43 64 (nth f.cs)) :: (b5, Row 45 68 (nth (opC kd fo d.v off val))) :: (XI ++ L))) w' → FrAt w' b11 0 f := fun its w' q => ⟨cf_row (t := 43) q (by simp), hfrd (its ++ [_, _]) w' (by rw [List.append_assoc]; exact q)⟩
  have hFrc := fun its w' q => (hFr its w' q).c
  by_cases k0 : f.k = 0
  · skip
    refine WC.seq fun K1261 hK1261 => ?_
    refine WC.seq fun K1262 hK1262 => ?_
    -- region 10
    refine WC.region ?_
    -- R10.0 85 := wirelaw.go:263 move
    refine WL.v (by first | exact r_move (v := .nilIface) rfl | exact r_move (v := .iface _ _) rfl | exact r_move rfl) rfl rfl rfl ?_
    -- R10.1 86 := wirelaw.go:263 binOp
    refine WL.v (by first | exact r_nil_neq ty_ifc47 rfl | exact r_some_neq ty_ifc47 rfl) rfl rfl rfl ?_
    -- R10.2 87 := wirelaw.go:263 move
    refine WL.v (by first | exact r_move (v := .bool _) rfl | exact r_move rfl) rfl rfl rfl ?_
    -- R10.3 88 := wirelaw.go:263 fieldAddr
    refine WL.v (by exact r_field ty_fld43_0 rfl) rfl rfl rfl ?_
    -- R10.4 89 := wirelaw.go:263 load
    refine WL.v (by first | exact r_load1 ty_one27 rfl (hFrc [] _ st 0 (by decide)) | exact r_load1 ty_one27 rfl (hFrc _ _ st 0 (by decide)) | exact r_load1 ty_one27 rfl (hFrc [_] _ st 0 (by decide)) | exact r_load1 ty_one27 rfl (hFrc [_, _] _ st 0 (by decide)) | exact r_load1 ty_one27 rfl (hFrc [_, _, _] _ st 0 (by decide))) rfl rfl rfl ?_
    -- R10.5 90 := wirelaw.go:263 binOp
    refine WL.v (by exact r_eql rfl rfl (decide_eq_true k0)) rfl rfl rfl ?_
    -- R10.6 91 := wirelaw.go:263 pick
    refine WL.v (by first | exact r_pickT (v := .bool _) rfl rfl | exact r_pickF (v := .bool _) rfl rfl) rfl rfl rfl ?_
    refine WL.fin hK1262 (fun _ _ h => h) ?_
    refine WC.condT rfl rfl ?_
    refine WC.seq fun K1263 hK1263 => ?_
    -- region 11
    refine WC.region ?_
    -- R11.0 92 := wirelaw.go:264 move
    refine WL.v (by first | exact r_move (v := .nilIface) rfl | exact r_move (v := .iface _ _) rfl | exact r_move rfl) rfl rfl rfl ?_
    -- R11.1 93 := wirelaw.go:264 binOp
    refine WL.v (by first | exact r_nil_neq ty_ifc47 rfl | exact r_some_neq ty_ifc47 rfl) rfl rfl rfl ?_
    -- R11.2 94 := wirelaw.go:264 move
    refine WL.v (by first | exact r_move (v := .bool _) rfl | exact r_move rfl) rfl rfl rfl ?_
    -- R11.3 95 := wirelaw.go:264 call
    refine WL.call (r_call ty_call20 rfl) rfl rfl rfl (ver_ok b11 0 f hfok hchk hFr st) ?_
    rintro _ w ⟨rfl, st⟩
    rw [show verV f = true by simp [verV, k0]]
    -- R11.4 96 := wirelaw.go:264 pick
    refine WL.v (by first | exact r_pickT (v := .bool _) rfl rfl | exact r_pickF (v := .bool _) rfl rfl) rfl rfl rfl ?_
    -- R11.5 6 := wirelaw.go:264 assign
    refine WL.v (by first | exact r_assign (v := .bool _) rfl | exact r_assign rfl) rfl rfl rfl ?_
    refine WL.fin hK1263 (fun _ _ h => h) ?_
    refine WC.ret1 Tryd.results14 (fun _ _ h => h) rfl ?_
    exact ⟨_, rfl, rfl, st.drop.drop⟩
  obtain ⟨_, _, hip, hin, hx1⟩ := hP2.resolve_left fun q => k0 q.1
  obtain ⟨m, hm⟩ : ∃ m, m = 20 + f.s1.bs.length + innerN f + f.s4.bs.length := ⟨_, rfl⟩
  rw [← hm] at hx1
  have hc1 := cut1 k0 hfb
  have hc2' := cut2 k0 hfb hm
  have hx1r := hfok.xr.r1
  have hq1 := Part.sub hsok (l := 14) (h := 34 + f.s1.bs.length) (m := s.c) (by omega) hc1.2 (by omega) (Nat.le_refl _)
  have hq2 := Part.sub hsok (l := 34 + f.s1.bs.length) (h := 14 + m) (m := s.c) (by omega) hc2'.2 (by omega) (Nat.le_refl _)
  rw [hc1.1] at hq1
  rw [hc2'.1] at hq2
  refine WC.seq fun K1264 hK1264 => ?_
  refine WC.seq fun K1265 hK1265 => ?_
  -- region 10
  refine WC.region ?_
  -- R10.0 85 := wirelaw.go:263 move
  refine WL.v (by first | exact r_move (v := .nilIface) rfl | exact r_move (v := .iface _ _) rfl | exact r_move rfl) rfl rfl rfl ?_
  -- R10.1 86 := wirelaw.go:263 binOp
  refine WL.v (by first | exact r_nil_neq ty_ifc47 rfl | exact r_some_neq ty_ifc47 rfl) rfl rfl rfl ?_
  -- R10.2 87 := wirelaw.go:263 move
  refine WL.v (by first | exact r_move (v := .bool _) rfl | exact r_move rfl) rfl rfl rfl ?_
  -- R10.3 88 := wirelaw.go:263 fieldAddr
  refine WL.v (by exact r_field ty_fld43_0 rfl) rfl rfl rfl ?_
  -- R10.4 89 := wirelaw.go:263 load
  refine WL.v (by first | exact r_load1 ty_one27 rfl (hFrc [] _ st 0 (by decide)) | exact r_load1 ty_one27 rfl (hFrc _ _ st 0 (by decide)) | exact r_load1 ty_one27 rfl (hFrc [_] _ st 0 (by decide)) | exact r_load1 ty_one27 rfl (hFrc [_, _] _ st 0 (by decide)) | exact r_load1 ty_one27 rfl (hFrc [_, _, _] _ st 0 (by decide))) rfl rfl rfl ?_
  -- R10.5 90 := wirelaw.go:263 binOp
  refine WL.v (by exact r_eql rfl rfl (decide_eq_false k0)) rfl rfl rfl ?_
  -- R10.6 91 := wirelaw.go:263 pick
  refine WL.v (by first | exact r_pickT (v := .bool _) rfl rfl | exact r_pickF (v := .bool _) rfl rfl) rfl rfl rfl ?_
  refine WL.fin hK1265 (fun _ _ h => h) ?_
  refine WC.condF rfl rfl ?_
  refine WC.skipF hK1264 (fun _ _ h => h) ?_
  refine WC.seq fun K1266 hK1266 => ?_
  -- region 12
  refine WC.region ?_
  -- R12.0 97 := wirelaw.go:266 fieldAddr
  refine WL.v (by exact r_field ty_fld43_2 rfl) rfl rfl rfl ?_
  -- R12.1 98 := wirelaw.go:266 fieldAddr
  refine WL.v (by exact r_field ty_fld36_10 rfl) rfl rfl rfl ?_
  -- R12.2 99 := wirelaw.go:266 load
  refine WL.v (by first | exact r_load1 ty_one25 rfl (hFrc [] _ st 30 (by decide)) | exact r_load1 ty_one25 rfl (hFrc _ _ st 30 (by decide)) | exact r_load1 ty_one25 rfl (hFrc [_] _ st 30 (by decide)) | exact r_load1 ty_one25 rfl (hFrc [_, _] _ st 30 (by decide)) | exact r_load1 ty_one25 rfl (hFrc [_, _, _] _ st 30 (by decide))) rfl rfl rfl ?_
  -- R12.3 100 := wirelaw.go:266 call
  refine WL.v (by exact r_len ty_usl25 rfl) rfl rfl rfl ?_
  -- R12.4 101 := wirelaw.go:266 binOp
  refine WL.v (by exact r_add (r := ((34 + f.s1.bs.length : Nat) : Int)) rfl rfl ((wi64 (by omega) (by omega)).trans (by omega))) rfl rfl rfl ?_
  -- R12.5 13 := wirelaw.go:266 assign
  refine WL.v (by first | exact r_assign (v := .int _ _) rfl | exact r_assign rfl) rfl rfl rfl ?_
  refine WL.fin hK1266 (fun _ _ h => h) ?_
  refine WC.seq fun K1267 hK1267 => ?_
  -- region 13
  refine WC.region ?_
  -- R13.0 102 := wirelaw.go:267 fieldAddr
  refine WL.v (by exact r_field ty_fld43_2 rfl) rfl rfl rfl ?_
  -- R13.1 103 := wirelaw.go:267 fieldAddr
  refine WL.v (by exact r_field ty_fld36_1 rfl) rfl rfl rfl ?_
  -- R13.2 104 := wirelaw.go:267 load
  refine WL.v (by first | exact r_load1 ty_one30 rfl (hFrc [] _ st 15 (by decide)) | exact r_load1 ty_one30 rfl (hFrc _ _ st 15 (by decide)) | exact r_load1 ty_one30 rfl (hFrc [_] _ st 15 (by decide)) | exact r_load1 ty_one30 rfl (hFrc [_, _] _ st 15 (by decide)) | exact r_load1 ty_one30 rfl (hFrc [_, _, _] _ st 15 (by decide))) rfl rfl rfl ?_
  -- R13.3 105 := wirelaw.go:267 convert
  refine WL.v (by exact r_conv (r := (m : Int)) ty_cv30_3 rfl ((congrArg IntKind.i64.wrap hx1).trans (wi64 (by omega) (by omega)))) rfl rfl rfl ?_
  -- R13.4 106 := wirelaw.go:267 binOp
  refine WL.v (by exact r_add (r := ((14 + m : Nat) : Int)) rfl rfl ((wi64 (by omega) (by omega)).trans (by omega))) rfl rfl rfl ?_
  -- R13.5 14 := wirelaw.go:267 assign
  refine WL.v (by first | exact r_assign (v := .int _ _) rfl | exact r_assign rfl) rfl rfl rfl ?_
  refine WL.fin hK1267 (fun _ _ h => h) ?_
  refine WC.seq fun K1268 hK1268 => ?_
  -- region 14
  refine WC.region ?_
  -- R14.0 107 := wirelaw.go:268 move
  refine WL.v (by first | exact r_move (v := .slice _ _ _) rfl | exact r_move rfl) rfl rfl rfl ?_
  -- R14.1 108 := wirelaw.go:268 move
  refine WL.v (by first | exact r_move (v := .int _ _) rfl | exact r_move rfl) rfl rfl rfl ?_
  -- R14.2 109 := wirelaw.go:268 slice
  refine WL.v (by exact r_slV s (l := 14) (h := 34 + f.s1.bs.length) ty_sl25 rfl ⟨_, rfl⟩ ⟨_, rfl⟩ rfl (fun h => by cases h) (by omega) (by omega) (Nat.le_refl _) hc1.2) rfl rfl rfl ?_
  -- R14.3 110 := wirelaw.go:268 call
  refine WL.call (r_call ty_call15 rfl) rfl rfl rfl (ones_ok (s.sub 14 (34 + f.s1.bs.length) s.c) hq1.ok (by rw [hq1.bs_, ipB_len]; omega) (fun w' q => hq1.rd w' (hsr [_, _] w' q)) st) ?_
  rintro _ w ⟨rfl, st⟩
  rw [hq1.bs_, ← ip_ver hfok.xr hfok.o1.byt hip]
  -- R14.4 111 := wirelaw.go:268 binOp
  refine WL.v (by exact r_eql rfl rfl rfl) rfl rfl rfl ?_
  obtain ⟨tb, htb⟩ : ∃ tb, tb = decide (foldV (ipSumV f.x f.s1.bs + f.x 7) = 65535) := ⟨_, rfl⟩
  rw [← htb]
  -- R14.5 15 := wirelaw.go:268 assign
  refine WL.v (by first | exact r_assign (v := .bool _) rfl | exact r_assign rfl) rfl rfl rfl ?_
  refine WL.fin hK1268 (fun _ _ h => h) ?_
  by_cases k2 : f.k = 2
  · have hN : innerN f = 20 + f.s2.bs.length := by unfold innerN; rw [if_pos k2]
    have htcp : tcpP f.t f.s2.bs.length := hin.elim (fun r => by omega) (fun r => r.2.2.elim (fun r => r.2.2) (fun r => absurd k2 r.1))
    have hvv := verV_2 k2
    rw [← htb] at hvv
    refine WC.seq fun K1269 hK1269 => ?_
    refine WC.seq fun K1270 hK1270 => ?_
    -- region 15
    refine WC.region ?_
    -- R15.0 112 := wirelaw.go:269 fieldAddr
    refine WL.v (by exact r_field ty_fld43_0 rfl) rfl rfl rfl ?_
    -- R15.1 113 := wirelaw.go:269 load
    refine WL.v (by first | exact r_load1 ty_one27 rfl (hFrc [] _ st 0 (by decide)) | exact r_load1 ty_one27 rfl (hFrc _ _ st 0 (by decide)) | exact r_load1 ty_one27 rfl (hFrc [_] _ st 0 (by decide)) | exact r_load1 ty_one27 rfl (hFrc [_, _] _ st 0 (by decide)) | exact r_load1 ty_one27 rfl (hFrc [_, _, _] _ st 0 (by decide))) rfl rfl rfl ?_
    refine WL.fin hK1270 (fun _ _ h => h) ?_
    refine WC.block ?_
    refine WC.seq fun K1271 hK1271 => ?_
    -- region 16
    refine WC.region ?_
    -- R16.0 115 := wirelaw.go:270 binOp
    refine WL.v (by exact r_eql rfl rfl (decide_eq_true k2)) rfl rfl rfl ?_
    -- R16.1 114 := wirelaw.go:270 assign
    refine WL.v (by first | exact r_assign (v := .bool _) rfl | exact r_assign rfl) rfl rfl rfl ?_
    refine WL.fin hK1271 (fun _ _ h => h) ?_
    refine WC.condT rfl rfl ?_
    refine WC.seq fun K1272 hK1272 => ?_
    -- region 17
    refine WC.region ?_
    -- R17.0 116 := wirelaw.go:271 fieldAddr
    refine WL.v (by exact r_field ty_fld43_2 rfl) rfl rfl rfl ?_
    -- R17.1 117 := wirelaw.go:271 fieldAddr
    refine WL.v (by exact r_field ty_fld36_8 rfl) rfl rfl rfl ?_
    -- R17.2 118 := wirelaw.go:271 load
    refine WL.v (by first | exact r_loadL (vs := [_, _, _, _]) ty_agg34 rfl ⟨hFrc [] _ st 22 (by decide), hFrc [] _ st 23 (by decide), hFrc [] _ st 24 (by decide), hFrc [] _ st 25 (by decide), trivial⟩ | exact r_loadL (vs := [_, _, _, _]) ty_agg34 rfl ⟨hFrc _ _ st 22 (by decide), hFrc _ _ st 23 (by decide), hFrc _ _ st 24 (by decide), hFrc _ _ st 25 (by decide), trivial⟩ | exact r_loadL (vs := [_, _, _, _]) ty_agg34 rfl ⟨hFrc [_] _ st 22 (by decide), hFrc [_] _ st 23 (by decide), hFrc [_] _ st 24 (by decide), hFrc [_] _ st 25 (by decide), trivial⟩ | exact r_loadL (vs := [_, _, _, _]) ty_agg34 rfl ⟨hFrc [_, _] _ st 22 (by decide), hFrc [_, _] _ st 23 (by decide), hFrc [_, _] _ st 24 (by decide), hFrc [_, _] _ st 25 (by decide), trivial⟩ | exact r_loadL (vs := [_, _, _, _]) ty_agg34 rfl ⟨hFrc [_, _, _] _ st 22 (by decide), hFrc [_, _, _] _ st 23 (by decide), hFrc [_, _, _] _ st 24 (by decide), hFrc [_, _, _] _ st 25 (by decide), trivial⟩) rfl rfl rfl ?_
    -- R17.3 119 := wirelaw.go:271 fieldAddr
    refine WL.v (by exact r_field ty_fld43_2 rfl) rfl rfl rfl ?_
    -- R17.4 120 := wirelaw.go:271 fieldAddr
    refine WL.v (by exact r_field ty_fld36_9 rfl) rfl rfl rfl ?_
    -- R17.5 121 := wirelaw.go:271 load
    refine WL.v (by first | exact r_loadL (vs := [_, _, _, _]) ty_agg34 rfl ⟨hFrc [] _ st 26 (by decide), hFrc [] _ st 27 (by decide), hFrc [] _ st 28 (by decide), hFrc [] _ st 29 (by decide), trivial⟩ | exact r_loadL (vs := [_, _, _, _]) ty_agg34 rfl ⟨hFrc _ _ st 26 (by decide), hFrc _ _ st 27 (by decide), hFrc _ _ st 28 (by decide), hFrc _ _ st 29 (by decide), trivial⟩ | exact r_loadL (vs := [_, _, _, _]) ty_agg34 rfl ⟨hFrc [_] _ st 26 (by decide), hFrc [_] _ st 27 (by decide), hFrc [_] _ st 28 (by decide), hFrc [_] _ st 29 (by decide), trivial⟩ | exact r_loadL (vs := [_, _, _, _]) ty_agg34 rfl ⟨hFrc [_, _] _ st 26 (by decide), hFrc [_, _] _ st 27 (by decide), hFrc [_, _] _ st 28 (by decide), hFrc [_, _] _ st 29 (by decide), trivial⟩ | exact r_loadL (vs := [_, _, _, _]) ty_agg34 rfl ⟨hFrc [_, _, _] _ st 26 (by decide), hFrc [_, _, _] _ st 27 (by decide), hFrc [_, _, _] _ st 28 (by decide), hFrc [_, _, _] _ st 29 (by decide), trivial⟩) rfl rfl rfl ?_
    -- R17.6 122 := wirelaw.go:271 move
    refine WL.v (by first | exact r_move (v := .int _ _) rfl | exact r_move rfl) rfl rfl rfl ?_
    -- R17.7 123 := wirelaw.go:271 move
    refine WL.v (by first | exact r_move (v := .int _ _) rfl | exact r_move rfl) rfl rfl rfl ?_
    -- R17.8 124 := wirelaw.go:271 binOp
    refine WL.v (by exact r_sub (r := ((20 + f.s2.bs.length + f.s4.bs.length : Nat) : Int)) rfl rfl ((wi64 (by omega) (by omega)).trans (by omega))) rfl rfl rfl ?_
    -- R17.9 125 := wirelaw.go:271 convert
    refine WL.v (by exact r_conv (r := ((20 + f.s2.bs.length + f.s4.bs.length : Nat) : Int) % 65536) ty_cv3_30 rfl (wrap16 _)) rfl rfl rfl ?_
    -- R17.10 126 := wirelaw.go:271 call
    refine WL.call (r_call ty_call19 rfl) rfl rfl rfl (pseudoB_ok (f.x 8) (f.x 9) (f.x 10) (f.x 11) (f.x 12) (f.x 13) (f.x 14) (f.x 15) 6 (((20 + f.s2.bs.length + f.s4.bs.length : Nat) : Int) % 65536) hfok.xr.r8 hfok.xr.r9 hfok.xr.r10 hfok.xr.r11 hfok.xr.r12 hfok.xr.r13 hfok.xr.r14 hfok.xr.r15 (by omega) (by omega) st) ?_
    rintro vp w ⟨XP, hbp, st⟩
    have hpv : ∃ pa pn pc, vp = .slice pa pn pc := by
      rcases hbp.form with ⟨rfl, _, _⟩ | ⟨b, c, g, rfl, _⟩
      · exact ⟨_, _, _, rfl⟩
      · exact ⟨_, _, _, rfl⟩
    obtain ⟨pa, pn, pc, rfl⟩ := hpv
    -- R17.11 16 := wirelaw.go:271 assign
    refine WL.v (by first | exact r_assign (v := .slice _ _ _) rfl | exact r_assign rfl) rfl rfl rfl ?_
    refine WL.fin hK1272 (fun _ _ h => h) ?_
    rcases tb with _ | _
    · skip
      -- region 18
      refine WC.region ?_
      -- R18.0 127 := wirelaw.go:272 move
      refine WL.v (by first | exact r_move (v := .bool _) rfl | exact r_move rfl) rfl rfl rfl ?_
      -- R18.1 128 := wirelaw.go:272 move
      refine WL.v (by first | exact r_move (v := .bool _) rfl | exact r_move rfl) rfl rfl rfl ?_
      -- R18.2 129 := wirelaw.go:272 move
      refine WL.no rfl rfl ?_
      -- R18.3 130 := wirelaw.go:272 move
      refine WL.no rfl rfl ?_
      -- R18.4 131 := wirelaw.go:272 move
      refine WL.no rfl rfl ?_
      -- R18.5 132 := wirelaw.go:272 move
      refine WL.no rfl rfl ?_
      -- R18.6 133 := wirelaw.go:272 slice
      refine WL.no rfl rfl ?_
      -- R18.7 134 := wirelaw.go:272 call
      refine WL.no rfl rfl ?_
      -- R18.8 135 := wirelaw.go:272 call
      refine WL.no rfl rfl ?_
      -- R18.9 136 := wirelaw.go:272 binOp
      refine WL.no rfl rfl ?_
      -- R18.10 137 := wirelaw.go:272 pick
      refine WL.v (by first | exact r_pickT (v := .bool _) rfl rfl | exact r_pickF (v := .bool _) rfl rfl) rfl rfl rfl ?_
      -- R18.11 15 := wirelaw.go:272 assign
      refine WL.v (by first | exact r_assign (v := .bool _) rfl | exact r_assign rfl) rfl rfl rfl ?_
      refine WL.fin hK1269 (fun _ _ h => h) ?_
      refine WC.seq fun K1273 hK1273 => ?_
      -- region 21
      refine WC.region ?_
      -- R21.0 149 := wirelaw.go:276 call
      refine WL.call (r_call ty_call20 rfl) rfl rfl rfl (ver_ok b11 0 f hfok hchk (moreL hFr XP) st) ?_
      rintro _ w ⟨rfl, st⟩
      rw [show verV f = false by rw [hvv]; rfl]
      -- R21.1 150 := wirelaw.go:276 move
      refine WL.v (by first | exact r_move (v := .bool _) rfl | exact r_move rfl) rfl rfl rfl ?_
      -- R21.2 151 := wirelaw.go:276 binOp
      refine WL.v (by exact r_beql ty_bool4 rfl rfl (t := true) (by simp)) rfl rfl rfl ?_
      -- R21.3 6 := wirelaw.go:276 assign
      refine WL.v (by first | exact r_assign (v := .bool _) rfl | exact r_assign rfl) rfl rfl rfl ?_
      refine WL.fin hK1273 (fun _ _ h => h) ?_
      refine WC.ret1 Tryd.results14 (fun _ _ h => h) rfl ?_
      exact ⟨_, rfl, rfl, (st_dropL st).drop.drop⟩
    · skip
      -- region 18
      refine WC.region ?_
      -- R18.0 127 := wirelaw.go:272 move
      refine WL.v (by first | exact r_move (v := .bool _) rfl | exact r_move rfl) rfl rfl rfl ?_
      -- R18.1 128 := wirelaw.go:272 move
      refine WL.v (by first | exact r_move (v := .bool _) rfl | exact r_move rfl) rfl rfl rfl ?_
      -- R18.2 129 := wirelaw.go:272 move
      refine WL.v (by first | exact r_move (v := .slice _ _ _) rfl | exact r_move rfl) rfl rfl rfl ?_
      -- R18.3 130 := wirelaw.go:272 move
      refine WL.v (by first | exact r_move (v := .slice _ _ _) rfl | exact r_move rfl) rfl rfl rfl ?_
      -- R18.4 131 := wirelaw.go:272 move
      refine WL.v (by first | exact r_move (v := .int _ _) rfl | exact r_move rfl) rfl rfl rfl ?_
      -- R18.5 132 := wirelaw.go:272 move
      refine WL.v (by first | exact r_move (v := .int _ _) rfl | exact r_move rfl) rfl rfl rfl ?_
      -- R18.6 133 := wirelaw.go:272 slice
      refine WL.v (by exact r_slV s (l := 34 + f.s1.bs.length) (h := 14 + m) ty_sl25 rfl ⟨_, rfl⟩ ⟨_, rfl⟩ rfl (fun h => by cases h) (by omega) (by omega) (Nat.le_refl _) hc2'.2) rfl rfl rfl ?_
      -- R18.7 134 := wirelaw.go:272 call
      refine WL.appW (s := s.sub (34 + f.s1.bs.length) (14 + m) s.c) hbp hq2.ok (hq2.rd w (hsr (XP ++ [_, _]) w (by rw [List.append_assoc]; exact st))) st ty_mk25 ty_sl25 ty_zero5 rfl rfl rfl (by rw [hq2.bs_, List.length_append, innB_len]; simp only [psB, List.length_cons, List.length_nil]; omega) (by rw [hq2.bs_, List.length_append, innB_len]; simp only [psB, List.length_cons, List.length_nil]; omega) rfl rfl rfl ?_
      intro vn XN w hbn st
      rw [hq2.bs_] at hbn
      obtain ⟨sn, rfl, hsn, hsnok, hsnrd⟩ := hbn.bo.sv
      -- R18.8 135 := wirelaw.go:272 call
      refine WL.call (r_call ty_call15 rfl) rfl rfl rfl (ones_ok sn hsnok (by rw [hsn]; simp only [psB, List.length_append, List.length_cons, List.length_nil, innB_len]; omega) (fun w' q => hsnrd q (fun x hx => by simp [hx])) st) ?_
      rintro _ w ⟨rfl, st⟩
      rw [hsn, show innB f = tcpB f.t f.s2.bs by unfold innB; rw [if_pos k2], ← tcp_ver hfok.xr.r8 hfok.xr.r9 hfok.xr.r10 hfok.xr.r11 hfok.xr.r12 hfok.xr.r13 hfok.xr.r14 hfok.xr.r15 hfok.tr hfok.o2.byt hfok.o4.byt htcp]
      -- R18.9 136 := wirelaw.go:272 binOp
      refine WL.v (by exact r_eql rfl rfl rfl) rfl rfl rfl ?_
      obtain ⟨tc, htc⟩ : ∃ tc, tc = decide (foldV (tcpSumV (tcpPs (f.x 8) (f.x 9) (f.x 10) (f.x 11) (f.x 12) (f.x 13) (f.x 14) (f.x 15) f.s2.bs.length f.s4.bs.length) f.t f.s2.bs f.s4.bs + f.t 7) = 65535) := ⟨_, rfl⟩
      rw [← htc]
      -- R18.10 137 := wirelaw.go:272 pick
      refine WL.v (by first | exact r_pickT (v := .bool _) rfl rfl | exact r_pickF (v := .bool _) rfl rfl) rfl rfl rfl ?_
      -- R18.11 15 := wirelaw.go:272 assign
      refine WL.v (by first | exact r_assign (v := .bool _) rfl | exact r_assign rfl) rfl rfl rfl ?_
      refine WL.fin hK1269 (fun _ _ h => h) ?_
      refine WC.seq fun K1274 hK1274 => ?_
      -- region 21
      refine WC.region ?_
      -- R21.0 149 := wirelaw.go:276 call
      refine WL.call (r_call ty_call20 rfl) rfl rfl rfl (ver_ok b11 0 f hfok hchk (moreL hFr XN) st) ?_
      rintro _ w ⟨rfl, st⟩
      rw [show verV f = tc by rw [hvv]; rw [htc]; rfl]
      -- R21.1 150 := wirelaw.go:276 move
      refine WL.v (by first | exact r_move (v := .bool _) rfl | exact r_move rfl) rfl rfl rfl ?_
      -- R21.2 151 := wirelaw.go:276 binOp
      refine WL.v (by exact r_beql ty_bool4 rfl rfl (t := true) (by simp)) rfl rfl rfl ?_
      -- R21.3 6 := wirelaw.go:276 assign
      refine WL.v (by first | exact r_assign (v := .bool _) rfl | exact r_assign rfl) rfl rfl rfl ?_
      refine WL.fin hK1274 (fun _ _ h => h) ?_
      refine WC.ret1 Tryd.results14 (fun _ _ h => h) rfl ?_
      exact ⟨_, rfl, rfl, (st_dropL st).drop.drop⟩
  by_cases k3 : f.k = 3
  · have hN : innerN f = 28 + f.s3.bs.length := by unfold innerN; rw [if_neg k2, if_pos k3]
    have hic : ipP f.z f.s3.bs.length := hin.elim (fun r => by omega) (fun r => r.2.2.elim (fun r => by omega) (fun r => r.2.2.2.1))
    have hvv := verV_3 k3
    rw [← htb] at hvv
    refine WC.seq fun K1275 hK1275 => ?_
    refine WC.seq fun K1276 hK1276 => ?_
    -- region 15
    refine WC.region ?_
    -- R15.0 112 := wirelaw.go:269 fieldAddr
    refine WL.v (by exact r_field ty_fld43_0 rfl) rfl rfl rfl ?_
    -- R15.1 113 := wirelaw.go:269 load
    refine WL.v (by first | exact r_load1 ty_one27 rfl (hFrc [] _ st 0 (by decide)) | exact r_load1 ty_one27 rfl (hFrc _ _ st 0 (by decide)) | exact r_load1 ty_one27 rfl (hFrc [_] _ st 0 (by decide)) | exact r_load1 ty_one27 rfl (hFrc [_, _] _ st 0 (by decide)) | exact r_load1 ty_one27 rfl (hFrc [_, _, _] _ st 0 (by decide))) rfl rfl rfl ?_
    refine WL.fin hK1276 (fun _ _ h => h) ?_
    refine WC.block ?_
    refine WC.seq fun K1277 hK1277 => ?_
    -- region 16
    refine WC.region ?_
    -- R16.0 115 := wirelaw.go:270 binOp
    refine WL.v (by exact r_eql rfl rfl (decide_eq_false k2)) rfl rfl rfl ?_
    -- R16.1 114 := wirelaw.go:270 assign
    refine WL.v (by first | exact r_assign (v := .bool _) rfl | exact r_assign rfl) rfl rfl rfl ?_
    refine WL.fin hK1277 (fun _ _ h => h) ?_
    refine WC.condF rfl rfl ?_
    refine WC.seq fun K1278 hK1278 => ?_
    -- region 19
    refine WC.region ?_
    -- R19.0 139 := wirelaw.go:273 binOp
    refine WL.v (by exact r_eql rfl rfl (decide_eq_true k3)) rfl rfl rfl ?_
    -- R19.1 138 := wirelaw.go:273 assign
    refine WL.v (by first | exact r_assign (v := .bool _) rfl | exact r_assign rfl) rfl rfl rfl ?_
    refine WL.fin hK1278 (fun _ _ h => h) ?_
    refine WC.condT rfl rfl ?_
    rcases tb with _ | _
    · skip
      -- region 20
      refine WC.region ?_
      -- R20.0 140 := wirelaw.go:274 move
      refine WL.v (by first | exact r_move (v := .bool _) rfl | exact r_move rfl) rfl rfl rfl ?_
      -- R20.1 141 := wirelaw.go:274 move
      refine WL.v (by first | exact r_move (v := .bool _) rfl | exact r_move rfl) rfl rfl rfl ?_
      -- R20.2 142 := wirelaw.go:274 move
      refine WL.no rfl rfl ?_
      -- R20.3 143 := wirelaw.go:274 move
      refine WL.no rfl rfl ?_
      -- R20.4 144 := wirelaw.go:274 move
      refine WL.no rfl rfl ?_
      -- R20.5 145 := wirelaw.go:274 slice
      refine WL.no rfl rfl ?_
      -- R20.6 146 := wirelaw.go:274 call
      refine WL.no rfl rfl ?_
      -- R20.7 147 := wirelaw.go:274 binOp
      refine WL.no rfl rfl ?_
      -- R20.8 148 := wirelaw.go:274 pick
      refine WL.v (by first | exact r_pickT (v := .bool _) rfl rfl | exact r_pickF (v := .bool _) rfl rfl) rfl rfl rfl ?_
      -- R20.9 15 := wirelaw.go:274 assign
      refine WL.v (by first | exact r_assign (v := .bool _) rfl | exact r_assign rfl) rfl rfl rfl ?_
      refine WL.fin hK1275 (fun _ _ h => h) ?_
      refine WC.seq fun K1279 hK1279 => ?_
      -- region 21
      refine WC.region ?_
      -- R21.0 149 := wirelaw.go:276 call
      refine WL.call (r_call ty_call20 rfl) rfl rfl rfl (ver_ok b11 0 f hfok hchk (moreL hFr []) st) ?_
      rintro _ w ⟨rfl, st⟩
      rw [show verV f = false by rw [hvv]; rfl]
      -- R21.1 150 := wirelaw.go:276 move
      refine WL.v (by first | exact r_move (v := .bool _) rfl | exact r_move rfl) rfl rfl rfl ?_
      -- R21.2 151 := wirelaw.go:276 binOp
      refine WL.v (by exact r_beql ty_bool4 rfl rfl (t := true) (by simp)) rfl rfl rfl ?_
      -- R21.3 6 := wirelaw.go:276 assign
      refine WL.v (by first | exact r_assign (v := .bool _) rfl | exact r_assign rfl) rfl rfl rfl ?_
      refine WL.fin hK1279 (fun _ _ h => h) ?_
      refine WC.ret1 Tryd.results14 (fun _ _ h => h) rfl ?_
      exact ⟨_, rfl, rfl, st.drop.drop⟩
    · skip
      -- region 20
      refine WC.region ?_
      -- R20.0 140 := wirelaw.go:274 move
      refine WL.v (by first | exact r_move (v := .bool _) rfl | exact r_move rfl) rfl rfl rfl ?_
      -- R20.1 141 := wirelaw.go:274 move
      refine WL.v (by first | exact r_move (v := .bool _) rfl | exact r_move rfl) rfl rfl rfl ?_
      -- R20.2 142 := wirelaw.go:274 move
      refine WL.v (by first | exact r_move (v := .slice _ _ _) rfl | exact r_move rfl) rfl rfl rfl ?_
      -- R20.3 143 := wirelaw.go:274 move
      refine WL.v (by first | exact r_move (v := .int _ _) rfl | exact r_move rfl) rfl rfl rfl ?_
      -- R20.4 144 := wirelaw.go:274 move
      refine WL.v (by first | exact r_move (v := .int _ _) rfl | exact r_move rfl) rfl rfl rfl ?_
      -- R20.5 145 := wirelaw.go:274 slice
      refine WL.v (by exact r_slV s (l := 34 + f.s1.bs.length) (h := 14 + m) ty_sl25 rfl ⟨_, rfl⟩ ⟨_, rfl⟩ rfl (fun h => by cases h) (by omega) (by omega) (Nat.le_refl _) hc2'.2) rfl rfl rfl ?_
      -- R20.6 146 := wirelaw.go:274 call
      refine WL.call (r_call ty_call15 rfl) rfl rfl rfl (ones_ok (s.sub (34 + f.s1.bs.length) (14 + m) s.c) hq2.ok (by rw [hq2.bs_, List.length_append, innB_len]; omega) (fun w' q => hq2.rd w' (hsr [_, _] w' q)) st) ?_
      rintro _ w ⟨rfl, st⟩
      rw [hq2.bs_, show innB f = icB f.y f.z f.s3.bs by unfold innB; rw [if_neg k2, if_pos k3], ← ic_ver hfok.yr hfok.zr hfok.o3.byt hfok.o4.byt hic]
      -- R20.7 147 := wirelaw.go:274 binOp
      refine WL.v (by exact r_eql rfl rfl rfl) rfl rfl rfl ?_
      obtain ⟨tc, htc⟩ : ∃ tc, tc = decide (foldV (icSumV f.y f.z f.s3.bs f.s4.bs + f.y 2) = 65535) := ⟨_, rfl⟩
      rw [← htc]
      -- R20.8 148 := wirelaw.go:274 pick
      refine WL.v (by first | exact r_pickT (v := .bool _) rfl rfl | exact r_pickF (v := .bool _) rfl rfl) rfl rfl rfl ?_
      -- R20.9 15 := wirelaw.go:274 assign
      refine WL.v (by first | exact r_assign (v := .bool _) rfl | exact r_assign rfl) rfl rfl rfl ?_
      refine WL.fin hK1275 (fun _ _ h => h) ?_
      refine WC.seq fun K1280 hK1280 => ?_
      -- region 21
      refine WC.region ?_
      -- R21.0 149 := wirelaw.go:276 call
      refine WL.call (r_call ty_call20 rfl) rfl rfl rfl (ver_ok b11 0 f hfok hchk (moreL hFr []) st) ?_
      rintro _ w ⟨rfl, st⟩
      rw [show verV f = tc by rw [hvv]; rw [htc]; rfl]
      -- R21.1 150 := wirelaw.go:276 move
      refine WL.v (by first | exact r_move (v := .bool _) rfl | exact r_move rfl) rfl rfl rfl ?_
      -- R21.2 151 := wirelaw.go:276 binOp
      refine WL.v (by exact r_beql ty_bool4 rfl rfl (t := true) (by simp)) rfl rfl rfl ?_
      -- R21.3 6 := wirelaw.go:276 assign
      refine WL.v (by first | exact r_assign (v := .bool _) rfl | exact r_assign rfl) rfl rfl rfl ?_
      refine WL.fin hK1280 (fun _ _ h => h) ?_
      refine WC.ret1 Tryd.results14 (fun _ _ h => h) rfl ?_
      exact ⟨_, rfl, rfl, st.drop.drop⟩
  have hvv := verV_1 k0 k2 k3
  rw [← htb] at hvv
  refine WC.seq fun K1281 hK1281 => ?_
  refine WC.seq fun K1282 hK1282 => ?_
  -- region 15
  refine WC.region ?_
  -- R15.0 112 := wirelaw.go:269 fieldAddr
  refine WL.v (by exact r_field ty_fld43_0 rfl) rfl rfl rfl ?_
  -- R15.1 113 := wirelaw.go:269 load
  refine WL.v (by first | exact r_load1 ty_one27 rfl (hFrc [] _ st 0 (by decide)) | exact r_load1 ty_one27 rfl (hFrc _ _ st 0 (by decide)) | exact r_load1 ty_one27 rfl (hFrc [_] _ st 0 (by decide)) | exact r_load1 ty_one27 rfl (hFrc [_, _] _ st 0 (by decide)) | exact r_load1 ty_one27 rfl (hFrc [_, _, _] _ st 0 (by decide))) rfl rfl rfl ?_
  refine WL.fin hK1282 (fun _ _ h => h) ?_
  refine WC.block ?_
  refine WC.seq fun K1283 hK1283 => ?_
  -- region 16
  refine WC.region ?_
  -- R16.0 115 := wirelaw.go:270 binOp
  refine WL.v (by exact r_eql rfl rfl (decide_eq_false k2)) rfl rfl rfl ?_
  -- R16.1 114 := wirelaw.go:270 assign
  refine WL.v (by first | exact r_assign (v := .bool _) rfl | exact r_assign rfl) rfl rfl rfl ?_
  refine WL.fin hK1283 (fun _ _ h => h) ?_
  refine WC.condF rfl rfl ?_
  refine WC.seq fun K1284 hK1284 => ?_
  -- region 19
  refine WC.region ?_
  -- R19.0 139 := wirelaw.go:273 binOp
  refine WL.v (by exact r_eql rfl rfl (decide_eq_false k3)) rfl rfl rfl ?_
  -- R19.1 138 := wirelaw.go:273 assign
  refine WL.v (by first | exact r_assign (v := .bool _) rfl | exact r_assign rfl) rfl rfl rfl ?_
  refine WL.fin hK1284 (fun _ _ h => h) ?_
  refine WC.condF rfl rfl ?_
  refine WC.skipF hK1281 (fun _ _ h => h) ?_
  refine WC.seq fun K1285 hK1285 => ?_
  -- region 21
  refine WC.region ?_
  -- R21.0 149 := wirelaw.go:276 call
  refine WL.call (r_call ty_call20 rfl) rfl rfl rfl (ver_ok b11 0 f hfok hchk (moreL hFr []) st) ?_
  rintro _ w ⟨rfl, st⟩
  rw [show verV f = tb by rw [hvv]]
  -- R21.1 150 := wirelaw.go:276 move
  refine WL.v (by first | exact r_move (v := .bool _) rfl | exact r_move rfl) rfl rfl rfl ?_
  -- R21.2 151 := wirelaw.go:276 binOp
  refine WL.v (by exact r_beql ty_bool4 rfl rfl (t := true) (by simp)) rfl rfl rfl ?_
  -- R21.3 6 := wirelaw.go:276 assign
  refine WL.v (by first | exact r_assign (v := .bool _) rfl | exact r_assign rfl) rfl rfl rfl ?_
  refine WL.fin hK1285 (fun _ _ h => h) ?_
  refine WC.ret1 Tryd.results14 (fun _ _ h => h) rfl ?_
  exact ⟨_, rfl, rfl, st.drop.drop⟩
end Go.Proofs.Qxb6500841aDoor

