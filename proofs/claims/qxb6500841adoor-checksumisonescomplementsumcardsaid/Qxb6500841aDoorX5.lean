import Derived.Test.Qxb6500841aDoorX4
set_option linter.unusedVariables false
set_option linter.unusedSimpArgs false
namespace Go.Proofs.Qxb6500841aDoor
open Go.RowKit Go.E1 Go.Wire
variable {w0 : World} {L : List HI} {w : World} {ET : Nat → TypeId} {EU : Nat → Value}

abbrev tcpL (x : Nat → Int) (s : Value) : List Value := [.int .u16 (x 0), .int .u16 (x 1), .int .u32 (x 2), .int .u32 (x 3), .int .u8 (x 4), .int .u8 (x 5), .int .u16 (x 6), .int .u16 (x 7), .int .u16 (x 8), s]
abbrev icL (y x : Nat → Int) (s : Value) : List Value := [.int .u8 (y 0), .int .u8 (y 1), .int .u16 (y 2), .int .u32 (y 3), .int .u8 (x 0), .int .u16 (x 1), .int .u16 (x 2), .int .u8 (x 3), .int .u16 (x 4), .int .u8 (x 5), .int .u8 (x 6), .int .u16 (x 7), .int .u8 (x 8), .int .u8 (x 9), .int .u8 (x 10), .int .u8 (x 11), .int .u8 (x 12), .int .u8 (x 13), .int .u8 (x 14), .int .u8 (x 15), s]

def tcpX (B : List Int) : Nat → Int
  | 0 => B.getD 0 0 * 256 + B.getD 1 0
  | 1 => B.getD 2 0 * 256 + B.getD 3 0
  | 2 => B.getD 4 0 * 16777216 + B.getD 5 0 * 65536 + B.getD 6 0 * 256 + B.getD 7 0
  | 3 => B.getD 8 0 * 16777216 + B.getD 9 0 * 65536 + B.getD 10 0 * 256 + B.getD 11 0
  | 4 => B.getD 12 0 % 16
  | 5 => B.getD 13 0
  | 6 => B.getD 14 0 * 256 + B.getD 15 0
  | 7 => B.getD 16 0 * 256 + B.getD 17 0
  | 8 => B.getD 18 0 * 256 + B.getD 19 0
  | _ => 0
def tcpOff (B : List Int) : Nat := (B.getD 12 0 / 16).toNat * 4
structure TcpIn (B : List Int) : Prop where
  len : 20 ≤ B.length
  hl : 20 ≤ tcpOff B
  in_ : tcpOff B ≤ B.length
def icX (B : List Int) : Nat → Int
  | 0 => B.getD 0 0
  | 1 => B.getD 1 0
  | 2 => B.getD 2 0 * 256 + B.getD 3 0
  | 3 => B.getD 4 0 * 16777216 + B.getD 5 0 * 65536 + B.getD 6 0 * 256 + B.getD 7 0
  | _ => 0
structure IcIn (B : List Int) : Prop where
  len : 8 ≤ B.length
  ip : IpIn (B.drop 8)
  q : 8 + ipHl (B.drop 8) + 8 ≤ B.length

/-- A part of s that reads as bs. -/
structure Part (s t : SV) (bs : List Int) : Prop where
  ok : t.ok
  bs_ : t.bs = bs
  rd : ∀ w', s.rd w' → t.rd w'
theorem Part.nil (s : SV) : Part s SV.nil [] := ⟨SV.nil_ok, rfl, fun _ _ => SV.nil_rd _⟩
theorem Part.trans {s t r : SV} {bs cs : List Int} (h : Part s t bs) (h' : Part t r cs) : Part s r cs := ⟨h'.ok, h'.bs_, fun w' q => h'.rd w' (h.rd w' q)⟩

/-- What a header's parser hands back: a header's cells, the rest, an error. -/
def HdOut (s : SV) (v : Value) (cells : (Nat → Int) → (Nat → Int) → Value → List Value) (In : Prop) (y x : Nat → Int) (ob rb : List Int) : Prop :=
  ∃ y' x' t r er, v = .tuple #[.agg (cells y' x' t.v).toArray, r.v, er] ∧ (((∃ T u, er = .iface T u) ∧ ¬ In ∧ Part s t [] ∧ Part s r []) ∨ (er = .nilIface ∧ In ∧ y' = y ∧ x' = x ∧ Part s t ob ∧ Part s r rb))

set_option maxHeartbeats 4000000 in
set_option maxRecDepth 20000 in
theorem parseTcp_ok (hE : ErrOk w0 ET EU) (s : SV) (hs : s.ok) (hl : s.bs.length ≤ 10000000000) (hrd : ∀ its w', S0 w0 (its ++ L) w' → s.rd w') (st : S0 w0 L w) :
    Calls Tryd.prog 31 #[.slice s.a s.bs.length s.c] w (Ret fun v w' => HdOut s v (fun _ x o => tcpL x o) (TcpIn s.bs) (fun _ => 0) (tcpX s.bs) ((s.bs.take (tcpOff s.bs)).drop 20) (s.bs.drop (tcpOff s.bs)) ∧ S0 w0 L w') := by
  obtain ⟨a, c, b, o, bs⟩ := s
  obtain ⟨hle, hcap, hadr, hbyt⟩ := hs
  simp only [SV.rd] at hle hcap hadr hbyt hl hrd ⊢
  have hsok : SV.ok ⟨a, c, b, o, bs⟩ := ⟨hle, hcap, hadr, hbyt⟩
  have herr : ∀ T u, ¬ TcpIn bs → HdOut ⟨a, c, b, o, bs⟩ (.tuple #[.agg (tcpL (fun _ => 0) (.slice none 0 0)).toArray, .slice none 0 0, .iface T u]) (fun _ x o => tcpL x o) (TcpIn bs) (fun _ => 0) (tcpX bs) ((bs.take (tcpOff bs)).drop 20) (bs.drop (tcpOff bs)) := fun T u h =>
    ⟨fun _ => 0, fun _ => 0, SV.nil, SV.nil, _, rfl, .inl ⟨⟨T, u, rfl⟩, h, Part.nil _, Part.nil _⟩⟩
  by_cases h20 : bs.length < 20
  · skip
    refine enter [.slice a bs.length c] Tryd.func31 rfl Tryd.ntmps31 rfl ?_
    show WC _ _ _ 74 [] [(0, .slice a bs.length c)] _
    refine WC.seq fun K307 hK307 => ?_
    -- region 0
    refine WC.region ?_
    -- R0.0 2 := tcp.go:16 alloc
    refine WL.alloc (m := 10) st ty_zero39 rfl rfl rfl ?_
    intro b2 w st
    -- R0.1 3 := tcp.go:16 assign
    refine WL.v (by first | exact r_assign (v := .slice _ _ _) rfl | exact r_assign rfl) rfl rfl rfl ?_
    -- R0.2 4 := tcp.go:16 assign
    refine WL.v (by first | exact r_assign (v := .nilIface) rfl | exact r_assign (v := .iface _ _) rfl | exact r_assign rfl) rfl rfl rfl ?_
    refine WL.fin hK307 (fun _ _ h => h) ?_
    refine WC.seq fun K308 hK308 => ?_
    refine WC.seq fun K309 hK309 => ?_
    -- region 1
    refine WC.region ?_
    -- R1.0 6 := tcp.go:17 move
    refine WL.v (by first | exact r_move (v := .slice _ _ _) rfl | exact r_move rfl) rfl rfl rfl ?_
    -- R1.1 7 := tcp.go:17 call
    refine WL.v (by exact r_len ty_usl25 rfl) rfl rfl rfl ?_
    -- R1.2 8 := tcp.go:17 binOp
    refine WL.v (by first | exact r_lss rfl rfl (decide_eq_true (by omega)) | exact r_lss rfl rfl (decide_eq_false (by omega)) | exact r_lss rfl rfl rfl) rfl rfl rfl ?_
    refine WL.fin hK309 (fun _ _ h => h) ?_
    refine WC.condT rfl rfl ?_
    refine WC.seq fun K310 hK310 => ?_
    -- region 2 (draws)
    refine WC.heldS [4] [0, 1] [2, 3, 4] st (st) ty_mixed (by kernel_rfl) fun w st Kq hKq => ?_
    -- R2.0 9 := tcp.go:18 build
    refine HL.v (fun w st => by exact r_build (ps := []) (vs := [_, _, _, _, _, _, _, _, _, _]) ty_pl39 ty_zero39 rfl (fill_nil)) rfl rfl rfl ?_
    -- R2.1 10 := tcp.go:18 load
    refine HL.v (fun w st => by exact r_load1 ty_one47 rfl (st.old (fun h => h) (hE 7 (by decide)))) rfl rfl rfl ?_
    refine HL.fin hKq ?_
    refine TL.at ?_
    -- R2.2 None := tcp.go:18 store
    first | refine WL.storeW (vs := [_, _, _, _, _, _, _, _, _, _]) st ty_agg39 rfl rfl rfl rfl rfl rfl ?_ | refine WL.storeL (vs := [_, _, _, _, _, _, _, _, _, _]) st ty_agg39 rfl rfl rfl rfl (by first | decide | omega) rfl rfl ?_ | refine WL.storeW (vs := [_, _, _, _, _, _, _, _, _, _]) st.front1 ty_agg39 rfl rfl rfl rfl rfl rfl ?_ | refine WL.storeL (vs := [_, _, _, _, _, _, _, _, _, _]) st.front1 ty_agg39 rfl rfl rfl rfl (by first | decide | omega) rfl rfl ?_ | refine WL.storeW (vs := [_, _, _, _, _, _, _, _, _, _]) st.front2 ty_agg39 rfl rfl rfl rfl rfl rfl ?_ | refine WL.storeL (vs := [_, _, _, _, _, _, _, _, _, _]) st.front2 ty_agg39 rfl rfl rfl rfl (by first | decide | omega) rfl rfl ?_ | refine WL.storeW (vs := [_, _, _, _, _, _, _, _, _, _]) st.front3 ty_agg39 rfl rfl rfl rfl rfl rfl ?_ | refine WL.storeL (vs := [_, _, _, _, _, _, _, _, _, _]) st.front3 ty_agg39 rfl rfl rfl rfl (by first | decide | omega) rfl rfl ?_ | refine WL.storeW (vs := [_, _, _, _, _, _, _, _, _, _]) st.front4 ty_agg39 rfl rfl rfl rfl rfl rfl ?_ | refine WL.storeL (vs := [_, _, _, _, _, _, _, _, _, _]) st.front4 ty_agg39 rfl rfl rfl rfl (by first | decide | omega) rfl rfl ?_ | refine WL.storeW (vs := [_, _, _, _, _, _, _, _, _, _]) st.front5 ty_agg39 rfl rfl rfl rfl rfl rfl ?_ | refine WL.storeL (vs := [_, _, _, _, _, _, _, _, _, _]) st.front5 ty_agg39 rfl rfl rfl rfl (by first | decide | omega) rfl rfl ?_ | refine WL.storeW (vs := [_, _, _, _, _, _, _, _, _, _]) st.front6 ty_agg39 rfl rfl rfl rfl rfl rfl ?_ | refine WL.storeL (vs := [_, _, _, _, _, _, _, _, _, _]) st.front6 ty_agg39 rfl rfl rfl rfl (by first | decide | omega) rfl rfl ?_ | refine WL.storeW (vs := [_, _, _, _, _, _, _, _, _, _]) st.front7 ty_agg39 rfl rfl rfl rfl rfl rfl ?_ | refine WL.storeL (vs := [_, _, _, _, _, _, _, _, _, _]) st.front7 ty_agg39 rfl rfl rfl rfl (by first | decide | omega) rfl rfl ?_ | refine WL.storeW (vs := [_, _, _, _, _, _, _, _, _, _]) st.front8 ty_agg39 rfl rfl rfl rfl rfl rfl ?_ | refine WL.storeL (vs := [_, _, _, _, _, _, _, _, _, _]) st.front8 ty_agg39 rfl rfl rfl rfl (by first | decide | omega) rfl rfl ?_
    intro w st
    refine TL.nxt (by first | exact st | exact st.drop | exact st.drop1 | exact st.drop2 | exact st.drop3 | exact st.drop4 | exact st.drop.drop | exact st.drop.drop1 | exact st.drop.drop2 | exact st.drop.drop3 | exact st.drop.drop4 | exact st.drop.drop.drop | exact st_dropL st | exact st_dropL st.drop | exact st_none st) ?_
    refine TL.at ?_
    -- R2.3 3 := tcp.go:18 assign
    refine WL.v (by first | exact r_assign (v := .slice _ _ _) rfl | exact r_assign rfl) rfl rfl rfl ?_
    refine TL.nxt (by first | exact st | exact st.drop | exact st.drop1 | exact st.drop2 | exact st.drop3 | exact st.drop4 | exact st.drop.drop | exact st.drop.drop1 | exact st.drop.drop2 | exact st.drop.drop3 | exact st.drop.drop4 | exact st.drop.drop.drop | exact st_dropL st | exact st_dropL st.drop | exact st_none st) ?_
    refine TL.at ?_
    -- R2.4 4 := tcp.go:18 assign
    refine WL.v (by first | exact r_assign (v := .nilIface) rfl | exact r_assign (v := .iface _ _) rfl | exact r_assign rfl) rfl rfl rfl ?_
    refine TL.nxt' rfl ?_
    refine TL.wl ?_
    refine WL.fin hK310 (fun _ _ h => h) ?_
    refine WC.retCTT (vs := [_, _, _, _, _, _, _, _, _, _]) Tryd.results31 (fun _ _ h => h) rfl ty_agg39 rfl ⟨st.c0 (by decide), st.c0 (by decide), st.c0 (by decide), st.c0 (by decide), st.c0 (by decide), st.c0 (by decide), st.c0 (by decide), st.c0 (by decide), st.c0 (by decide), st.c0 (by decide), trivial⟩ ?_
    exact ⟨_, rfl, herr _ _ fun h => by have := h.len; omega, st.drop⟩
  obtain rfl := hadr (by omega)
  have hat : ∀ i, i < bs.length → 0 ≤ bs.getD i 0 ∧ bs.getD i 0 < 256 := fun i hi => hbyt _ (getD_mem hi)
  have g12 := hat 12 (by omega)
  obtain ⟨q, hq⟩ : ∃ q : Nat, bs.getD 12 0 / 16 = (q : Int) := ⟨(bs.getD 12 0 / 16).toNat, by omega⟩
  have hqh : tcpOff bs = q * 4 := by unfold tcpOff; rw [hq]; rfl
  by_cases h5 : q * 4 < 20
  · skip
    refine enter [.slice (some ⟨b, o, none⟩) bs.length c] Tryd.func31 rfl Tryd.ntmps31 rfl ?_
    show WC _ _ _ 74 [] [(0, .slice (some ⟨b, o, none⟩) bs.length c)] _
    refine WC.seq fun K311 hK311 => ?_
    -- region 0
    refine WC.region ?_
    -- R0.0 2 := tcp.go:16 alloc
    refine WL.alloc (m := 10) st ty_zero39 rfl rfl rfl ?_
    intro b2 w st
    -- R0.1 3 := tcp.go:16 assign
    refine WL.v (by first | exact r_assign (v := .slice _ _ _) rfl | exact r_assign rfl) rfl rfl rfl ?_
    -- R0.2 4 := tcp.go:16 assign
    refine WL.v (by first | exact r_assign (v := .nilIface) rfl | exact r_assign (v := .iface _ _) rfl | exact r_assign rfl) rfl rfl rfl ?_
    refine WL.fin hK311 (fun _ _ h => h) ?_
    refine WC.seq fun K312 hK312 => ?_
    refine WC.seq fun K313 hK313 => ?_
    -- region 1
    refine WC.region ?_
    -- R1.0 6 := tcp.go:17 move
    refine WL.v (by first | exact r_move (v := .slice _ _ _) rfl | exact r_move rfl) rfl rfl rfl ?_
    -- R1.1 7 := tcp.go:17 call
    refine WL.v (by exact r_len ty_usl25 rfl) rfl rfl rfl ?_
    -- R1.2 8 := tcp.go:17 binOp
    refine WL.v (by first | exact r_lss rfl rfl (decide_eq_true (by omega)) | exact r_lss rfl rfl (decide_eq_false (by omega)) | exact r_lss rfl rfl rfl) rfl rfl rfl ?_
    refine WL.fin hK313 (fun _ _ h => h) ?_
    refine WC.condF rfl rfl ?_
    refine WC.skipF hK312 (fun _ _ h => h) ?_
    refine WC.seq fun K314 hK314 => ?_
    -- region 3
    refine WC.region ?_
    -- R3.0 11 := tcp.go:20 move
    refine WL.v (by first | exact r_move (v := .slice _ _ _) rfl | exact r_move rfl) rfl rfl rfl ?_
    -- R3.1 12 := tcp.go:20 indexAddr
    refine WL.v (by exact r_indexS (j := 12) ty_sl25 rfl rfl rfl (by first | decide | omega)) rfl rfl rfl ?_
    -- R3.2 13 := tcp.go:20 load
    refine WL.v (by exact r_load1 ty_one5 rfl (hrd [_] _ st 12 (by omega))) rfl rfl rfl ?_
    -- R3.3 14 := tcp.go:20 binOp
    refine WL.v (by exact r_shr (r := (q : Int)) rfl rfl (by omega) ((shr_u 4).trans hq)) rfl rfl rfl ?_
    -- R3.4 15 := tcp.go:20 convert
    refine WL.v (by first | exact r_conv ty_cv5_3 rfl (wi64 (by omega) (by omega)) | exact r_conv ty_cv5_3 rfl rfl) rfl rfl rfl ?_
    -- R3.5 16 := tcp.go:20 binOp
    refine WL.v (by exact r_mul (r := ((q * 4 : Nat) : Int)) rfl rfl (by rw [wi64 (by omega) (by omega)]; omega)) rfl rfl rfl ?_
    -- R3.6 5 := tcp.go:20 assign
    refine WL.v (by first | exact r_assign (v := .int _ _) rfl | exact r_assign rfl) rfl rfl rfl ?_
    refine WL.fin hK314 (fun _ _ h => h) ?_
    refine WC.seq fun K315 hK315 => ?_
    refine WC.seq fun K316 hK316 => ?_
    -- region 4
    refine WC.region ?_
    -- R4.0 17 := tcp.go:21 move
    refine WL.v (by first | exact r_move (v := .int _ _) rfl | exact r_move rfl) rfl rfl rfl ?_
    -- R4.1 18 := tcp.go:21 binOp
    refine WL.v (by first | exact r_lss rfl rfl (decide_eq_true (by omega)) | exact r_lss rfl rfl (decide_eq_false (by omega)) | exact r_lss rfl rfl rfl) rfl rfl rfl ?_
    -- R4.2 19 := tcp.go:21 move
    refine WL.v (by first | exact r_move (v := .bool _) rfl | exact r_move rfl) rfl rfl rfl ?_
    -- R4.3 20 := tcp.go:21 move
    refine WL.no rfl rfl ?_
    -- R4.4 21 := tcp.go:21 move
    refine WL.no rfl rfl ?_
    -- R4.5 22 := tcp.go:21 call
    refine WL.no rfl rfl ?_
    -- R4.6 23 := tcp.go:21 binOp
    refine WL.no rfl rfl ?_
    -- R4.7 24 := tcp.go:21 pick
    refine WL.v (by first | exact r_pickT (v := .bool _) rfl rfl | exact r_pickF (v := .bool _) rfl rfl) rfl rfl rfl ?_
    refine WL.fin hK316 (fun _ _ h => h) ?_
    refine WC.condT rfl rfl ?_
    refine WC.seq fun K317 hK317 => ?_
    -- region 5 (draws)
    refine WC.heldS [4] [0, 1] [2, 3, 4] st (st) ty_mixed (by kernel_rfl) fun w st Kq hKq => ?_
    -- R5.0 25 := tcp.go:22 build
    refine HL.v (fun w st => by exact r_build (ps := []) (vs := [_, _, _, _, _, _, _, _, _, _]) ty_pl39 ty_zero39 rfl (fill_nil)) rfl rfl rfl ?_
    -- R5.1 26 := tcp.go:22 load
    refine HL.v (fun w st => by exact r_load1 ty_one47 rfl (st.old (fun h => h) (hE 8 (by decide)))) rfl rfl rfl ?_
    refine HL.fin hKq ?_
    refine TL.at ?_
    -- R5.2 None := tcp.go:22 store
    first | refine WL.storeW (vs := [_, _, _, _, _, _, _, _, _, _]) st ty_agg39 rfl rfl rfl rfl rfl rfl ?_ | refine WL.storeL (vs := [_, _, _, _, _, _, _, _, _, _]) st ty_agg39 rfl rfl rfl rfl (by first | decide | omega) rfl rfl ?_ | refine WL.storeW (vs := [_, _, _, _, _, _, _, _, _, _]) st.front1 ty_agg39 rfl rfl rfl rfl rfl rfl ?_ | refine WL.storeL (vs := [_, _, _, _, _, _, _, _, _, _]) st.front1 ty_agg39 rfl rfl rfl rfl (by first | decide | omega) rfl rfl ?_ | refine WL.storeW (vs := [_, _, _, _, _, _, _, _, _, _]) st.front2 ty_agg39 rfl rfl rfl rfl rfl rfl ?_ | refine WL.storeL (vs := [_, _, _, _, _, _, _, _, _, _]) st.front2 ty_agg39 rfl rfl rfl rfl (by first | decide | omega) rfl rfl ?_ | refine WL.storeW (vs := [_, _, _, _, _, _, _, _, _, _]) st.front3 ty_agg39 rfl rfl rfl rfl rfl rfl ?_ | refine WL.storeL (vs := [_, _, _, _, _, _, _, _, _, _]) st.front3 ty_agg39 rfl rfl rfl rfl (by first | decide | omega) rfl rfl ?_ | refine WL.storeW (vs := [_, _, _, _, _, _, _, _, _, _]) st.front4 ty_agg39 rfl rfl rfl rfl rfl rfl ?_ | refine WL.storeL (vs := [_, _, _, _, _, _, _, _, _, _]) st.front4 ty_agg39 rfl rfl rfl rfl (by first | decide | omega) rfl rfl ?_ | refine WL.storeW (vs := [_, _, _, _, _, _, _, _, _, _]) st.front5 ty_agg39 rfl rfl rfl rfl rfl rfl ?_ | refine WL.storeL (vs := [_, _, _, _, _, _, _, _, _, _]) st.front5 ty_agg39 rfl rfl rfl rfl (by first | decide | omega) rfl rfl ?_ | refine WL.storeW (vs := [_, _, _, _, _, _, _, _, _, _]) st.front6 ty_agg39 rfl rfl rfl rfl rfl rfl ?_ | refine WL.storeL (vs := [_, _, _, _, _, _, _, _, _, _]) st.front6 ty_agg39 rfl rfl rfl rfl (by first | decide | omega) rfl rfl ?_ | refine WL.storeW (vs := [_, _, _, _, _, _, _, _, _, _]) st.front7 ty_agg39 rfl rfl rfl rfl rfl rfl ?_ | refine WL.storeL (vs := [_, _, _, _, _, _, _, _, _, _]) st.front7 ty_agg39 rfl rfl rfl rfl (by first | decide | omega) rfl rfl ?_ | refine WL.storeW (vs := [_, _, _, _, _, _, _, _, _, _]) st.front8 ty_agg39 rfl rfl rfl rfl rfl rfl ?_ | refine WL.storeL (vs := [_, _, _, _, _, _, _, _, _, _]) st.front8 ty_agg39 rfl rfl rfl rfl (by first | decide | omega) rfl rfl ?_
    intro w st
    refine TL.nxt (by first | exact st | exact st.drop | exact st.drop1 | exact st.drop2 | exact st.drop3 | exact st.drop4 | exact st.drop.drop | exact st.drop.drop1 | exact st.drop.drop2 | exact st.drop.drop3 | exact st.drop.drop4 | exact st.drop.drop.drop | exact st_dropL st | exact st_dropL st.drop | exact st_none st) ?_
    refine TL.at ?_
    -- R5.3 3 := tcp.go:22 assign
    refine WL.v (by first | exact r_assign (v := .slice _ _ _) rfl | exact r_assign rfl) rfl rfl rfl ?_
    refine TL.nxt (by first | exact st | exact st.drop | exact st.drop1 | exact st.drop2 | exact st.drop3 | exact st.drop4 | exact st.drop.drop | exact st.drop.drop1 | exact st.drop.drop2 | exact st.drop.drop3 | exact st.drop.drop4 | exact st.drop.drop.drop | exact st_dropL st | exact st_dropL st.drop | exact st_none st) ?_
    refine TL.at ?_
    -- R5.4 4 := tcp.go:22 assign
    refine WL.v (by first | exact r_assign (v := .nilIface) rfl | exact r_assign (v := .iface _ _) rfl | exact r_assign rfl) rfl rfl rfl ?_
    refine TL.nxt' rfl ?_
    refine TL.wl ?_
    refine WL.fin hK317 (fun _ _ h => h) ?_
    refine WC.retCTT (vs := [_, _, _, _, _, _, _, _, _, _]) Tryd.results31 (fun _ _ h => h) rfl ty_agg39 rfl ⟨st.c0 (by decide), st.c0 (by decide), st.c0 (by decide), st.c0 (by decide), st.c0 (by decide), st.c0 (by decide), st.c0 (by decide), st.c0 (by decide), st.c0 (by decide), st.c0 (by decide), trivial⟩ ?_
    exact ⟨_, rfl, herr _ _ fun h => by have := h.hl; omega, st.drop⟩
  by_cases hin : bs.length < q * 4
  · skip
    refine enter [.slice (some ⟨b, o, none⟩) bs.length c] Tryd.func31 rfl Tryd.ntmps31 rfl ?_
    show WC _ _ _ 74 [] [(0, .slice (some ⟨b, o, none⟩) bs.length c)] _
    refine WC.seq fun K318 hK318 => ?_
    -- region 0
    refine WC.region ?_
    -- R0.0 2 := tcp.go:16 alloc
    refine WL.alloc (m := 10) st ty_zero39 rfl rfl rfl ?_
    intro b2 w st
    -- R0.1 3 := tcp.go:16 assign
    refine WL.v (by first | exact r_assign (v := .slice _ _ _) rfl | exact r_assign rfl) rfl rfl rfl ?_
    -- R0.2 4 := tcp.go:16 assign
    refine WL.v (by first | exact r_assign (v := .nilIface) rfl | exact r_assign (v := .iface _ _) rfl | exact r_assign rfl) rfl rfl rfl ?_
    refine WL.fin hK318 (fun _ _ h => h) ?_
    refine WC.seq fun K319 hK319 => ?_
    refine WC.seq fun K320 hK320 => ?_
    -- region 1
    refine WC.region ?_
    -- R1.0 6 := tcp.go:17 move
    refine WL.v (by first | exact r_move (v := .slice _ _ _) rfl | exact r_move rfl) rfl rfl rfl ?_
    -- R1.1 7 := tcp.go:17 call
    refine WL.v (by exact r_len ty_usl25 rfl) rfl rfl rfl ?_
    -- R1.2 8 := tcp.go:17 binOp
    refine WL.v (by first | exact r_lss rfl rfl (decide_eq_true (by omega)) | exact r_lss rfl rfl (decide_eq_false (by omega)) | exact r_lss rfl rfl rfl) rfl rfl rfl ?_
    refine WL.fin hK320 (fun _ _ h => h) ?_
    refine WC.condF rfl rfl ?_
    refine WC.skipF hK319 (fun _ _ h => h) ?_
    refine WC.seq fun K321 hK321 => ?_
    -- region 3
    refine WC.region ?_
    -- R3.0 11 := tcp.go:20 move
    refine WL.v (by first | exact r_move (v := .slice _ _ _) rfl | exact r_move rfl) rfl rfl rfl ?_
    -- R3.1 12 := tcp.go:20 indexAddr
    refine WL.v (by exact r_indexS (j := 12) ty_sl25 rfl rfl rfl (by first | decide | omega)) rfl rfl rfl ?_
    -- R3.2 13 := tcp.go:20 load
    refine WL.v (by exact r_load1 ty_one5 rfl (hrd [_] _ st 12 (by omega))) rfl rfl rfl ?_
    -- R3.3 14 := tcp.go:20 binOp
    refine WL.v (by exact r_shr (r := (q : Int)) rfl rfl (by omega) ((shr_u 4).trans hq)) rfl rfl rfl ?_
    -- R3.4 15 := tcp.go:20 convert
    refine WL.v (by first | exact r_conv ty_cv5_3 rfl (wi64 (by omega) (by omega)) | exact r_conv ty_cv5_3 rfl rfl) rfl rfl rfl ?_
    -- R3.5 16 := tcp.go:20 binOp
    refine WL.v (by exact r_mul (r := ((q * 4 : Nat) : Int)) rfl rfl (by rw [wi64 (by omega) (by omega)]; omega)) rfl rfl rfl ?_
    -- R3.6 5 := tcp.go:20 assign
    refine WL.v (by first | exact r_assign (v := .int _ _) rfl | exact r_assign rfl) rfl rfl rfl ?_
    refine WL.fin hK321 (fun _ _ h => h) ?_
    refine WC.seq fun K322 hK322 => ?_
    refine WC.seq fun K323 hK323 => ?_
    -- region 4
    refine WC.region ?_
    -- R4.0 17 := tcp.go:21 move
    refine WL.v (by first | exact r_move (v := .int _ _) rfl | exact r_move rfl) rfl rfl rfl ?_
    -- R4.1 18 := tcp.go:21 binOp
    refine WL.v (by first | exact r_lss rfl rfl (decide_eq_true (by omega)) | exact r_lss rfl rfl (decide_eq_false (by omega)) | exact r_lss rfl rfl rfl) rfl rfl rfl ?_
    -- R4.2 19 := tcp.go:21 move
    refine WL.v (by first | exact r_move (v := .bool _) rfl | exact r_move rfl) rfl rfl rfl ?_
    -- R4.3 20 := tcp.go:21 move
    refine WL.v (by first | exact r_move (v := .int _ _) rfl | exact r_move rfl) rfl rfl rfl ?_
    -- R4.4 21 := tcp.go:21 move
    refine WL.v (by first | exact r_move (v := .slice _ _ _) rfl | exact r_move rfl) rfl rfl rfl ?_
    -- R4.5 22 := tcp.go:21 call
    refine WL.v (by exact r_len ty_usl25 rfl) rfl rfl rfl ?_
    -- R4.6 23 := tcp.go:21 binOp
    refine WL.v (by first | exact r_gtr rfl rfl (decide_eq_true (by omega)) | exact r_gtr rfl rfl (decide_eq_false (by omega)) | exact r_gtr rfl rfl rfl) rfl rfl rfl ?_
    -- R4.7 24 := tcp.go:21 pick
    refine WL.v (by first | exact r_pickT (v := .bool _) rfl rfl | exact r_pickF (v := .bool _) rfl rfl) rfl rfl rfl ?_
    refine WL.fin hK323 (fun _ _ h => h) ?_
    refine WC.condT rfl rfl ?_
    refine WC.seq fun K324 hK324 => ?_
    -- region 5 (draws)
    refine WC.heldS [4] [0, 1] [2, 3, 4] st (st) ty_mixed (by kernel_rfl) fun w st Kq hKq => ?_
    -- R5.0 25 := tcp.go:22 build
    refine HL.v (fun w st => by exact r_build (ps := []) (vs := [_, _, _, _, _, _, _, _, _, _]) ty_pl39 ty_zero39 rfl (fill_nil)) rfl rfl rfl ?_
    -- R5.1 26 := tcp.go:22 load
    refine HL.v (fun w st => by exact r_load1 ty_one47 rfl (st.old (fun h => h) (hE 8 (by decide)))) rfl rfl rfl ?_
    refine HL.fin hKq ?_
    refine TL.at ?_
    -- R5.2 None := tcp.go:22 store
    first | refine WL.storeW (vs := [_, _, _, _, _, _, _, _, _, _]) st ty_agg39 rfl rfl rfl rfl rfl rfl ?_ | refine WL.storeL (vs := [_, _, _, _, _, _, _, _, _, _]) st ty_agg39 rfl rfl rfl rfl (by first | decide | omega) rfl rfl ?_ | refine WL.storeW (vs := [_, _, _, _, _, _, _, _, _, _]) st.front1 ty_agg39 rfl rfl rfl rfl rfl rfl ?_ | refine WL.storeL (vs := [_, _, _, _, _, _, _, _, _, _]) st.front1 ty_agg39 rfl rfl rfl rfl (by first | decide | omega) rfl rfl ?_ | refine WL.storeW (vs := [_, _, _, _, _, _, _, _, _, _]) st.front2 ty_agg39 rfl rfl rfl rfl rfl rfl ?_ | refine WL.storeL (vs := [_, _, _, _, _, _, _, _, _, _]) st.front2 ty_agg39 rfl rfl rfl rfl (by first | decide | omega) rfl rfl ?_ | refine WL.storeW (vs := [_, _, _, _, _, _, _, _, _, _]) st.front3 ty_agg39 rfl rfl rfl rfl rfl rfl ?_ | refine WL.storeL (vs := [_, _, _, _, _, _, _, _, _, _]) st.front3 ty_agg39 rfl rfl rfl rfl (by first | decide | omega) rfl rfl ?_ | refine WL.storeW (vs := [_, _, _, _, _, _, _, _, _, _]) st.front4 ty_agg39 rfl rfl rfl rfl rfl rfl ?_ | refine WL.storeL (vs := [_, _, _, _, _, _, _, _, _, _]) st.front4 ty_agg39 rfl rfl rfl rfl (by first | decide | omega) rfl rfl ?_ | refine WL.storeW (vs := [_, _, _, _, _, _, _, _, _, _]) st.front5 ty_agg39 rfl rfl rfl rfl rfl rfl ?_ | refine WL.storeL (vs := [_, _, _, _, _, _, _, _, _, _]) st.front5 ty_agg39 rfl rfl rfl rfl (by first | decide | omega) rfl rfl ?_ | refine WL.storeW (vs := [_, _, _, _, _, _, _, _, _, _]) st.front6 ty_agg39 rfl rfl rfl rfl rfl rfl ?_ | refine WL.storeL (vs := [_, _, _, _, _, _, _, _, _, _]) st.front6 ty_agg39 rfl rfl rfl rfl (by first | decide | omega) rfl rfl ?_ | refine WL.storeW (vs := [_, _, _, _, _, _, _, _, _, _]) st.front7 ty_agg39 rfl rfl rfl rfl rfl rfl ?_ | refine WL.storeL (vs := [_, _, _, _, _, _, _, _, _, _]) st.front7 ty_agg39 rfl rfl rfl rfl (by first | decide | omega) rfl rfl ?_ | refine WL.storeW (vs := [_, _, _, _, _, _, _, _, _, _]) st.front8 ty_agg39 rfl rfl rfl rfl rfl rfl ?_ | refine WL.storeL (vs := [_, _, _, _, _, _, _, _, _, _]) st.front8 ty_agg39 rfl rfl rfl rfl (by first | decide | omega) rfl rfl ?_
    intro w st
    refine TL.nxt (by first | exact st | exact st.drop | exact st.drop1 | exact st.drop2 | exact st.drop3 | exact st.drop4 | exact st.drop.drop | exact st.drop.drop1 | exact st.drop.drop2 | exact st.drop.drop3 | exact st.drop.drop4 | exact st.drop.drop.drop | exact st_dropL st | exact st_dropL st.drop | exact st_none st) ?_
    refine TL.at ?_
    -- R5.3 3 := tcp.go:22 assign
    refine WL.v (by first | exact r_assign (v := .slice _ _ _) rfl | exact r_assign rfl) rfl rfl rfl ?_
    refine TL.nxt (by first | exact st | exact st.drop | exact st.drop1 | exact st.drop2 | exact st.drop3 | exact st.drop4 | exact st.drop.drop | exact st.drop.drop1 | exact st.drop.drop2 | exact st.drop.drop3 | exact st.drop.drop4 | exact st.drop.drop.drop | exact st_dropL st | exact st_dropL st.drop | exact st_none st) ?_
    refine TL.at ?_
    -- R5.4 4 := tcp.go:22 assign
    refine WL.v (by first | exact r_assign (v := .nilIface) rfl | exact r_assign (v := .iface _ _) rfl | exact r_assign rfl) rfl rfl rfl ?_
    refine TL.nxt' rfl ?_
    refine TL.wl ?_
    refine WL.fin hK324 (fun _ _ h => h) ?_
    refine WC.retCTT (vs := [_, _, _, _, _, _, _, _, _, _]) Tryd.results31 (fun _ _ h => h) rfl ty_agg39 rfl ⟨st.c0 (by decide), st.c0 (by decide), st.c0 (by decide), st.c0 (by decide), st.c0 (by decide), st.c0 (by decide), st.c0 (by decide), st.c0 (by decide), st.c0 (by decide), st.c0 (by decide), trivial⟩ ?_
    exact ⟨_, rfl, herr _ _ fun h => by have := h.in_; omega, st.drop⟩
  have hI : TcpIn bs := ⟨by omega, by omega, by omega⟩
  have e2 : (SV.sub ⟨some ⟨b, o, none⟩, c, b, o, bs⟩ (q * 4) bs.length c).v = .slice (slA (some ⟨b, o, none⟩) (q * 4) c 1) (bs.length - q * 4) (c - q * 4) := SV.sub_v (Nat.le_refl _)
  have hp2 : Part ⟨some ⟨b, o, none⟩, c, b, o, bs⟩ (SV.sub ⟨some ⟨b, o, none⟩, c, b, o, bs⟩ (q * 4) bs.length c) (bs.drop (q * 4)) := ⟨SV.sub_ok hsok (by omega) (Nat.le_refl _) hle (Nat.le_refl _), by simp [SV.sub], fun w' h => SV.sub_rd h (Nat.le_refl _)⟩
  rw [← hqh] at hp2
  by_cases hopt : 20 < q * 4
  · skip
    refine enter [.slice (some ⟨b, o, none⟩) bs.length c] Tryd.func31 rfl Tryd.ntmps31 rfl ?_
    show WC _ _ _ 74 [] [(0, .slice (some ⟨b, o, none⟩) bs.length c)] _
    refine WC.seq fun K325 hK325 => ?_
    -- region 0
    refine WC.region ?_
    -- R0.0 2 := tcp.go:16 alloc
    refine WL.alloc (m := 10) st ty_zero39 rfl rfl rfl ?_
    intro b2 w st
    -- R0.1 3 := tcp.go:16 assign
    refine WL.v (by first | exact r_assign (v := .slice _ _ _) rfl | exact r_assign rfl) rfl rfl rfl ?_
    -- R0.2 4 := tcp.go:16 assign
    refine WL.v (by first | exact r_assign (v := .nilIface) rfl | exact r_assign (v := .iface _ _) rfl | exact r_assign rfl) rfl rfl rfl ?_
    refine WL.fin hK325 (fun _ _ h => h) ?_
    refine WC.seq fun K326 hK326 => ?_
    refine WC.seq fun K327 hK327 => ?_
    -- region 1
    refine WC.region ?_
    -- R1.0 6 := tcp.go:17 move
    refine WL.v (by first | exact r_move (v := .slice _ _ _) rfl | exact r_move rfl) rfl rfl rfl ?_
    -- R1.1 7 := tcp.go:17 call
    refine WL.v (by exact r_len ty_usl25 rfl) rfl rfl rfl ?_
    -- R1.2 8 := tcp.go:17 binOp
    refine WL.v (by first | exact r_lss rfl rfl (decide_eq_true (by omega)) | exact r_lss rfl rfl (decide_eq_false (by omega)) | exact r_lss rfl rfl rfl) rfl rfl rfl ?_
    refine WL.fin hK327 (fun _ _ h => h) ?_
    refine WC.condF rfl rfl ?_
    refine WC.skipF hK326 (fun _ _ h => h) ?_
    refine WC.seq fun K328 hK328 => ?_
    -- region 3
    refine WC.region ?_
    -- R3.0 11 := tcp.go:20 move
    refine WL.v (by first | exact r_move (v := .slice _ _ _) rfl | exact r_move rfl) rfl rfl rfl ?_
    -- R3.1 12 := tcp.go:20 indexAddr
    refine WL.v (by exact r_indexS (j := 12) ty_sl25 rfl rfl rfl (by first | decide | omega)) rfl rfl rfl ?_
    -- R3.2 13 := tcp.go:20 load
    refine WL.v (by exact r_load1 ty_one5 rfl (hrd [_] _ st 12 (by omega))) rfl rfl rfl ?_
    -- R3.3 14 := tcp.go:20 binOp
    refine WL.v (by exact r_shr (r := (q : Int)) rfl rfl (by omega) ((shr_u 4).trans hq)) rfl rfl rfl ?_
    -- R3.4 15 := tcp.go:20 convert
    refine WL.v (by first | exact r_conv ty_cv5_3 rfl (wi64 (by omega) (by omega)) | exact r_conv ty_cv5_3 rfl rfl) rfl rfl rfl ?_
    -- R3.5 16 := tcp.go:20 binOp
    refine WL.v (by exact r_mul (r := ((q * 4 : Nat) : Int)) rfl rfl (by rw [wi64 (by omega) (by omega)]; omega)) rfl rfl rfl ?_
    -- R3.6 5 := tcp.go:20 assign
    refine WL.v (by first | exact r_assign (v := .int _ _) rfl | exact r_assign rfl) rfl rfl rfl ?_
    refine WL.fin hK328 (fun _ _ h => h) ?_
    refine WC.seq fun K329 hK329 => ?_
    refine WC.seq fun K330 hK330 => ?_
    -- region 4
    refine WC.region ?_
    -- R4.0 17 := tcp.go:21 move
    refine WL.v (by first | exact r_move (v := .int _ _) rfl | exact r_move rfl) rfl rfl rfl ?_
    -- R4.1 18 := tcp.go:21 binOp
    refine WL.v (by first | exact r_lss rfl rfl (decide_eq_true (by omega)) | exact r_lss rfl rfl (decide_eq_false (by omega)) | exact r_lss rfl rfl rfl) rfl rfl rfl ?_
    -- R4.2 19 := tcp.go:21 move
    refine WL.v (by first | exact r_move (v := .bool _) rfl | exact r_move rfl) rfl rfl rfl ?_
    -- R4.3 20 := tcp.go:21 move
    refine WL.v (by first | exact r_move (v := .int _ _) rfl | exact r_move rfl) rfl rfl rfl ?_
    -- R4.4 21 := tcp.go:21 move
    refine WL.v (by first | exact r_move (v := .slice _ _ _) rfl | exact r_move rfl) rfl rfl rfl ?_
    -- R4.5 22 := tcp.go:21 call
    refine WL.v (by exact r_len ty_usl25 rfl) rfl rfl rfl ?_
    -- R4.6 23 := tcp.go:21 binOp
    refine WL.v (by first | exact r_gtr rfl rfl (decide_eq_true (by omega)) | exact r_gtr rfl rfl (decide_eq_false (by omega)) | exact r_gtr rfl rfl rfl) rfl rfl rfl ?_
    -- R4.7 24 := tcp.go:21 pick
    refine WL.v (by first | exact r_pickT (v := .bool _) rfl rfl | exact r_pickF (v := .bool _) rfl rfl) rfl rfl rfl ?_
    refine WL.fin hK330 (fun _ _ h => h) ?_
    refine WC.condF rfl rfl ?_
    refine WC.skipF hK329 (fun _ _ h => h) ?_
    refine WC.seq fun K331 hK331 => ?_
    -- region 6 (draws)
    refine WC.heldS2 [35, 36] [0, 4, 8, 12, 16, 17, 18, 20, 21, 22, 23, 27, 31] [1, 2, 5, 6, 9, 10, 13, 14, 19, 24, 25, 28, 29, 32, 33] [3, 7, 11, 15, 26, 30, 34, 35, 36] st (st) ty_mixed (by kernel_rfl) fun w st Kq Kq2 hKq hKq2 => ?_
    -- R6.0 27 := tcp.go:24 load
    refine HL.v (fun w st => by exact r_loadL (vs := []) ty_agg83 rfl trivial) rfl rfl rfl ?_
    -- R6.4 31 := tcp.go:24 load
    refine HL.v (fun w st => by exact r_loadL (vs := []) ty_agg83 rfl trivial) rfl rfl rfl ?_
    -- R6.8 35 := tcp.go:24 load
    refine HL.v (fun w st => by exact r_loadL (vs := []) ty_agg83 rfl trivial) rfl rfl rfl ?_
    -- R6.12 39 := tcp.go:24 load
    refine HL.v (fun w st => by exact r_loadL (vs := []) ty_agg83 rfl trivial) rfl rfl rfl ?_
    -- R6.16 43 := tcp.go:24 move
    refine HL.v (fun w st => by first | exact r_move (v := .slice _ _ _) rfl | exact r_move rfl) rfl rfl rfl ?_
    -- R6.17 44 := tcp.go:24 indexAddr
    refine HL.v (fun w st => by exact r_indexS (j := 12) ty_sl25 rfl rfl rfl (by first | decide | omega)) rfl rfl rfl ?_
    -- R6.18 45 := tcp.go:24 load
    refine HL.v (fun w st => by exact r_load1 ty_one5 rfl (hrd [_] _ st 12 (by omega))) rfl rfl rfl ?_
    -- R6.20 47 := tcp.go:24 move
    refine HL.v (fun w st => by first | exact r_move (v := .slice _ _ _) rfl | exact r_move rfl) rfl rfl rfl ?_
    -- R6.21 48 := tcp.go:24 indexAddr
    refine HL.v (fun w st => by exact r_indexS (j := 13) ty_sl25 rfl rfl rfl (by first | decide | omega)) rfl rfl rfl ?_
    -- R6.22 49 := tcp.go:24 load
    refine HL.v (fun w st => by exact r_load1 ty_one5 rfl (hrd [_] _ st 13 (by omega))) rfl rfl rfl ?_
    -- R6.23 50 := tcp.go:24 load
    refine HL.v (fun w st => by exact r_loadL (vs := []) ty_agg83 rfl trivial) rfl rfl rfl ?_
    -- R6.27 54 := tcp.go:24 load
    refine HL.v (fun w st => by exact r_loadL (vs := []) ty_agg83 rfl trivial) rfl rfl rfl ?_
    -- R6.31 58 := tcp.go:24 load
    refine HL.v (fun w st => by exact r_loadL (vs := []) ty_agg83 rfl trivial) rfl rfl rfl ?_
    refine HL.pure hKq ?_
    -- R6.1 28 := tcp.go:24 move
    refine HL.v (fun w _ => by first | exact r_move (v := .slice _ _ _) rfl | exact r_move rfl) rfl rfl rfl ?_
    -- R6.2 29 := tcp.go:24 slice
    refine HL.v (fun w _ => by first | exact r_slS (l := 0) (h := 2) ty_sl25 rfl ⟨_, rfl⟩ ⟨_, rfl⟩ rfl (fun h => by first | rfl | cases h) (by omega) (by omega) (by omega) (by omega) | exact r_sl (l := 0) (h := 2) ty_sl25 rfl ⟨_, rfl⟩ ⟨_, rfl⟩ rfl (fun h => by first | rfl | cases h) (by omega) (by omega) (by omega)) rfl rfl rfl ?_
    -- R6.5 32 := tcp.go:24 move
    refine HL.v (fun w _ => by first | exact r_move (v := .slice _ _ _) rfl | exact r_move rfl) rfl rfl rfl ?_
    -- R6.6 33 := tcp.go:24 slice
    refine HL.v (fun w _ => by first | exact r_slS (l := 2) (h := 4) ty_sl25 rfl ⟨_, rfl⟩ ⟨_, rfl⟩ rfl (fun h => by first | rfl | cases h) (by omega) (by omega) (by omega) (by omega) | exact r_sl (l := 2) (h := 4) ty_sl25 rfl ⟨_, rfl⟩ ⟨_, rfl⟩ rfl (fun h => by first | rfl | cases h) (by omega) (by omega) (by omega)) rfl rfl rfl ?_
    -- R6.9 36 := tcp.go:24 move
    refine HL.v (fun w _ => by first | exact r_move (v := .slice _ _ _) rfl | exact r_move rfl) rfl rfl rfl ?_
    -- R6.10 37 := tcp.go:24 slice
    refine HL.v (fun w _ => by first | exact r_slS (l := 4) (h := 8) ty_sl25 rfl ⟨_, rfl⟩ ⟨_, rfl⟩ rfl (fun h => by first | rfl | cases h) (by omega) (by omega) (by omega) (by omega) | exact r_sl (l := 4) (h := 8) ty_sl25 rfl ⟨_, rfl⟩ ⟨_, rfl⟩ rfl (fun h => by first | rfl | cases h) (by omega) (by omega) (by omega)) rfl rfl rfl ?_
    -- R6.13 40 := tcp.go:24 move
    refine HL.v (fun w _ => by first | exact r_move (v := .slice _ _ _) rfl | exact r_move rfl) rfl rfl rfl ?_
    -- R6.14 41 := tcp.go:24 slice
    refine HL.v (fun w _ => by first | exact r_slS (l := 8) (h := 12) ty_sl25 rfl ⟨_, rfl⟩ ⟨_, rfl⟩ rfl (fun h => by first | rfl | cases h) (by omega) (by omega) (by omega) (by omega) | exact r_sl (l := 8) (h := 12) ty_sl25 rfl ⟨_, rfl⟩ ⟨_, rfl⟩ rfl (fun h => by first | rfl | cases h) (by omega) (by omega) (by omega)) rfl rfl rfl ?_
    -- R6.19 46 := tcp.go:24 binOp
    refine HL.v (fun w _ => by exact r_and (r := bs.getD 12 0 % 16) rfl rfl ((congrArg IntKind.u8.wrap (and_u 8 4 g12.1 (by omega) (by omega))).trans (wu8 (by omega) (by omega)))) rfl rfl rfl ?_
    -- R6.24 51 := tcp.go:24 move
    refine HL.v (fun w _ => by first | exact r_move (v := .slice _ _ _) rfl | exact r_move rfl) rfl rfl rfl ?_
    -- R6.25 52 := tcp.go:24 slice
    refine HL.v (fun w _ => by first | exact r_slS (l := 14) (h := 16) ty_sl25 rfl ⟨_, rfl⟩ ⟨_, rfl⟩ rfl (fun h => by first | rfl | cases h) (by omega) (by omega) (by omega) (by omega) | exact r_sl (l := 14) (h := 16) ty_sl25 rfl ⟨_, rfl⟩ ⟨_, rfl⟩ rfl (fun h => by first | rfl | cases h) (by omega) (by omega) (by omega)) rfl rfl rfl ?_
    -- R6.28 55 := tcp.go:24 move
    refine HL.v (fun w _ => by first | exact r_move (v := .slice _ _ _) rfl | exact r_move rfl) rfl rfl rfl ?_
    -- R6.29 56 := tcp.go:24 slice
    refine HL.v (fun w _ => by first | exact r_slS (l := 16) (h := 18) ty_sl25 rfl ⟨_, rfl⟩ ⟨_, rfl⟩ rfl (fun h => by first | rfl | cases h) (by omega) (by omega) (by omega) (by omega) | exact r_sl (l := 16) (h := 18) ty_sl25 rfl ⟨_, rfl⟩ ⟨_, rfl⟩ rfl (fun h => by first | rfl | cases h) (by omega) (by omega) (by omega)) rfl rfl rfl ?_
    -- R6.32 59 := tcp.go:24 move
    refine HL.v (fun w _ => by first | exact r_move (v := .slice _ _ _) rfl | exact r_move rfl) rfl rfl rfl ?_
    -- R6.33 60 := tcp.go:24 slice
    refine HL.v (fun w _ => by first | exact r_slS (l := 18) (h := 20) ty_sl25 rfl ⟨_, rfl⟩ ⟨_, rfl⟩ rfl (fun h => by first | rfl | cases h) (by omega) (by omega) (by omega) (by omega) | exact r_sl (l := 18) (h := 20) ty_sl25 rfl ⟨_, rfl⟩ ⟨_, rfl⟩ rfl (fun h => by first | rfl | cases h) (by omega) (by omega) (by omega)) rfl rfl rfl ?_
    refine HL.fin hKq2 ?_
    refine TL.at ?_
    -- R6.3 30 := tcp.go:25 call
    refine WL.call (r_call ty_call38 rfl) rfl rfl rfl (u16_at b o 0 _ _ bs (bs.getD 0 0 * 256 + bs.getD 1 0) rfl (by omega) rfl hbyt (moreL hrd [_]) st) ?_
    rintro _ w ⟨rfl, st⟩
    refine TL.nxt (by first | exact st | exact st.drop | exact st.drop1 | exact st.drop2 | exact st.drop3 | exact st.drop4 | exact st.drop.drop | exact st.drop.drop1 | exact st.drop.drop2 | exact st.drop.drop3 | exact st.drop.drop4 | exact st.drop.drop.drop | exact st_dropL st | exact st_dropL st.drop | exact st_none st) ?_
    refine TL.at ?_
    -- R6.7 34 := tcp.go:26 call
    refine WL.call (r_call ty_call38 rfl) rfl rfl rfl (u16_at b o 2 _ _ bs (bs.getD 2 0 * 256 + bs.getD 3 0) rfl (by omega) rfl hbyt (moreL hrd [_]) st) ?_
    rintro _ w ⟨rfl, st⟩
    refine TL.nxt (by first | exact st | exact st.drop | exact st.drop1 | exact st.drop2 | exact st.drop3 | exact st.drop4 | exact st.drop.drop | exact st.drop.drop1 | exact st.drop.drop2 | exact st.drop.drop3 | exact st.drop.drop4 | exact st.drop.drop.drop | exact st_dropL st | exact st_dropL st.drop | exact st_none st) ?_
    refine TL.at ?_
    -- R6.11 38 := tcp.go:27 call
    refine WL.call (r_call ty_call37 rfl) rfl rfl rfl (u32_at b o 4 _ _ bs (bs.getD 4 0 * 16777216 + bs.getD 5 0 * 65536 + bs.getD 6 0 * 256 + bs.getD 7 0) rfl (by omega) rfl hbyt (moreL hrd [_]) st) ?_
    rintro _ w ⟨rfl, st⟩
    refine TL.nxt (by first | exact st | exact st.drop | exact st.drop1 | exact st.drop2 | exact st.drop3 | exact st.drop4 | exact st.drop.drop | exact st.drop.drop1 | exact st.drop.drop2 | exact st.drop.drop3 | exact st.drop.drop4 | exact st.drop.drop.drop | exact st_dropL st | exact st_dropL st.drop | exact st_none st) ?_
    refine TL.at ?_
    -- R6.15 42 := tcp.go:28 call
    refine WL.call (r_call ty_call37 rfl) rfl rfl rfl (u32_at b o 8 _ _ bs (bs.getD 8 0 * 16777216 + bs.getD 9 0 * 65536 + bs.getD 10 0 * 256 + bs.getD 11 0) rfl (by omega) rfl hbyt (moreL hrd [_]) st) ?_
    rintro _ w ⟨rfl, st⟩
    refine TL.nxt (by first | exact st | exact st.drop | exact st.drop1 | exact st.drop2 | exact st.drop3 | exact st.drop4 | exact st.drop.drop | exact st.drop.drop1 | exact st.drop.drop2 | exact st.drop.drop3 | exact st.drop.drop4 | exact st.drop.drop.drop | exact st_dropL st | exact st_dropL st.drop | exact st_none st) ?_
    refine TL.at ?_
    -- R6.26 53 := tcp.go:31 call
    refine WL.call (r_call ty_call38 rfl) rfl rfl rfl (u16_at b o 14 _ _ bs (bs.getD 14 0 * 256 + bs.getD 15 0) rfl (by omega) rfl hbyt (moreL hrd [_]) st) ?_
    rintro _ w ⟨rfl, st⟩
    refine TL.nxt (by first | exact st | exact st.drop | exact st.drop1 | exact st.drop2 | exact st.drop3 | exact st.drop4 | exact st.drop.drop | exact st.drop.drop1 | exact st.drop.drop2 | exact st.drop.drop3 | exact st.drop.drop4 | exact st.drop.drop.drop | exact st_dropL st | exact st_dropL st.drop | exact st_none st) ?_
    refine TL.at ?_
    -- R6.30 57 := tcp.go:32 call
    refine WL.call (r_call ty_call38 rfl) rfl rfl rfl (u16_at b o 16 _ _ bs (bs.getD 16 0 * 256 + bs.getD 17 0) rfl (by omega) rfl hbyt (moreL hrd [_]) st) ?_
    rintro _ w ⟨rfl, st⟩
    refine TL.nxt (by first | exact st | exact st.drop | exact st.drop1 | exact st.drop2 | exact st.drop3 | exact st.drop4 | exact st.drop.drop | exact st.drop.drop1 | exact st.drop.drop2 | exact st.drop.drop3 | exact st.drop.drop4 | exact st.drop.drop.drop | exact st_dropL st | exact st_dropL st.drop | exact st_none st) ?_
    refine TL.at ?_
    -- R6.34 61 := tcp.go:33 call
    refine WL.call (r_call ty_call38 rfl) rfl rfl rfl (u16_at b o 18 _ _ bs (bs.getD 18 0 * 256 + bs.getD 19 0) rfl (by omega) rfl hbyt (moreL hrd [_]) st) ?_
    rintro _ w ⟨rfl, st⟩
    refine TL.nxt (by first | exact st | exact st.drop | exact st.drop1 | exact st.drop2 | exact st.drop3 | exact st.drop4 | exact st.drop.drop | exact st.drop.drop1 | exact st.drop.drop2 | exact st.drop.drop3 | exact st.drop.drop4 | exact st.drop.drop.drop | exact st_dropL st | exact st_dropL st.drop | exact st_none st) ?_
    refine TL.at ?_
    -- R6.35 62 := tcp.go:24 build
    refine WL.v (by exact r_build (ps := [(0, .int _ _), (1, .int _ _), (2, .int _ _), (3, .int _ _), (4, .int _ _), (5, .int _ _), (6, .int _ _), (7, .int _ _), (8, .int _ _)]) (vs := [_, _, _, _, _, _, _, _, _, _]) ty_pl39 ty_zero39 rfl (fill_step (pv := [_]) (cs' := [_, _, _, _, _, _, _, _, _, _]) rfl rfl rfl rfl (fill_step (pv := [_]) (cs' := [_, _, _, _, _, _, _, _, _, _]) rfl rfl rfl rfl (fill_step (pv := [_]) (cs' := [_, _, _, _, _, _, _, _, _, _]) rfl rfl rfl rfl (fill_step (pv := [_]) (cs' := [_, _, _, _, _, _, _, _, _, _]) rfl rfl rfl rfl (fill_step (pv := [_]) (cs' := [_, _, _, _, _, _, _, _, _, _]) rfl rfl rfl rfl (fill_step (pv := [_]) (cs' := [_, _, _, _, _, _, _, _, _, _]) rfl rfl rfl rfl (fill_step (pv := [_]) (cs' := [_, _, _, _, _, _, _, _, _, _]) rfl rfl rfl rfl (fill_step (pv := [_]) (cs' := [_, _, _, _, _, _, _, _, _, _]) rfl rfl rfl rfl (fill_step (pv := [_]) (cs' := [_, _, _, _, _, _, _, _, _, _]) rfl rfl rfl rfl (fill_nil))))))))))) rfl rfl rfl ?_
    refine TL.nxt' rfl ?_
    refine TL.at ?_
    -- R6.36 None := tcp.go:24 store
    first | refine WL.storeW (vs := [_, _, _, _, _, _, _, _, _, _]) st ty_agg39 rfl rfl rfl rfl rfl rfl ?_ | refine WL.storeL (vs := [_, _, _, _, _, _, _, _, _, _]) st ty_agg39 rfl rfl rfl rfl (by first | decide | omega) rfl rfl ?_ | refine WL.storeW (vs := [_, _, _, _, _, _, _, _, _, _]) st.front1 ty_agg39 rfl rfl rfl rfl rfl rfl ?_ | refine WL.storeL (vs := [_, _, _, _, _, _, _, _, _, _]) st.front1 ty_agg39 rfl rfl rfl rfl (by first | decide | omega) rfl rfl ?_ | refine WL.storeW (vs := [_, _, _, _, _, _, _, _, _, _]) st.front2 ty_agg39 rfl rfl rfl rfl rfl rfl ?_ | refine WL.storeL (vs := [_, _, _, _, _, _, _, _, _, _]) st.front2 ty_agg39 rfl rfl rfl rfl (by first | decide | omega) rfl rfl ?_ | refine WL.storeW (vs := [_, _, _, _, _, _, _, _, _, _]) st.front3 ty_agg39 rfl rfl rfl rfl rfl rfl ?_ | refine WL.storeL (vs := [_, _, _, _, _, _, _, _, _, _]) st.front3 ty_agg39 rfl rfl rfl rfl (by first | decide | omega) rfl rfl ?_ | refine WL.storeW (vs := [_, _, _, _, _, _, _, _, _, _]) st.front4 ty_agg39 rfl rfl rfl rfl rfl rfl ?_ | refine WL.storeL (vs := [_, _, _, _, _, _, _, _, _, _]) st.front4 ty_agg39 rfl rfl rfl rfl (by first | decide | omega) rfl rfl ?_ | refine WL.storeW (vs := [_, _, _, _, _, _, _, _, _, _]) st.front5 ty_agg39 rfl rfl rfl rfl rfl rfl ?_ | refine WL.storeL (vs := [_, _, _, _, _, _, _, _, _, _]) st.front5 ty_agg39 rfl rfl rfl rfl (by first | decide | omega) rfl rfl ?_ | refine WL.storeW (vs := [_, _, _, _, _, _, _, _, _, _]) st.front6 ty_agg39 rfl rfl rfl rfl rfl rfl ?_ | refine WL.storeL (vs := [_, _, _, _, _, _, _, _, _, _]) st.front6 ty_agg39 rfl rfl rfl rfl (by first | decide | omega) rfl rfl ?_ | refine WL.storeW (vs := [_, _, _, _, _, _, _, _, _, _]) st.front7 ty_agg39 rfl rfl rfl rfl rfl rfl ?_ | refine WL.storeL (vs := [_, _, _, _, _, _, _, _, _, _]) st.front7 ty_agg39 rfl rfl rfl rfl (by first | decide | omega) rfl rfl ?_ | refine WL.storeW (vs := [_, _, _, _, _, _, _, _, _, _]) st.front8 ty_agg39 rfl rfl rfl rfl rfl rfl ?_ | refine WL.storeL (vs := [_, _, _, _, _, _, _, _, _, _]) st.front8 ty_agg39 rfl rfl rfl rfl (by first | decide | omega) rfl rfl ?_
    intro w st
    refine TL.nxt' rfl ?_
    refine TL.wl ?_
    refine WL.fin hK331 (fun _ _ h => h) ?_
    refine WC.seq fun K332 hK332 => ?_
    refine WC.seq fun K333 hK333 => ?_
    -- region 7
    have st := st_nrm (L' := tcpL (tcpX bs) (.slice none 0 0)) rfl st
    refine WC.region ?_
    -- R7.0 63 := tcp.go:35 move
    refine WL.v (by first | exact r_move (v := .int _ _) rfl | exact r_move rfl) rfl rfl rfl ?_
    -- R7.1 64 := tcp.go:35 binOp
    refine WL.v (by first | exact r_gtr rfl rfl (decide_eq_true (by omega)) | exact r_gtr rfl rfl (decide_eq_false (by omega)) | exact r_gtr rfl rfl rfl) rfl rfl rfl ?_
    refine WL.fin hK333 (fun _ _ h => h) ?_
    refine WC.condT rfl rfl ?_
    -- region 8
    refine WC.region ?_
    -- R8.0 65 := tcp.go:36 move
    refine WL.v (by first | exact r_move (v := .slice _ _ _) rfl | exact r_move rfl) rfl rfl rfl ?_
    -- R8.1 66 := tcp.go:36 move
    refine WL.v (by first | exact r_move (v := .int _ _) rfl | exact r_move rfl) rfl rfl rfl ?_
    -- R8.2 67 := tcp.go:36 move
    refine WL.v (by first | exact r_move (v := .int _ _) rfl | exact r_move rfl) rfl rfl rfl ?_
    -- R8.3 68 := tcp.go:36 slice
    refine WL.v (by first | exact r_slS (l := 20) (h := q * 4) (m := q * 4) ty_sl25 rfl ⟨_, rfl⟩ ⟨_, rfl⟩ ⟨_, rfl⟩ (fun h => by first | rfl | cases h) (by omega) (by omega) (by omega) (by omega) | exact r_sl (l := 20) (h := q * 4) (m := q * 4) ty_sl25 rfl ⟨_, rfl⟩ ⟨_, rfl⟩ ⟨_, rfl⟩ (fun h => by first | rfl | cases h) (by omega) (by omega) (by omega)) rfl rfl rfl ?_
    -- R8.4 69 := tcp.go:36 fieldAddr
    refine WL.v (by exact r_field ty_fld39_9 rfl) rfl rfl rfl ?_
    -- R8.5 None := tcp.go:36 store
    first | refine WL.store (v := .slice _ _ _) st ty_one25 rfl rfl rfl (by first | decide | omega) rfl rfl ?_ | refine WL.store (v := _) st ty_one25 rfl rfl rfl (by first | decide | omega) rfl rfl ?_ | refine WL.store (v := .slice _ _ _) st.front1 ty_one25 rfl rfl rfl (by first | decide | omega) rfl rfl ?_ | refine WL.store (v := _) st.front1 ty_one25 rfl rfl rfl (by first | decide | omega) rfl rfl ?_ | refine WL.store (v := .slice _ _ _) st.front2 ty_one25 rfl rfl rfl (by first | decide | omega) rfl rfl ?_ | refine WL.store (v := _) st.front2 ty_one25 rfl rfl rfl (by first | decide | omega) rfl rfl ?_ | refine WL.store (v := .slice _ _ _) st.front3 ty_one25 rfl rfl rfl (by first | decide | omega) rfl rfl ?_ | refine WL.store (v := _) st.front3 ty_one25 rfl rfl rfl (by first | decide | omega) rfl rfl ?_ | refine WL.store (v := .slice _ _ _) st.front4 ty_one25 rfl rfl rfl (by first | decide | omega) rfl rfl ?_ | refine WL.store (v := _) st.front4 ty_one25 rfl rfl rfl (by first | decide | omega) rfl rfl ?_ | refine WL.store (v := .slice _ _ _) st.front5 ty_one25 rfl rfl rfl (by first | decide | omega) rfl rfl ?_ | refine WL.store (v := _) st.front5 ty_one25 rfl rfl rfl (by first | decide | omega) rfl rfl ?_ | refine WL.store (v := .slice _ _ _) st.front6 ty_one25 rfl rfl rfl (by first | decide | omega) rfl rfl ?_ | refine WL.store (v := _) st.front6 ty_one25 rfl rfl rfl (by first | decide | omega) rfl rfl ?_ | refine WL.store (v := .slice _ _ _) st.front7 ty_one25 rfl rfl rfl (by first | decide | omega) rfl rfl ?_ | refine WL.store (v := _) st.front7 ty_one25 rfl rfl rfl (by first | decide | omega) rfl rfl ?_ | refine WL.store (v := .slice _ _ _) st.front8 ty_one25 rfl rfl rfl (by first | decide | omega) rfl rfl ?_ | refine WL.store (v := _) st.front8 ty_one25 rfl rfl rfl (by first | decide | omega) rfl rfl ?_
    intro w st
    refine WL.fin hK332 (fun _ _ h => h) ?_
    refine WC.seq fun K334 hK334 => ?_
    -- region 9 (draws)
    refine WC.heldS2 [4, 5, 6] [0] [1, 2, 3] [4, 5, 6] st (st) ty_mixed (by kernel_rfl) fun w st Kq Kq2 hKq hKq2 => ?_
    -- R9.0 70 := tcp.go:38 load
    refine HL.v (fun w st => by exact r_loadL (vs := [_, _, _, _, _, _, _, _, _, _]) ty_agg39 rfl ⟨st.c0 (by decide), st.c0 (by decide), st.c0 (by decide), st.c0 (by decide), st.c0 (by decide), st.c0 (by decide), st.c0 (by decide), st.c0 (by decide), st.c0 (by decide), st.c0 (by decide), trivial⟩) rfl rfl rfl ?_
    refine HL.pure hKq ?_
    -- R9.1 71 := tcp.go:38 move
    refine HL.v (fun w _ => by first | exact r_move (v := .slice _ _ _) rfl | exact r_move rfl) rfl rfl rfl ?_
    -- R9.2 72 := tcp.go:38 move
    refine HL.v (fun w _ => by first | exact r_move (v := .int _ _) rfl | exact r_move rfl) rfl rfl rfl ?_
    -- R9.3 73 := tcp.go:38 slice
    refine HL.v (fun w _ => by exact r_sl (l := q * 4) ty_sl25 rfl ⟨_, rfl⟩ rfl rfl (fun h => by first | rfl | cases h) (by omega) (by omega) (by omega)) rfl rfl rfl ?_
    refine HL.fin hKq2 ?_
    refine TL.at ?_
    -- R9.4 None := tcp.go:38 store
    first | refine WL.storeW (vs := [_, _, _, _, _, _, _, _, _, _]) st ty_agg39 rfl rfl rfl rfl rfl rfl ?_ | refine WL.storeL (vs := [_, _, _, _, _, _, _, _, _, _]) st ty_agg39 rfl rfl rfl rfl (by first | decide | omega) rfl rfl ?_ | refine WL.storeW (vs := [_, _, _, _, _, _, _, _, _, _]) st.front1 ty_agg39 rfl rfl rfl rfl rfl rfl ?_ | refine WL.storeL (vs := [_, _, _, _, _, _, _, _, _, _]) st.front1 ty_agg39 rfl rfl rfl rfl (by first | decide | omega) rfl rfl ?_ | refine WL.storeW (vs := [_, _, _, _, _, _, _, _, _, _]) st.front2 ty_agg39 rfl rfl rfl rfl rfl rfl ?_ | refine WL.storeL (vs := [_, _, _, _, _, _, _, _, _, _]) st.front2 ty_agg39 rfl rfl rfl rfl (by first | decide | omega) rfl rfl ?_ | refine WL.storeW (vs := [_, _, _, _, _, _, _, _, _, _]) st.front3 ty_agg39 rfl rfl rfl rfl rfl rfl ?_ | refine WL.storeL (vs := [_, _, _, _, _, _, _, _, _, _]) st.front3 ty_agg39 rfl rfl rfl rfl (by first | decide | omega) rfl rfl ?_ | refine WL.storeW (vs := [_, _, _, _, _, _, _, _, _, _]) st.front4 ty_agg39 rfl rfl rfl rfl rfl rfl ?_ | refine WL.storeL (vs := [_, _, _, _, _, _, _, _, _, _]) st.front4 ty_agg39 rfl rfl rfl rfl (by first | decide | omega) rfl rfl ?_ | refine WL.storeW (vs := [_, _, _, _, _, _, _, _, _, _]) st.front5 ty_agg39 rfl rfl rfl rfl rfl rfl ?_ | refine WL.storeL (vs := [_, _, _, _, _, _, _, _, _, _]) st.front5 ty_agg39 rfl rfl rfl rfl (by first | decide | omega) rfl rfl ?_ | refine WL.storeW (vs := [_, _, _, _, _, _, _, _, _, _]) st.front6 ty_agg39 rfl rfl rfl rfl rfl rfl ?_ | refine WL.storeL (vs := [_, _, _, _, _, _, _, _, _, _]) st.front6 ty_agg39 rfl rfl rfl rfl (by first | decide | omega) rfl rfl ?_ | refine WL.storeW (vs := [_, _, _, _, _, _, _, _, _, _]) st.front7 ty_agg39 rfl rfl rfl rfl rfl rfl ?_ | refine WL.storeL (vs := [_, _, _, _, _, _, _, _, _, _]) st.front7 ty_agg39 rfl rfl rfl rfl (by first | decide | omega) rfl rfl ?_ | refine WL.storeW (vs := [_, _, _, _, _, _, _, _, _, _]) st.front8 ty_agg39 rfl rfl rfl rfl rfl rfl ?_ | refine WL.storeL (vs := [_, _, _, _, _, _, _, _, _, _]) st.front8 ty_agg39 rfl rfl rfl rfl (by first | decide | omega) rfl rfl ?_
    intro w st
    refine TL.nxt' rfl ?_
    refine TL.at ?_
    -- R9.5 3 := tcp.go:38 assign
    refine WL.v (by first | exact r_assign (v := .slice _ _ _) rfl | exact r_assign rfl) rfl rfl rfl ?_
    refine TL.nxt' rfl ?_
    refine TL.at ?_
    -- R9.6 4 := tcp.go:38 assign
    refine WL.v (by first | exact r_assign (v := .nilIface) rfl | exact r_assign (v := .iface _ _) rfl | exact r_assign rfl) rfl rfl rfl ?_
    refine TL.nxt' rfl ?_
    refine TL.wl ?_
    refine WL.fin hK334 (fun _ _ h => h) ?_
    refine WC.retCTT (vs := [_, _, _, _, _, _, _, _, _, _]) Tryd.results31 (fun _ _ h => h) rfl ty_agg39 rfl ⟨st.c0 (by decide), st.c0 (by decide), st.c0 (by decide), st.c0 (by decide), st.c0 (by decide), st.c0 (by decide), st.c0 (by decide), st.c0 (by decide), st.c0 (by decide), st.c0 (by decide), trivial⟩ ?_
    have e1 : (SV.sub ⟨some ⟨b, o, none⟩, c, b, o, bs⟩ 20 (q * 4) (q * 4)).v = .slice (some ⟨b, o + 20 * 1, none⟩) (q * 4 - 20) (q * 4 - 20) := (SV.sub_v (by simp only; omega)).trans (by rw [slA_some (by omega)])
    refine ⟨_, rfl, ⟨fun _ => 0, tcpX bs, SV.sub ⟨some ⟨b, o, none⟩, c, b, o, bs⟩ 20 (q * 4) (q * 4), _, .nilIface, ?_, .inr ⟨rfl, hI, rfl, rfl, ⟨SV.sub_ok hsok (by omega) (by simp only; omega) (by omega) (by simp only; omega), by rw [hqh]; rfl, fun w' h => SV.sub_rd h (by simp only; omega)⟩, hp2⟩⟩, st.drop⟩
    rw [hqh, e1, e2]; rfl
  · skip
    refine enter [.slice (some ⟨b, o, none⟩) bs.length c] Tryd.func31 rfl Tryd.ntmps31 rfl ?_
    show WC _ _ _ 74 [] [(0, .slice (some ⟨b, o, none⟩) bs.length c)] _
    refine WC.seq fun K335 hK335 => ?_
    -- region 0
    refine WC.region ?_
    -- R0.0 2 := tcp.go:16 alloc
    refine WL.alloc (m := 10) st ty_zero39 rfl rfl rfl ?_
    intro b2 w st
    -- R0.1 3 := tcp.go:16 assign
    refine WL.v (by first | exact r_assign (v := .slice _ _ _) rfl | exact r_assign rfl) rfl rfl rfl ?_
    -- R0.2 4 := tcp.go:16 assign
    refine WL.v (by first | exact r_assign (v := .nilIface) rfl | exact r_assign (v := .iface _ _) rfl | exact r_assign rfl) rfl rfl rfl ?_
    refine WL.fin hK335 (fun _ _ h => h) ?_
    refine WC.seq fun K336 hK336 => ?_
    refine WC.seq fun K337 hK337 => ?_
    -- region 1
    refine WC.region ?_
    -- R1.0 6 := tcp.go:17 move
    refine WL.v (by first | exact r_move (v := .slice _ _ _) rfl | exact r_move rfl) rfl rfl rfl ?_
    -- R1.1 7 := tcp.go:17 call
    refine WL.v (by exact r_len ty_usl25 rfl) rfl rfl rfl ?_
    -- R1.2 8 := tcp.go:17 binOp
    refine WL.v (by first | exact r_lss rfl rfl (decide_eq_true (by omega)) | exact r_lss rfl rfl (decide_eq_false (by omega)) | exact r_lss rfl rfl rfl) rfl rfl rfl ?_
    refine WL.fin hK337 (fun _ _ h => h) ?_
    refine WC.condF rfl rfl ?_
    refine WC.skipF hK336 (fun _ _ h => h) ?_
    refine WC.seq fun K338 hK338 => ?_
    -- region 3
    refine WC.region ?_
    -- R3.0 11 := tcp.go:20 move
    refine WL.v (by first | exact r_move (v := .slice _ _ _) rfl | exact r_move rfl) rfl rfl rfl ?_
    -- R3.1 12 := tcp.go:20 indexAddr
    refine WL.v (by exact r_indexS (j := 12) ty_sl25 rfl rfl rfl (by first | decide | omega)) rfl rfl rfl ?_
    -- R3.2 13 := tcp.go:20 load
    refine WL.v (by exact r_load1 ty_one5 rfl (hrd [_] _ st 12 (by omega))) rfl rfl rfl ?_
    -- R3.3 14 := tcp.go:20 binOp
    refine WL.v (by exact r_shr (r := (q : Int)) rfl rfl (by omega) ((shr_u 4).trans hq)) rfl rfl rfl ?_
    -- R3.4 15 := tcp.go:20 convert
    refine WL.v (by first | exact r_conv ty_cv5_3 rfl (wi64 (by omega) (by omega)) | exact r_conv ty_cv5_3 rfl rfl) rfl rfl rfl ?_
    -- R3.5 16 := tcp.go:20 binOp
    refine WL.v (by exact r_mul (r := ((q * 4 : Nat) : Int)) rfl rfl (by rw [wi64 (by omega) (by omega)]; omega)) rfl rfl rfl ?_
    -- R3.6 5 := tcp.go:20 assign
    refine WL.v (by first | exact r_assign (v := .int _ _) rfl | exact r_assign rfl) rfl rfl rfl ?_
    refine WL.fin hK338 (fun _ _ h => h) ?_
    refine WC.seq fun K339 hK339 => ?_
    refine WC.seq fun K340 hK340 => ?_
    -- region 4
    refine WC.region ?_
    -- R4.0 17 := tcp.go:21 move
    refine WL.v (by first | exact r_move (v := .int _ _) rfl | exact r_move rfl) rfl rfl rfl ?_
    -- R4.1 18 := tcp.go:21 binOp
    refine WL.v (by first | exact r_lss rfl rfl (decide_eq_true (by omega)) | exact r_lss rfl rfl (decide_eq_false (by omega)) | exact r_lss rfl rfl rfl) rfl rfl rfl ?_
    -- R4.2 19 := tcp.go:21 move
    refine WL.v (by first | exact r_move (v := .bool _) rfl | exact r_move rfl) rfl rfl rfl ?_
    -- R4.3 20 := tcp.go:21 move
    refine WL.v (by first | exact r_move (v := .int _ _) rfl | exact r_move rfl) rfl rfl rfl ?_
    -- R4.4 21 := tcp.go:21 move
    refine WL.v (by first | exact r_move (v := .slice _ _ _) rfl | exact r_move rfl) rfl rfl rfl ?_
    -- R4.5 22 := tcp.go:21 call
    refine WL.v (by exact r_len ty_usl25 rfl) rfl rfl rfl ?_
    -- R4.6 23 := tcp.go:21 binOp
    refine WL.v (by first | exact r_gtr rfl rfl (decide_eq_true (by omega)) | exact r_gtr rfl rfl (decide_eq_false (by omega)) | exact r_gtr rfl rfl rfl) rfl rfl rfl ?_
    -- R4.7 24 := tcp.go:21 pick
    refine WL.v (by first | exact r_pickT (v := .bool _) rfl rfl | exact r_pickF (v := .bool _) rfl rfl) rfl rfl rfl ?_
    refine WL.fin hK340 (fun _ _ h => h) ?_
    refine WC.condF rfl rfl ?_
    refine WC.skipF hK339 (fun _ _ h => h) ?_
    refine WC.seq fun K341 hK341 => ?_
    -- region 6 (draws)
    refine WC.heldS2 [35, 36] [0, 4, 8, 12, 16, 17, 18, 20, 21, 22, 23, 27, 31] [1, 2, 5, 6, 9, 10, 13, 14, 19, 24, 25, 28, 29, 32, 33] [3, 7, 11, 15, 26, 30, 34, 35, 36] st (st) ty_mixed (by kernel_rfl) fun w st Kq Kq2 hKq hKq2 => ?_
    -- R6.0 27 := tcp.go:24 load
    refine HL.v (fun w st => by exact r_loadL (vs := []) ty_agg83 rfl trivial) rfl rfl rfl ?_
    -- R6.4 31 := tcp.go:24 load
    refine HL.v (fun w st => by exact r_loadL (vs := []) ty_agg83 rfl trivial) rfl rfl rfl ?_
    -- R6.8 35 := tcp.go:24 load
    refine HL.v (fun w st => by exact r_loadL (vs := []) ty_agg83 rfl trivial) rfl rfl rfl ?_
    -- R6.12 39 := tcp.go:24 load
    refine HL.v (fun w st => by exact r_loadL (vs := []) ty_agg83 rfl trivial) rfl rfl rfl ?_
    -- R6.16 43 := tcp.go:24 move
    refine HL.v (fun w st => by first | exact r_move (v := .slice _ _ _) rfl | exact r_move rfl) rfl rfl rfl ?_
    -- R6.17 44 := tcp.go:24 indexAddr
    refine HL.v (fun w st => by exact r_indexS (j := 12) ty_sl25 rfl rfl rfl (by first | decide | omega)) rfl rfl rfl ?_
    -- R6.18 45 := tcp.go:24 load
    refine HL.v (fun w st => by exact r_load1 ty_one5 rfl (hrd [_] _ st 12 (by omega))) rfl rfl rfl ?_
    -- R6.20 47 := tcp.go:24 move
    refine HL.v (fun w st => by first | exact r_move (v := .slice _ _ _) rfl | exact r_move rfl) rfl rfl rfl ?_
    -- R6.21 48 := tcp.go:24 indexAddr
    refine HL.v (fun w st => by exact r_indexS (j := 13) ty_sl25 rfl rfl rfl (by first | decide | omega)) rfl rfl rfl ?_
    -- R6.22 49 := tcp.go:24 load
    refine HL.v (fun w st => by exact r_load1 ty_one5 rfl (hrd [_] _ st 13 (by omega))) rfl rfl rfl ?_
    -- R6.23 50 := tcp.go:24 load
    refine HL.v (fun w st => by exact r_loadL (vs := []) ty_agg83 rfl trivial) rfl rfl rfl ?_
    -- R6.27 54 := tcp.go:24 load
    refine HL.v (fun w st => by exact r_loadL (vs := []) ty_agg83 rfl trivial) rfl rfl rfl ?_
    -- R6.31 58 := tcp.go:24 load
    refine HL.v (fun w st => by exact r_loadL (vs := []) ty_agg83 rfl trivial) rfl rfl rfl ?_
    refine HL.pure hKq ?_
    -- R6.1 28 := tcp.go:24 move
    refine HL.v (fun w _ => by first | exact r_move (v := .slice _ _ _) rfl | exact r_move rfl) rfl rfl rfl ?_
    -- R6.2 29 := tcp.go:24 slice
    refine HL.v (fun w _ => by first | exact r_slS (l := 0) (h := 2) ty_sl25 rfl ⟨_, rfl⟩ ⟨_, rfl⟩ rfl (fun h => by first | rfl | cases h) (by omega) (by omega) (by omega) (by omega) | exact r_sl (l := 0) (h := 2) ty_sl25 rfl ⟨_, rfl⟩ ⟨_, rfl⟩ rfl (fun h => by first | rfl | cases h) (by omega) (by omega) (by omega)) rfl rfl rfl ?_
    -- R6.5 32 := tcp.go:24 move
    refine HL.v (fun w _ => by first | exact r_move (v := .slice _ _ _) rfl | exact r_move rfl) rfl rfl rfl ?_
    -- R6.6 33 := tcp.go:24 slice
    refine HL.v (fun w _ => by first | exact r_slS (l := 2) (h := 4) ty_sl25 rfl ⟨_, rfl⟩ ⟨_, rfl⟩ rfl (fun h => by first | rfl | cases h) (by omega) (by omega) (by omega) (by omega) | exact r_sl (l := 2) (h := 4) ty_sl25 rfl ⟨_, rfl⟩ ⟨_, rfl⟩ rfl (fun h => by first | rfl | cases h) (by omega) (by omega) (by omega)) rfl rfl rfl ?_
    -- R6.9 36 := tcp.go:24 move
    refine HL.v (fun w _ => by first | exact r_move (v := .slice _ _ _) rfl | exact r_move rfl) rfl rfl rfl ?_
    -- R6.10 37 := tcp.go:24 slice
    refine HL.v (fun w _ => by first | exact r_slS (l := 4) (h := 8) ty_sl25 rfl ⟨_, rfl⟩ ⟨_, rfl⟩ rfl (fun h => by first | rfl | cases h) (by omega) (by omega) (by omega) (by omega) | exact r_sl (l := 4) (h := 8) ty_sl25 rfl ⟨_, rfl⟩ ⟨_, rfl⟩ rfl (fun h => by first | rfl | cases h) (by omega) (by omega) (by omega)) rfl rfl rfl ?_
    -- R6.13 40 := tcp.go:24 move
    refine HL.v (fun w _ => by first | exact r_move (v := .slice _ _ _) rfl | exact r_move rfl) rfl rfl rfl ?_
    -- R6.14 41 := tcp.go:24 slice
    refine HL.v (fun w _ => by first | exact r_slS (l := 8) (h := 12) ty_sl25 rfl ⟨_, rfl⟩ ⟨_, rfl⟩ rfl (fun h => by first | rfl | cases h) (by omega) (by omega) (by omega) (by omega) | exact r_sl (l := 8) (h := 12) ty_sl25 rfl ⟨_, rfl⟩ ⟨_, rfl⟩ rfl (fun h => by first | rfl | cases h) (by omega) (by omega) (by omega)) rfl rfl rfl ?_
    -- R6.19 46 := tcp.go:24 binOp
    refine HL.v (fun w _ => by exact r_and (r := bs.getD 12 0 % 16) rfl rfl ((congrArg IntKind.u8.wrap (and_u 8 4 g12.1 (by omega) (by omega))).trans (wu8 (by omega) (by omega)))) rfl rfl rfl ?_
    -- R6.24 51 := tcp.go:24 move
    refine HL.v (fun w _ => by first | exact r_move (v := .slice _ _ _) rfl | exact r_move rfl) rfl rfl rfl ?_
    -- R6.25 52 := tcp.go:24 slice
    refine HL.v (fun w _ => by first | exact r_slS (l := 14) (h := 16) ty_sl25 rfl ⟨_, rfl⟩ ⟨_, rfl⟩ rfl (fun h => by first | rfl | cases h) (by omega) (by omega) (by omega) (by omega) | exact r_sl (l := 14) (h := 16) ty_sl25 rfl ⟨_, rfl⟩ ⟨_, rfl⟩ rfl (fun h => by first | rfl | cases h) (by omega) (by omega) (by omega)) rfl rfl rfl ?_
    -- R6.28 55 := tcp.go:24 move
    refine HL.v (fun w _ => by first | exact r_move (v := .slice _ _ _) rfl | exact r_move rfl) rfl rfl rfl ?_
    -- R6.29 56 := tcp.go:24 slice
    refine HL.v (fun w _ => by first | exact r_slS (l := 16) (h := 18) ty_sl25 rfl ⟨_, rfl⟩ ⟨_, rfl⟩ rfl (fun h => by first | rfl | cases h) (by omega) (by omega) (by omega) (by omega) | exact r_sl (l := 16) (h := 18) ty_sl25 rfl ⟨_, rfl⟩ ⟨_, rfl⟩ rfl (fun h => by first | rfl | cases h) (by omega) (by omega) (by omega)) rfl rfl rfl ?_
    -- R6.32 59 := tcp.go:24 move
    refine HL.v (fun w _ => by first | exact r_move (v := .slice _ _ _) rfl | exact r_move rfl) rfl rfl rfl ?_
    -- R6.33 60 := tcp.go:24 slice
    refine HL.v (fun w _ => by first | exact r_slS (l := 18) (h := 20) ty_sl25 rfl ⟨_, rfl⟩ ⟨_, rfl⟩ rfl (fun h => by first | rfl | cases h) (by omega) (by omega) (by omega) (by omega) | exact r_sl (l := 18) (h := 20) ty_sl25 rfl ⟨_, rfl⟩ ⟨_, rfl⟩ rfl (fun h => by first | rfl | cases h) (by omega) (by omega) (by omega)) rfl rfl rfl ?_
    refine HL.fin hKq2 ?_
    refine TL.at ?_
    -- R6.3 30 := tcp.go:25 call
    refine WL.call (r_call ty_call38 rfl) rfl rfl rfl (u16_at b o 0 _ _ bs (bs.getD 0 0 * 256 + bs.getD 1 0) rfl (by omega) rfl hbyt (moreL hrd [_]) st) ?_
    rintro _ w ⟨rfl, st⟩
    refine TL.nxt (by first | exact st | exact st.drop | exact st.drop1 | exact st.drop2 | exact st.drop3 | exact st.drop4 | exact st.drop.drop | exact st.drop.drop1 | exact st.drop.drop2 | exact st.drop.drop3 | exact st.drop.drop4 | exact st.drop.drop.drop | exact st_dropL st | exact st_dropL st.drop | exact st_none st) ?_
    refine TL.at ?_
    -- R6.7 34 := tcp.go:26 call
    refine WL.call (r_call ty_call38 rfl) rfl rfl rfl (u16_at b o 2 _ _ bs (bs.getD 2 0 * 256 + bs.getD 3 0) rfl (by omega) rfl hbyt (moreL hrd [_]) st) ?_
    rintro _ w ⟨rfl, st⟩
    refine TL.nxt (by first | exact st | exact st.drop | exact st.drop1 | exact st.drop2 | exact st.drop3 | exact st.drop4 | exact st.drop.drop | exact st.drop.drop1 | exact st.drop.drop2 | exact st.drop.drop3 | exact st.drop.drop4 | exact st.drop.drop.drop | exact st_dropL st | exact st_dropL st.drop | exact st_none st) ?_
    refine TL.at ?_
    -- R6.11 38 := tcp.go:27 call
    refine WL.call (r_call ty_call37 rfl) rfl rfl rfl (u32_at b o 4 _ _ bs (bs.getD 4 0 * 16777216 + bs.getD 5 0 * 65536 + bs.getD 6 0 * 256 + bs.getD 7 0) rfl (by omega) rfl hbyt (moreL hrd [_]) st) ?_
    rintro _ w ⟨rfl, st⟩
    refine TL.nxt (by first | exact st | exact st.drop | exact st.drop1 | exact st.drop2 | exact st.drop3 | exact st.drop4 | exact st.drop.drop | exact st.drop.drop1 | exact st.drop.drop2 | exact st.drop.drop3 | exact st.drop.drop4 | exact st.drop.drop.drop | exact st_dropL st | exact st_dropL st.drop | exact st_none st) ?_
    refine TL.at ?_
    -- R6.15 42 := tcp.go:28 call
    refine WL.call (r_call ty_call37 rfl) rfl rfl rfl (u32_at b o 8 _ _ bs (bs.getD 8 0 * 16777216 + bs.getD 9 0 * 65536 + bs.getD 10 0 * 256 + bs.getD 11 0) rfl (by omega) rfl hbyt (moreL hrd [_]) st) ?_
    rintro _ w ⟨rfl, st⟩
    refine TL.nxt (by first | exact st | exact st.drop | exact st.drop1 | exact st.drop2 | exact st.drop3 | exact st.drop4 | exact st.drop.drop | exact st.drop.drop1 | exact st.drop.drop2 | exact st.drop.drop3 | exact st.drop.drop4 | exact st.drop.drop.drop | exact st_dropL st | exact st_dropL st.drop | exact st_none st) ?_
    refine TL.at ?_
    -- R6.26 53 := tcp.go:31 call
    refine WL.call (r_call ty_call38 rfl) rfl rfl rfl (u16_at b o 14 _ _ bs (bs.getD 14 0 * 256 + bs.getD 15 0) rfl (by omega) rfl hbyt (moreL hrd [_]) st) ?_
    rintro _ w ⟨rfl, st⟩
    refine TL.nxt (by first | exact st | exact st.drop | exact st.drop1 | exact st.drop2 | exact st.drop3 | exact st.drop4 | exact st.drop.drop | exact st.drop.drop1 | exact st.drop.drop2 | exact st.drop.drop3 | exact st.drop.drop4 | exact st.drop.drop.drop | exact st_dropL st | exact st_dropL st.drop | exact st_none st) ?_
    refine TL.at ?_
    -- R6.30 57 := tcp.go:32 call
    refine WL.call (r_call ty_call38 rfl) rfl rfl rfl (u16_at b o 16 _ _ bs (bs.getD 16 0 * 256 + bs.getD 17 0) rfl (by omega) rfl hbyt (moreL hrd [_]) st) ?_
    rintro _ w ⟨rfl, st⟩
    refine TL.nxt (by first | exact st | exact st.drop | exact st.drop1 | exact st.drop2 | exact st.drop3 | exact st.drop4 | exact st.drop.drop | exact st.drop.drop1 | exact st.drop.drop2 | exact st.drop.drop3 | exact st.drop.drop4 | exact st.drop.drop.drop | exact st_dropL st | exact st_dropL st.drop | exact st_none st) ?_
    refine TL.at ?_
    -- R6.34 61 := tcp.go:33 call
    refine WL.call (r_call ty_call38 rfl) rfl rfl rfl (u16_at b o 18 _ _ bs (bs.getD 18 0 * 256 + bs.getD 19 0) rfl (by omega) rfl hbyt (moreL hrd [_]) st) ?_
    rintro _ w ⟨rfl, st⟩
    refine TL.nxt (by first | exact st | exact st.drop | exact st.drop1 | exact st.drop2 | exact st.drop3 | exact st.drop4 | exact st.drop.drop | exact st.drop.drop1 | exact st.drop.drop2 | exact st.drop.drop3 | exact st.drop.drop4 | exact st.drop.drop.drop | exact st_dropL st | exact st_dropL st.drop | exact st_none st) ?_
    refine TL.at ?_
    -- R6.35 62 := tcp.go:24 build
    refine WL.v (by exact r_build (ps := [(0, .int _ _), (1, .int _ _), (2, .int _ _), (3, .int _ _), (4, .int _ _), (5, .int _ _), (6, .int _ _), (7, .int _ _), (8, .int _ _)]) (vs := [_, _, _, _, _, _, _, _, _, _]) ty_pl39 ty_zero39 rfl (fill_step (pv := [_]) (cs' := [_, _, _, _, _, _, _, _, _, _]) rfl rfl rfl rfl (fill_step (pv := [_]) (cs' := [_, _, _, _, _, _, _, _, _, _]) rfl rfl rfl rfl (fill_step (pv := [_]) (cs' := [_, _, _, _, _, _, _, _, _, _]) rfl rfl rfl rfl (fill_step (pv := [_]) (cs' := [_, _, _, _, _, _, _, _, _, _]) rfl rfl rfl rfl (fill_step (pv := [_]) (cs' := [_, _, _, _, _, _, _, _, _, _]) rfl rfl rfl rfl (fill_step (pv := [_]) (cs' := [_, _, _, _, _, _, _, _, _, _]) rfl rfl rfl rfl (fill_step (pv := [_]) (cs' := [_, _, _, _, _, _, _, _, _, _]) rfl rfl rfl rfl (fill_step (pv := [_]) (cs' := [_, _, _, _, _, _, _, _, _, _]) rfl rfl rfl rfl (fill_step (pv := [_]) (cs' := [_, _, _, _, _, _, _, _, _, _]) rfl rfl rfl rfl (fill_nil))))))))))) rfl rfl rfl ?_
    refine TL.nxt' rfl ?_
    refine TL.at ?_
    -- R6.36 None := tcp.go:24 store
    first | refine WL.storeW (vs := [_, _, _, _, _, _, _, _, _, _]) st ty_agg39 rfl rfl rfl rfl rfl rfl ?_ | refine WL.storeL (vs := [_, _, _, _, _, _, _, _, _, _]) st ty_agg39 rfl rfl rfl rfl (by first | decide | omega) rfl rfl ?_ | refine WL.storeW (vs := [_, _, _, _, _, _, _, _, _, _]) st.front1 ty_agg39 rfl rfl rfl rfl rfl rfl ?_ | refine WL.storeL (vs := [_, _, _, _, _, _, _, _, _, _]) st.front1 ty_agg39 rfl rfl rfl rfl (by first | decide | omega) rfl rfl ?_ | refine WL.storeW (vs := [_, _, _, _, _, _, _, _, _, _]) st.front2 ty_agg39 rfl rfl rfl rfl rfl rfl ?_ | refine WL.storeL (vs := [_, _, _, _, _, _, _, _, _, _]) st.front2 ty_agg39 rfl rfl rfl rfl (by first | decide | omega) rfl rfl ?_ | refine WL.storeW (vs := [_, _, _, _, _, _, _, _, _, _]) st.front3 ty_agg39 rfl rfl rfl rfl rfl rfl ?_ | refine WL.storeL (vs := [_, _, _, _, _, _, _, _, _, _]) st.front3 ty_agg39 rfl rfl rfl rfl (by first | decide | omega) rfl rfl ?_ | refine WL.storeW (vs := [_, _, _, _, _, _, _, _, _, _]) st.front4 ty_agg39 rfl rfl rfl rfl rfl rfl ?_ | refine WL.storeL (vs := [_, _, _, _, _, _, _, _, _, _]) st.front4 ty_agg39 rfl rfl rfl rfl (by first | decide | omega) rfl rfl ?_ | refine WL.storeW (vs := [_, _, _, _, _, _, _, _, _, _]) st.front5 ty_agg39 rfl rfl rfl rfl rfl rfl ?_ | refine WL.storeL (vs := [_, _, _, _, _, _, _, _, _, _]) st.front5 ty_agg39 rfl rfl rfl rfl (by first | decide | omega) rfl rfl ?_ | refine WL.storeW (vs := [_, _, _, _, _, _, _, _, _, _]) st.front6 ty_agg39 rfl rfl rfl rfl rfl rfl ?_ | refine WL.storeL (vs := [_, _, _, _, _, _, _, _, _, _]) st.front6 ty_agg39 rfl rfl rfl rfl (by first | decide | omega) rfl rfl ?_ | refine WL.storeW (vs := [_, _, _, _, _, _, _, _, _, _]) st.front7 ty_agg39 rfl rfl rfl rfl rfl rfl ?_ | refine WL.storeL (vs := [_, _, _, _, _, _, _, _, _, _]) st.front7 ty_agg39 rfl rfl rfl rfl (by first | decide | omega) rfl rfl ?_ | refine WL.storeW (vs := [_, _, _, _, _, _, _, _, _, _]) st.front8 ty_agg39 rfl rfl rfl rfl rfl rfl ?_ | refine WL.storeL (vs := [_, _, _, _, _, _, _, _, _, _]) st.front8 ty_agg39 rfl rfl rfl rfl (by first | decide | omega) rfl rfl ?_
    intro w st
    refine TL.nxt' rfl ?_
    refine TL.wl ?_
    refine WL.fin hK341 (fun _ _ h => h) ?_
    refine WC.seq fun K342 hK342 => ?_
    refine WC.seq fun K343 hK343 => ?_
    -- region 7
    have st := st_nrm (L' := tcpL (tcpX bs) (.slice none 0 0)) rfl st
    refine WC.region ?_
    -- R7.0 63 := tcp.go:35 move
    refine WL.v (by first | exact r_move (v := .int _ _) rfl | exact r_move rfl) rfl rfl rfl ?_
    -- R7.1 64 := tcp.go:35 binOp
    refine WL.v (by first | exact r_gtr rfl rfl (decide_eq_true (by omega)) | exact r_gtr rfl rfl (decide_eq_false (by omega)) | exact r_gtr rfl rfl rfl) rfl rfl rfl ?_
    refine WL.fin hK343 (fun _ _ h => h) ?_
    refine WC.condF rfl rfl ?_
    refine WC.skipF hK342 (fun _ _ h => h) ?_
    refine WC.seq fun K344 hK344 => ?_
    -- region 9 (draws)
    refine WC.heldS2 [4, 5, 6] [0] [1, 2, 3] [4, 5, 6] st (st) ty_mixed (by kernel_rfl) fun w st Kq Kq2 hKq hKq2 => ?_
    -- R9.0 70 := tcp.go:38 load
    refine HL.v (fun w st => by exact r_loadL (vs := [_, _, _, _, _, _, _, _, _, _]) ty_agg39 rfl ⟨st.c0 (by decide), st.c0 (by decide), st.c0 (by decide), st.c0 (by decide), st.c0 (by decide), st.c0 (by decide), st.c0 (by decide), st.c0 (by decide), st.c0 (by decide), st.c0 (by decide), trivial⟩) rfl rfl rfl ?_
    refine HL.pure hKq ?_
    -- R9.1 71 := tcp.go:38 move
    refine HL.v (fun w _ => by first | exact r_move (v := .slice _ _ _) rfl | exact r_move rfl) rfl rfl rfl ?_
    -- R9.2 72 := tcp.go:38 move
    refine HL.v (fun w _ => by first | exact r_move (v := .int _ _) rfl | exact r_move rfl) rfl rfl rfl ?_
    -- R9.3 73 := tcp.go:38 slice
    refine HL.v (fun w _ => by exact r_sl (l := q * 4) ty_sl25 rfl ⟨_, rfl⟩ rfl rfl (fun h => by first | rfl | cases h) (by omega) (by omega) (by omega)) rfl rfl rfl ?_
    refine HL.fin hKq2 ?_
    refine TL.at ?_
    -- R9.4 None := tcp.go:38 store
    first | refine WL.storeW (vs := [_, _, _, _, _, _, _, _, _, _]) st ty_agg39 rfl rfl rfl rfl rfl rfl ?_ | refine WL.storeL (vs := [_, _, _, _, _, _, _, _, _, _]) st ty_agg39 rfl rfl rfl rfl (by first | decide | omega) rfl rfl ?_ | refine WL.storeW (vs := [_, _, _, _, _, _, _, _, _, _]) st.front1 ty_agg39 rfl rfl rfl rfl rfl rfl ?_ | refine WL.storeL (vs := [_, _, _, _, _, _, _, _, _, _]) st.front1 ty_agg39 rfl rfl rfl rfl (by first | decide | omega) rfl rfl ?_ | refine WL.storeW (vs := [_, _, _, _, _, _, _, _, _, _]) st.front2 ty_agg39 rfl rfl rfl rfl rfl rfl ?_ | refine WL.storeL (vs := [_, _, _, _, _, _, _, _, _, _]) st.front2 ty_agg39 rfl rfl rfl rfl (by first | decide | omega) rfl rfl ?_ | refine WL.storeW (vs := [_, _, _, _, _, _, _, _, _, _]) st.front3 ty_agg39 rfl rfl rfl rfl rfl rfl ?_ | refine WL.storeL (vs := [_, _, _, _, _, _, _, _, _, _]) st.front3 ty_agg39 rfl rfl rfl rfl (by first | decide | omega) rfl rfl ?_ | refine WL.storeW (vs := [_, _, _, _, _, _, _, _, _, _]) st.front4 ty_agg39 rfl rfl rfl rfl rfl rfl ?_ | refine WL.storeL (vs := [_, _, _, _, _, _, _, _, _, _]) st.front4 ty_agg39 rfl rfl rfl rfl (by first | decide | omega) rfl rfl ?_ | refine WL.storeW (vs := [_, _, _, _, _, _, _, _, _, _]) st.front5 ty_agg39 rfl rfl rfl rfl rfl rfl ?_ | refine WL.storeL (vs := [_, _, _, _, _, _, _, _, _, _]) st.front5 ty_agg39 rfl rfl rfl rfl (by first | decide | omega) rfl rfl ?_ | refine WL.storeW (vs := [_, _, _, _, _, _, _, _, _, _]) st.front6 ty_agg39 rfl rfl rfl rfl rfl rfl ?_ | refine WL.storeL (vs := [_, _, _, _, _, _, _, _, _, _]) st.front6 ty_agg39 rfl rfl rfl rfl (by first | decide | omega) rfl rfl ?_ | refine WL.storeW (vs := [_, _, _, _, _, _, _, _, _, _]) st.front7 ty_agg39 rfl rfl rfl rfl rfl rfl ?_ | refine WL.storeL (vs := [_, _, _, _, _, _, _, _, _, _]) st.front7 ty_agg39 rfl rfl rfl rfl (by first | decide | omega) rfl rfl ?_ | refine WL.storeW (vs := [_, _, _, _, _, _, _, _, _, _]) st.front8 ty_agg39 rfl rfl rfl rfl rfl rfl ?_ | refine WL.storeL (vs := [_, _, _, _, _, _, _, _, _, _]) st.front8 ty_agg39 rfl rfl rfl rfl (by first | decide | omega) rfl rfl ?_
    intro w st
    refine TL.nxt' rfl ?_
    refine TL.at ?_
    -- R9.5 3 := tcp.go:38 assign
    refine WL.v (by first | exact r_assign (v := .slice _ _ _) rfl | exact r_assign rfl) rfl rfl rfl ?_
    refine TL.nxt' rfl ?_
    refine TL.at ?_
    -- R9.6 4 := tcp.go:38 assign
    refine WL.v (by first | exact r_assign (v := .nilIface) rfl | exact r_assign (v := .iface _ _) rfl | exact r_assign rfl) rfl rfl rfl ?_
    refine TL.nxt' rfl ?_
    refine TL.wl ?_
    refine WL.fin hK344 (fun _ _ h => h) ?_
    refine WC.retCTT (vs := [_, _, _, _, _, _, _, _, _, _]) Tryd.results31 (fun _ _ h => h) rfl ty_agg39 rfl ⟨st.c0 (by decide), st.c0 (by decide), st.c0 (by decide), st.c0 (by decide), st.c0 (by decide), st.c0 (by decide), st.c0 (by decide), st.c0 (by decide), st.c0 (by decide), st.c0 (by decide), trivial⟩ ?_
    refine ⟨_, rfl, ⟨fun _ => 0, tcpX bs, SV.nil, _, .nilIface, ?_, .inr ⟨rfl, hI, rfl, rfl, ⟨SV.nil_ok, ?_, fun w' h => SV.nil_rd _⟩, hp2⟩⟩, st.drop⟩
    · rw [hqh, e2]; rfl
    · rw [hqh, List.drop_eq_nil_of_le (by simp; omega)]; rfl

theorem IpOut.hd {s : SV} {v : Value} (hs : s.ok) (h : IpOut s v) : ∃ x t r er, v = .tuple #[.agg (ipL x t.v).toArray, r.v, er] ∧ (((∃ T u, er = .iface T u) ∧ Part s t [] ∧ Part s r []) ∨ (er = .nilIface ∧ IpIn s.bs ∧ x = ipX s.bs ∧ Part s t ((s.bs.take (ipHl s.bs)).drop 20) ∧ Part s r (s.bs.drop (ipHl s.bs)))) := by
  rcases h with ⟨T, u, rfl⟩ | ⟨hI, t, h1, h2, h3, rfl⟩
  · exact ⟨fun _ => 0, SV.nil, SV.nil, _, rfl, .inl ⟨⟨T, u, rfl⟩, Part.nil _, Part.nil _⟩⟩
  · exact ⟨ipX s.bs, t, _, .nilIface, rfl, .inr ⟨rfl, hI, rfl, ⟨h1, h2, h3⟩, ⟨SV.sub_ok hs hI.in_ (Nat.le_refl _) hs.le (Nat.le_refl _), by simp [SV.sub], fun w' h => SV.sub_rd h (Nat.le_refl _)⟩⟩⟩
end Go.Proofs.Qxb6500841aDoor

