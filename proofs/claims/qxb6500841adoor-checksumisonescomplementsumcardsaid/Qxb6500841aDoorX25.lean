import Derived.Test.Qxb6500841aDoorX20
import Derived.Test.Qxb6500841aDoorX24
import Derived.Test.Qxb6500841aDoorRows
import Derived.Test.Qxb6500841aDoorCards
import Derived.Test.Qxb6500841aDoorTie
import Derived.ProofKit
import Derived.SizedLaws
import Derived.LaidMore
import Derived.SevenTiedAt
set_option linter.unusedVariables false
set_option linter.unusedSimpArgs false
set_option maxRecDepth 100000
namespace Go.Proofs.Qxb6500841aDoor
open Go.ChangeShapes Go.WideShapes Go.ChangeAt Go.RowKit Go.E1 Go.Wire

section
variable {w0 : World} {L : List HI} {w : World} {ET : Nat → TypeId} {EU : Nat → Value}
set_option maxHeartbeats 4000000 in
theorem cksInv_ok (a : Option Addr) (sb so n c : Nat) (kd : Nat → Int) (f : Nat → FD) (d : Nat → SV) (off val : Nat → Int) {w : World} (hE : ErrOk w ET EU) (hS : Scr w sb so n kd f d off val) (hn63 : n ≤ 140737488355328) (hlb : ∀ i, i < n → (f i).s1.bs.length ≤ 140737488355328 ∧ (f i).s2.bs.length ≤ 140737488355328 ∧ (f i).s3.bs.length ≤ 140737488355328 ∧ (f i).s4.bs.length ≤ 140737488355328 ∧ (f i).s5.bs.length ≤ 140737488355328 ∧ (d i).bs.length ≤ 140737488355328) (ha : 0 < n → a = some ⟨sb, so, none⟩) :
    Calls Tryd.prog 4 #[.slice a n c] w (Ret fun v w' => v = .bool true ∧ S0 w [] w') := by
  have st0 := St.init w (fun _ => False)
  obtain ⟨w0, hw0⟩ : ∃ w0, w0 = w := ⟨w, rfl⟩
  have st : S0 w0 [] w := by rw [hw0]; exact st0
  clear st0
  have hE : ErrOk w0 ET EU := by rw [hw0]; exact hE
  have hS : Scr w0 sb so n kd f d off val := by rw [hw0]; exact hS
  have goal : Calls Tryd.prog 4 #[.slice a n c] w (Ret fun v w' => v = .bool true ∧ S0 w0 [] w') := by
    clear hw0
    refine enter [.slice a n c] Tryd.func4 rfl Tryd.ntmps4 rfl ?_
    show WC _ _ _ 8 [] [(0, .slice a n c)] _
    refine WC.seq fun K1286 hK1286 => ?_
    -- region 0
    refine WC.region ?_
    -- R0.0 2 := wirelaw.go:244 assign
    refine WL.v (by first | exact r_assign (v := .bool _) rfl | exact r_assign rfl) rfl rfl rfl ?_
    refine WL.fin hK1286 (fun _ _ h => h) ?_
    refine WC.seq fun K1287 hK1287 => ?_
    refine WC.seq fun K1288 hK1288 => ?_
    -- region 1
    refine WC.region ?_
    -- R1.0 3 := wirelaw.go:245 move
    refine WL.v (by first | exact r_move (v := .slice _ _ _) rfl | exact r_move rfl) rfl rfl rfl ?_
    -- R1.1 4 := wirelaw.go:245 call
    refine WL.call (r_call ty_call7 rfl) rfl rfl rfl (zzSmall1_ok a sb so n c kd f d off val hS hn63 hlb ha st) ?_
    rintro _ w ⟨t, rfl, ht, st⟩
    -- R1.2 5 := wirelaw.go:245 unOp
    refine WL.v (by first | exact r_notT rfl | exact r_notF rfl | exact r_not rfl) rfl rfl rfl ?_
    refine WL.fin hK1288 (fun _ _ h => h) ?_
    rcases t with _ | _
    · skip
      refine WC.condT rfl rfl ?_
      refine WC.seq fun K1289 hK1289 => ?_
      -- region 2
      refine WC.region ?_
      -- R2.0 2 := wirelaw.go:246 assign
      refine WL.v (by first | exact r_assign (v := .bool _) rfl | exact r_assign rfl) rfl rfl rfl ?_
      refine WL.fin hK1289 (fun _ _ h => h) ?_
      refine WC.ret1 Tryd.results4 (fun _ _ h => h) rfl ?_
      exact ⟨_, rfl, rfl, st⟩
    obtain ⟨hn, hds, hl⟩ := ht rfl
    refine WC.condF rfl rfl ?_
    refine WC.skipF hK1287 (fun _ _ h => h) ?_
    refine WC.seq fun K1290 hK1290 => ?_
    -- region 3
    refine WC.region ?_
    -- R3.0 6 := wirelaw.go:249 move
    refine WL.v (by first | exact r_move (v := .slice _ _ _) rfl | exact r_move rfl) rfl rfl rfl ?_
    -- R3.1 7 := wirelaw.go:249 call
    refine WL.call (r_call ty_call8 rfl) rfl rfl rfl (walk_ok hE 14 ty_call14 a sb so n c kd f d off val hS hn hds hl ha (fun v0 v bs XI L i w hi ho hb st => lookC_ok hE v0 _ _ _ _ _ ((hS.pre i hi).ok (hl i hi)) ho hb st) st) ?_
    rintro _ w ⟨rfl, st⟩
    -- R3.2 2 := wirelaw.go:249 assign
    refine WL.v (by first | exact r_assign (v := .bool _) rfl | exact r_assign rfl) rfl rfl rfl ?_
    refine WL.fin hK1290 (fun _ _ h => h) ?_
    refine WC.ret1 Tryd.results4 (fun _ _ h => h) rfl ?_
    exact ⟨_, rfl, rfl, st⟩
  rw [hw0] at goal
  exact goal
end

theorem Tryd.own : ownKnob Tryd.prog.godebug = none := by kernel_rfl
theorem Tryd.laidOut : laidOutB Tryd.prog = true := by kernel_rfl
theorem shutBool {H : Type} {enc : TypeId × Value → H} {P : Program} {w : World} {base : Nat} {spare : Nat → Bool} {held : Bool} {t : TypeId} (hu : P.underlying t = some .bool) (b : Bool) : DataW.Trod enc P w base spare held t (.bool b) (.lit (.bool b)) [] :=
  ⟨1, by simp [DataW.trod, hu, Value.cells]⟩

/-- What the condition gives: each error variable holds an error. -/
theorem errs_ofC {W : World} (h : laidMetH Tryd.prog Rows.checksumIsOnesComplementSumRow.laid W) : ∃ ET EU, ErrOk W ET EU := by
  rw [MakeChecks.laidMetH_plain _ _ _ (by kernel_rfl)] at h
  have hu : ∃ ms, Tryd.prog.underlying 47 = some (.interface ms) := ifcT_spec ty_ifc47
  obtain ⟨ms, hu⟩ := hu
  have all : ∀ g, ∃ x : TypeId × Value, (decide (g < 21) && !(g == 1)) = true → W.cell? ⟨g, 0, none⟩ = some (.iface x.1 x.2) := fun g => by
    by_cases hg : (decide (g < 21) && !(g == 1)) = true
    · have hg2 : g < 21 ∧ g ≠ 1 := by simpa using hg
      match g, hg2 with
      | 0, _ =>
        obtain ⟨T, u, hc⟩ := laid_iface (nm := "*errors.errorString") (n := "e2e/api.ErrIPCut") h (show ("e2e/api.ErrIPCut", Rows.laid_e2e_api_ErrIPCut) ∈ Rows.checksumIsOnesComplementSumRow.laid by simp [Rows.checksumIsOnesComplementSumRow]) (show Tryd.prog.globalNamed "e2e/api.ErrIPCut" = some 0 by kernel_rfl) (t := 47) (by kernel_rfl) hu
        exact ⟨(T, u), fun _ => hc⟩
      | 1, hq => exact absurd rfl hq.2
      | 2, _ =>
        obtain ⟨T, u, hc⟩ := laid_iface (nm := "*errors.errorString") (n := "e2e/api.ErrShortEth") h (show ("e2e/api.ErrShortEth", Rows.laid_e2e_api_ErrShortEth) ∈ Rows.checksumIsOnesComplementSumRow.laid by simp [Rows.checksumIsOnesComplementSumRow]) (show Tryd.prog.globalNamed "e2e/api.ErrShortEth" = some 2 by kernel_rfl) (t := 47) (by kernel_rfl) hu
        exact ⟨(T, u), fun _ => hc⟩
      | 3, _ =>
        obtain ⟨T, u, hc⟩ := laid_iface (nm := "*errors.errorString") (n := "e2e/api.ErrShortIPv4") h (show ("e2e/api.ErrShortIPv4", Rows.laid_e2e_api_ErrShortIPv4) ∈ Rows.checksumIsOnesComplementSumRow.laid by simp [Rows.checksumIsOnesComplementSumRow]) (show Tryd.prog.globalNamed "e2e/api.ErrShortIPv4" = some 3 by kernel_rfl) (t := 47) (by kernel_rfl) hu
        exact ⟨(T, u), fun _ => hc⟩
      | 4, _ =>
        obtain ⟨T, u, hc⟩ := laid_iface (nm := "*errors.errorString") (n := "e2e/api.ErrIPVersion") h (show ("e2e/api.ErrIPVersion", Rows.laid_e2e_api_ErrIPVersion) ∈ Rows.checksumIsOnesComplementSumRow.laid by simp [Rows.checksumIsOnesComplementSumRow]) (show Tryd.prog.globalNamed "e2e/api.ErrIPVersion" = some 4 by kernel_rfl) (t := 47) (by kernel_rfl) hu
        exact ⟨(T, u), fun _ => hc⟩
      | 5, _ =>
        obtain ⟨T, u, hc⟩ := laid_iface (nm := "*errors.errorString") (n := "e2e/api.ErrIPHeaderLen") h (show ("e2e/api.ErrIPHeaderLen", Rows.laid_e2e_api_ErrIPHeaderLen) ∈ Rows.checksumIsOnesComplementSumRow.laid by simp [Rows.checksumIsOnesComplementSumRow]) (show Tryd.prog.globalNamed "e2e/api.ErrIPHeaderLen" = some 5 by kernel_rfl) (t := 47) (by kernel_rfl) hu
        exact ⟨(T, u), fun _ => hc⟩
      | 6, _ =>
        obtain ⟨T, u, hc⟩ := laid_iface (nm := "*errors.errorString") (n := "e2e/api.ErrIPTotalLen") h (show ("e2e/api.ErrIPTotalLen", Rows.laid_e2e_api_ErrIPTotalLen) ∈ Rows.checksumIsOnesComplementSumRow.laid by simp [Rows.checksumIsOnesComplementSumRow]) (show Tryd.prog.globalNamed "e2e/api.ErrIPTotalLen" = some 6 by kernel_rfl) (t := 47) (by kernel_rfl) hu
        exact ⟨(T, u), fun _ => hc⟩
      | 7, _ =>
        obtain ⟨T, u, hc⟩ := laid_iface (nm := "*errors.errorString") (n := "e2e/api.ErrShortTCP") h (show ("e2e/api.ErrShortTCP", Rows.laid_e2e_api_ErrShortTCP) ∈ Rows.checksumIsOnesComplementSumRow.laid by simp [Rows.checksumIsOnesComplementSumRow]) (show Tryd.prog.globalNamed "e2e/api.ErrShortTCP" = some 7 by kernel_rfl) (t := 47) (by kernel_rfl) hu
        exact ⟨(T, u), fun _ => hc⟩
      | 8, _ =>
        obtain ⟨T, u, hc⟩ := laid_iface (nm := "*errors.errorString") (n := "e2e/api.ErrTCPOffset") h (show ("e2e/api.ErrTCPOffset", Rows.laid_e2e_api_ErrTCPOffset) ∈ Rows.checksumIsOnesComplementSumRow.laid by simp [Rows.checksumIsOnesComplementSumRow]) (show Tryd.prog.globalNamed "e2e/api.ErrTCPOffset" = some 8 by kernel_rfl) (t := 47) (by kernel_rfl) hu
        exact ⟨(T, u), fun _ => hc⟩
      | 9, _ =>
        obtain ⟨T, u, hc⟩ := laid_iface (nm := "*errors.errorString") (n := "e2e/api.ErrShortICMP") h (show ("e2e/api.ErrShortICMP", Rows.laid_e2e_api_ErrShortICMP) ∈ Rows.checksumIsOnesComplementSumRow.laid by simp [Rows.checksumIsOnesComplementSumRow]) (show Tryd.prog.globalNamed "e2e/api.ErrShortICMP" = some 9 by kernel_rfl) (t := 47) (by kernel_rfl) hu
        exact ⟨(T, u), fun _ => hc⟩
      | 10, _ =>
        obtain ⟨T, u, hc⟩ := laid_iface (nm := "*errors.errorString") (n := "e2e/api.ErrICMPQuote") h (show ("e2e/api.ErrICMPQuote", Rows.laid_e2e_api_ErrICMPQuote) ∈ Rows.checksumIsOnesComplementSumRow.laid by simp [Rows.checksumIsOnesComplementSumRow]) (show Tryd.prog.globalNamed "e2e/api.ErrICMPQuote" = some 10 by kernel_rfl) (t := 47) (by kernel_rfl) hu
        exact ⟨(T, u), fun _ => hc⟩
      | 11, _ =>
        obtain ⟨T, u, hc⟩ := laid_iface (nm := "*errors.errorString") (n := "e2e/api.ErrKind") h (show ("e2e/api.ErrKind", Rows.laid_e2e_api_ErrKind) ∈ Rows.checksumIsOnesComplementSumRow.laid by simp [Rows.checksumIsOnesComplementSumRow]) (show Tryd.prog.globalNamed "e2e/api.ErrKind" = some 11 by kernel_rfl) (t := 47) (by kernel_rfl) hu
        exact ⟨(T, u), fun _ => hc⟩
      | 12, _ =>
        obtain ⟨T, u, hc⟩ := laid_iface (nm := "*errors.errorString") (n := "e2e/api.ErrStray") h (show ("e2e/api.ErrStray", Rows.laid_e2e_api_ErrStray) ∈ Rows.checksumIsOnesComplementSumRow.laid by simp [Rows.checksumIsOnesComplementSumRow]) (show Tryd.prog.globalNamed "e2e/api.ErrStray" = some 12 by kernel_rfl) (t := 47) (by kernel_rfl) hu
        exact ⟨(T, u), fun _ => hc⟩
      | 13, _ =>
        obtain ⟨T, u, hc⟩ := laid_iface (nm := "*errors.errorString") (n := "e2e/api.ErrShallow") h (show ("e2e/api.ErrShallow", Rows.laid_e2e_api_ErrShallow) ∈ Rows.checksumIsOnesComplementSumRow.laid by simp [Rows.checksumIsOnesComplementSumRow]) (show Tryd.prog.globalNamed "e2e/api.ErrShallow" = some 13 by kernel_rfl) (t := 47) (by kernel_rfl) hu
        exact ⟨(T, u), fun _ => hc⟩
      | 14, _ =>
        obtain ⟨T, u, hc⟩ := laid_iface (nm := "*errors.errorString") (n := "e2e/api.ErrProto") h (show ("e2e/api.ErrProto", Rows.laid_e2e_api_ErrProto) ∈ Rows.checksumIsOnesComplementSumRow.laid by simp [Rows.checksumIsOnesComplementSumRow]) (show Tryd.prog.globalNamed "e2e/api.ErrProto" = some 14 by kernel_rfl) (t := 47) (by kernel_rfl) hu
        exact ⟨(T, u), fun _ => hc⟩
      | 15, _ =>
        obtain ⟨T, u, hc⟩ := laid_iface (nm := "*errors.errorString") (n := "e2e/api.ErrLength") h (show ("e2e/api.ErrLength", Rows.laid_e2e_api_ErrLength) ∈ Rows.checksumIsOnesComplementSumRow.laid by simp [Rows.checksumIsOnesComplementSumRow]) (show Tryd.prog.globalNamed "e2e/api.ErrLength" = some 15 by kernel_rfl) (t := 47) (by kernel_rfl) hu
        exact ⟨(T, u), fun _ => hc⟩
      | 16, _ =>
        obtain ⟨T, u, hc⟩ := laid_iface (nm := "*errors.errorString") (n := "e2e/api.ErrField") h (show ("e2e/api.ErrField", Rows.laid_e2e_api_ErrField) ∈ Rows.checksumIsOnesComplementSumRow.laid by simp [Rows.checksumIsOnesComplementSumRow]) (show Tryd.prog.globalNamed "e2e/api.ErrField" = some 16 by kernel_rfl) (t := 47) (by kernel_rfl) hu
        exact ⟨(T, u), fun _ => hc⟩
      | 17, _ =>
        obtain ⟨T, u, hc⟩ := laid_iface (nm := "*errors.errorString") (n := "e2e/api.ErrFragment") h (show ("e2e/api.ErrFragment", Rows.laid_e2e_api_ErrFragment) ∈ Rows.checksumIsOnesComplementSumRow.laid by simp [Rows.checksumIsOnesComplementSumRow]) (show Tryd.prog.globalNamed "e2e/api.ErrFragment" = some 17 by kernel_rfl) (t := 47) (by kernel_rfl) hu
        exact ⟨(T, u), fun _ => hc⟩
      | 18, _ =>
        obtain ⟨T, u, hc⟩ := laid_iface (nm := "*errors.errorString") (n := "e2e/api.ErrOptions") h (show ("e2e/api.ErrOptions", Rows.laid_e2e_api_ErrOptions) ∈ Rows.checksumIsOnesComplementSumRow.laid by simp [Rows.checksumIsOnesComplementSumRow]) (show Tryd.prog.globalNamed "e2e/api.ErrOptions" = some 18 by kernel_rfl) (t := 47) (by kernel_rfl) hu
        exact ⟨(T, u), fun _ => hc⟩
      | 19, _ =>
        obtain ⟨T, u, hc⟩ := laid_iface (nm := "*errors.errorString") (n := "e2e/api.ErrICMPType") h (show ("e2e/api.ErrICMPType", Rows.laid_e2e_api_ErrICMPType) ∈ Rows.checksumIsOnesComplementSumRow.laid by simp [Rows.checksumIsOnesComplementSumRow]) (show Tryd.prog.globalNamed "e2e/api.ErrICMPType" = some 19 by kernel_rfl) (t := 47) (by kernel_rfl) hu
        exact ⟨(T, u), fun _ => hc⟩
      | 20, _ =>
        obtain ⟨T, u, hc⟩ := laid_iface (nm := "*errors.errorString") (n := "e2e/api.ErrQuoteSize") h (show ("e2e/api.ErrQuoteSize", Rows.laid_e2e_api_ErrQuoteSize) ∈ Rows.checksumIsOnesComplementSumRow.laid by simp [Rows.checksumIsOnesComplementSumRow]) (show Tryd.prog.globalNamed "e2e/api.ErrQuoteSize" = some 20 by kernel_rfl) (t := 47) (by kernel_rfl) hu
        exact ⟨(T, u), fun _ => hc⟩
      | n + 21, hq => exact absurd hq.1 (by omega)
    · exact ⟨(0, .nilIface), fun h => absurd h hg⟩
  obtain ⟨x, hx⟩ := Classical.skolem.1 all
  exact ⟨fun g => (x g).1, fun g => (x g).2, fun g hg => hx g hg⟩

theorem door_metC (os : Os) (args : Array Value) : laidMetH Tryd.prog Rows.checksumIsOnesComplementSumRow.laid ((World.doorLaid Tryd.prog 399 os).forCall (fun _ _ => 0) ⟨#[], args, []⟩).memory :=
  laidMetH_of_parts3 (fuel := 8) (laidMet_of_run' 8 (by kernel_rfl) (by kernel_rfl)) (by kernel_rfl) (by kernel_rfl)

theorem cksInv_lifted (os : Os) (started : os.Started) (H : Type) (enc : TypeId × Value → H) :
    ReturnsInHanded {} Tryd.checked os 4 .any (fun w args => (Rows.checksumIsOnesComplementSumSpec.pre enc Tryd.prog Tryd.f4 [] false w args ∧ laidMetH Tryd.prog Rows.checksumIsOnesComplementSumRow.laid w) ∧ sizedMet enc Tryd.prog Tryd.f4 (OpenSpec.ofChange Rows.checksumIsOnesComplementSumSpec) false w args)
      (Rows.checksumIsOnesComplementSumSpec.post enc Tryd.prog Tryd.f4 false true false false) := by
  refine returnsInHanded_of_change_and (C := Tryd.checked) (X := fun w _ => laidMetH Tryd.prog Rows.checksumIsOnesComplementSumRow.laid w) (fun _ _ _ hh h => h.of_heap hh) Tryd.own started (by kernel_rfl) Tryd.func4
    (ChangeSpec.witness_shaped (enc := enc) (C := Tryd.checked) (os := os) (X := fun w _ => laidMetH Tryd.prog Rows.checksumIsOnesComplementSumRow.laid w) false (World.doorLaid Tryd.prog 399 os) #[.slice none 0 0] 8 rfl (World.shaped_of_RefB (by kernel_rfl) (by kernel_rfl)) (by kernel_rfl) (by kernel_rfl) (by kernel_rfl) (door_metC os _)) ?_
  intro W base args ds gs before hval0 hW _ hsz hL _
  have hval : ∀ (j : Nat) t v, Tryd.f4.params[j]? = some t → args[j]? = some v → Value.okWide Tryd.prog W .any base t v := hval0
  have hW' := hW
  obtain ⟨p, q, hA0, hV, rfl, _, _⟩ := hW
  have hA : DataW.TrodAll enc Tryd.prog W 0 (fun _ => true) true Tryd.f4.params.toList args.toList ds p := hA0
  rw [Tryd.params4] at hA hval
  obtain ⟨v0, d0, rfl, rfl, h0⟩ := trodAll_one hA
  obtain ⟨rfl, rfl⟩ := trodVars_none hV
  obtain ⟨a0, len, cap, rfl⟩ := okWide_slice Tryd.underlying22 (hval 0 22 v0 rfl rfl)
  clear hA0 hval0
  simp only [List.append_nil] at hW'
  have hlt : ∀ x ∈ p, x.block < W.heap.size := fun x hx => by simpa using hW'.lt x hx
  have hargs : ∀ (W' : World), Below W.heap.size W W' → DataW.Trod enc Tryd.prog W' 0 (fun b => decide (b < W.heap.size)) true 22 (.slice a0 len cap) d0 p :=
    fun W' hn => Below.trod Tryd.laidOut (by kernel_rfl) (of_decide_eq_true (by kernel_rfl)) h0 hn hlt
  have hrd : Rd Tryd.prog W 22 [.slice a0 len cap] := rd_of_trod (v := .slice a0 len cap) h0 fun x hx =>
    of_decide_eq_true (List.all_eq_true.1 hsz x (weightsEach_mem (i := 0) (t := 22) (d := d0) rfl rfl x hx))
  obtain ⟨a, n, c, sb, so, kd, f, d, off, val, hv, hn, ha, hS, hlb⟩ := scr_of hrd
  cases hv
  obtain ⟨ET, EU, hE⟩ := errs_ofC hL
  refine (cksInv_ok a0 sb so len cap kd f d off val hE hS hn hlb ha).mono ?_
  rintro e W' ⟨v, rfl, rfl, st⟩
  have hb := st.below
  exact ⟨_, rfl, _, _, _, [], _, [], hW', trodAll_mk1 (shutBool Tryd.underlying4 true), trodAll_mk1 (hargs _ hb), rfl, hb.frame _, fun h => by cases h⟩

theorem checksumIsOnesComplementSum_holds : Rows.ChecksumIsOnesComplementSumSaid :=
  OpenClaim.holds_of_wide 4 Tryd.f4 rfl rfl rfl rfl rfl rfl rfl ⟨rfl, rfl, rfl, rfl, rfl⟩ rfl rfl rfl rfl rfl (by kernel_rfl) Tryd.func4 (by kernel_rfl)
    (of_decide_eq_true (by kernel_rfl)) (by unfold Func.isWrapper; first | (rw [if_pos (by decide +kernel)]; kernel_rfl) | (rw [if_neg (by decide +kernel)]; exact ⟨rfl, rfl⟩))
    (fun os started H enc _ => cksInv_lifted os started H enc)

theorem checksumIsOnesComplementSum_card : Rows.ChecksumIsOnesComplementSumCardSaid :=
  Claim7.holds_tied_plain_at .later [] [.called, .called, .called, .called, .called, .called, .called, .called, .called, .called, .called, .called, .called, .called, .called, .called, .called, .called, .called, .called] true (true, "eaa1f5cd98564b8ff9f5dfeb6bd84657f84e24e728b649659d95d4a5376f43a4") false
    checksumIsOnesComplementSum_holds (fun _ h => by cases h) (by kernel_rfl) (fun _ h => by cases h) checksumIsOnesComplementSum_row_tie rfl ⟨rfl, rfl⟩ (by kernel_rfl) rfl
    (fun f fn hf hfn => by
      obtain rfl : f = 4 := Option.some.inj ((show Tryd.prog.funcNamed "e2e/wirelaw.ChecksumIsOnesComplementSum" = some 4 by kernel_rfl).symm.trans hf) |>.symm
      obtain rfl : fn = Tryd.f4 := (Option.some.inj (Tryd.func4.symm.trans hfn)).symm
      exact ⟨by kernel_rfl, fun j t ht => by
        rw [Tryd.params4] at ht
        have hm : t ∈ [22] := by simpa using Array.mem_of_getElem? ht
        have hall : ([22].all fun u => !Tryd.prog.wantsStandIn u) = true := by kernel_rfl
        exact (show Tryd.prog.wantsStandIn t = false by simpa using List.all_eq_true.1 hall t hm)⟩)
    (by kernel_rfl)
end Go.Proofs.Qxb6500841aDoor

