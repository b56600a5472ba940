import Derived.Test.Qxb6500841aDoorX20
import Derived.Test.Qxb6500841aDoorRows
import Derived.Test.Qxb6500841aDoorCards
import Derived.Test.Qxb6500841aDoorTie
import Derived.ProofKit
import Derived.SizedLaws
import Derived.LaidMore
import Derived.SevenTiedAt
set_option linter.unusedVariables false
set_option linter.unusedSimpArgs false
set_option maxRecDepth 100000
namespace Go.Proofs.Qxb6500841aDoor
open Go.ChangeShapes Go.WideShapes Go.ChangeAt Go.RowKit Go.E1 Go.Wire

theorem Tryd.own : ownKnob Tryd.prog.godebug = none := by kernel_rfl
theorem Tryd.laidOut : laidOutB Tryd.prog = true := by kernel_rfl
theorem shutBool {H : Type} {enc : TypeId × Value → H} {P : Program} {w : World} {base : Nat} {spare : Nat → Bool} {held : Bool} {t : TypeId} (hu : P.underlying t = some .bool) (b : Bool) : DataW.Trod enc P w base spare held t (.bool b) (.lit (.bool b)) [] :=
  ⟨1, by simp [DataW.trod, hu, Value.cells]⟩

/-- What the condition gives: each error variable holds an error. -/
theorem errs_of {W : World} (h : laidMetH Tryd.prog Rows.serialiseInvertsParseRow.laid W) : ∃ ET EU, ErrOk W ET EU := by
  rw [MakeChecks.laidMetH_plain _ _ _ (by kernel_rfl)] at h
  have hu : ∃ ms, Tryd.prog.underlying 47 = some (.interface ms) := ifcT_spec ty_ifc47
  obtain ⟨ms, hu⟩ := hu
  have all : ∀ g, ∃ x : TypeId × Value, (decide (g < 21) && !(g == 1)) = true → W.cell? ⟨g, 0, none⟩ = some (.iface x.1 x.2) := fun g => by
    by_cases hg : (decide (g < 21) && !(g == 1)) = true
    · have hg2 : g < 21 ∧ g ≠ 1 := by simpa using hg
      match g, hg2 with
      | 0, _ =>
        obtain ⟨T, u, hc⟩ := laid_iface (nm := "*errors.errorString") (n := "e2e/api.ErrIPCut") h (show ("e2e/api.ErrIPCut", Rows.laid_e2e_api_ErrIPCut) ∈ Rows.serialiseInvertsParseRow.laid by simp [Rows.serialiseInvertsParseRow]) (show Tryd.prog.globalNamed "e2e/api.ErrIPCut" = some 0 by kernel_rfl) (t := 47) (by kernel_rfl) hu
        exact ⟨(T, u), fun _ => hc⟩
      | 1, hq => exact absurd rfl hq.2
      | 2, _ =>
        obtain ⟨T, u, hc⟩ := laid_iface (nm := "*errors.errorString") (n := "e2e/api.ErrShortEth") h (show ("e2e/api.ErrShortEth", Rows.laid_e2e_api_ErrShortEth) ∈ Rows.serialiseInvertsParseRow.laid by simp [Rows.serialiseInvertsParseRow]) (show Tryd.prog.globalNamed "e2e/api.ErrShortEth" = some 2 by kernel_rfl) (t := 47) (by kernel_rfl) hu
        exact ⟨(T, u), fun _ => hc⟩
      | 3, _ =>
        obtain ⟨T, u, hc⟩ := laid_iface (nm := "*errors.errorString") (n := "e2e/api.ErrShortIPv4") h (show ("e2e/api.ErrShortIPv4", Rows.laid_e2e_api_ErrShortIPv4) ∈ Rows.serialiseInvertsParseRow.laid by simp [Rows.serialiseInvertsParseRow]) (show Tryd.prog.globalNamed "e2e/api.ErrShortIPv4" = some 3 by kernel_rfl) (t := 47) (by kernel_rfl) hu
        exact ⟨(T, u), fun _ => hc⟩
      | 4, _ =>
        obtain ⟨T, u, hc⟩ := laid_iface (nm := "*errors.errorString") (n := "e2e/api.ErrIPVersion") h (show ("e2e/api.ErrIPVersion", Rows.laid_e2e_api_ErrIPVersion) ∈ Rows.serialiseInvertsParseRow.laid by simp [Rows.serialiseInvertsParseRow]) (show Tryd.prog.globalNamed "e2e/api.ErrIPVersion" = some 4 by kernel_rfl) (t := 47) (by kernel_rfl) hu
        exact ⟨(T, u), fun _ => hc⟩
      | 5, _ =>
        obtain ⟨T, u, hc⟩ := laid_iface (nm := "*errors.errorString") (n := "e2e/api.ErrIPHeaderLen") h (show ("e2e/api.ErrIPHeaderLen", Rows.laid_e2e_api_ErrIPHeaderLen) ∈ Rows.serialiseInvertsParseRow.laid by simp [Rows.serialiseInvertsParseRow]) (show Tryd.prog.globalNamed "e2e/api.ErrIPHeaderLen" = some 5 by kernel_rfl) (t := 47) (by kernel_rfl) hu
        exact ⟨(T, u), fun _ => hc⟩
      | 6, _ =>
        obtain ⟨T, u, hc⟩ := laid_iface (nm := "*errors.errorString") (n := "e2e/api.ErrIPTotalLen") h (show ("e2e/api.ErrIPTotalLen", Rows.laid_e2e_api_ErrIPTotalLen) ∈ Rows.serialiseInvertsParseRow.laid by simp [Rows.serialiseInvertsParseRow]) (show Tryd.prog.globalNamed "e2e/api.ErrIPTotalLen" = some 6 by kernel_rfl) (t := 47) (by kernel_rfl) hu
        exact ⟨(T, u), fun _ => hc⟩
      | 7, _ =>
        obtain ⟨T, u, hc⟩ := laid_iface (nm := "*errors.errorString") (n := "e2e/api.ErrShortTCP") h (show ("e2e/api.ErrShortTCP", Rows.laid_e2e_api_ErrShortTCP) ∈ Rows.serialiseInvertsParseRow.laid by simp [Rows.serialiseInvertsParseRow]) (show Tryd.prog.globalNamed "e2e/api.ErrShortTCP" = some 7 by kernel_rfl) (t := 47) (by kernel_rfl) hu
        exact ⟨(T, u), fun _ => hc⟩
      | 8, _ =>
        obtain ⟨T, u, hc⟩ := laid_iface (nm := "*errors.errorString") (n := "e2e/api.ErrTCPOffset") h (show ("e2e/api.ErrTCPOffset", Rows.laid_e2e_api_ErrTCPOffset) ∈ Rows.serialiseInvertsParseRow.laid by simp [Rows.serialiseInvertsParseRow]) (show Tryd.prog.globalNamed "e2e/api.ErrTCPOffset" = some 8 by kernel_rfl) (t := 47) (by kernel_rfl) hu
        exact ⟨(T, u), fun _ => hc⟩
      | 9, _ =>
        obtain ⟨T, u, hc⟩ := laid_iface (nm := "*errors.errorString") (n := "e2e/api.ErrShortICMP") h (show ("e2e/api.ErrShortICMP", Rows.laid_e2e_api_ErrShortICMP) ∈ Rows.serialiseInvertsParseRow.laid by simp [Rows.serialiseInvertsParseRow]) (show Tryd.prog.globalNamed "e2e/api.ErrShortICMP" = some 9 by kernel_rfl) (t := 47) (by kernel_rfl) hu
        exact ⟨(T, u), fun _ => hc⟩
      | 10, _ =>
        obtain ⟨T, u, hc⟩ := laid_iface (nm := "*errors.errorString") (n := "e2e/api.ErrICMPQuote") h (show ("e2e/api.ErrICMPQuote", Rows.laid_e2e_api_ErrICMPQuote) ∈ Rows.serialiseInvertsParseRow.laid by simp [Rows.serialiseInvertsParseRow]) (show Tryd.prog.globalNamed "e2e/api.ErrICMPQuote" = some 10 by kernel_rfl) (t := 47) (by kernel_rfl) hu
        exact ⟨(T, u), fun _ => hc⟩
      | 11, _ =>
        obtain ⟨T, u, hc⟩ := laid_iface (nm := "*errors.errorString") (n := "e2e/api.ErrKind") h (show ("e2e/api.ErrKind", Rows.laid_e2e_api_ErrKind) ∈ Rows.serialiseInvertsParseRow.laid by simp [Rows.serialiseInvertsParseRow]) (show Tryd.prog.globalNamed "e2e/api.ErrKind" = some 11 by kernel_rfl) (t := 47) (by kernel_rfl) hu
        exact ⟨(T, u), fun _ => hc⟩
      | 12, _ =>
        obtain ⟨T, u, hc⟩ := laid_iface (nm := "*errors.errorString") (n := "e2e/api.ErrStray") h (show ("e2e/api.ErrStray", Rows.laid_e2e_api_ErrStray) ∈ Rows.serialiseInvertsParseRow.laid by simp [Rows.serialiseInvertsParseRow]) (show Tryd.prog.globalNamed "e2e/api.ErrStray" = some 12 by kernel_rfl) (t := 47) (by kernel_rfl) hu
        exact ⟨(T, u), fun _ => hc⟩
      | 13, _ =>
        obtain ⟨T, u, hc⟩ := laid_iface (nm := "*errors.errorString") (n := "e2e/api.ErrShallow") h (show ("e2e/api.ErrShallow", Rows.laid_e2e_api_ErrShallow) ∈ Rows.serialiseInvertsParseRow.laid by simp [Rows.serialiseInvertsParseRow]) (show Tryd.prog.globalNamed "e2e/api.ErrShallow" = some 13 by kernel_rfl) (t := 47) (by kernel_rfl) hu
        exact ⟨(T, u), fun _ => hc⟩
      | 14, _ =>
        obtain ⟨T, u, hc⟩ := laid_iface (nm := "*errors.errorString") (n := "e2e/api.ErrProto") h (show ("e2e/api.ErrProto", Rows.laid_e2e_api_ErrProto) ∈ Rows.serialiseInvertsParseRow.laid by simp [Rows.serialiseInvertsParseRow]) (show Tryd.prog.globalNamed "e2e/api.ErrProto" = some 14 by kernel_rfl) (t := 47) (by kernel_rfl) hu
        exact ⟨(T, u), fun _ => hc⟩
      | 15, _ =>
        obtain ⟨T, u, hc⟩ := laid_iface (nm := "*errors.errorString") (n := "e2e/api.ErrLength") h (show ("e2e/api.ErrLength", Rows.laid_e2e_api_ErrLength) ∈ Rows.serialiseInvertsParseRow.laid by simp [Rows.serialiseInvertsParseRow]) (show Tryd.prog.globalNamed "e2e/api.ErrLength" = some 15 by kernel_rfl) (t := 47) (by kernel_rfl) hu
        exact ⟨(T, u), fun _ => hc⟩
      | 16, _ =>
        obtain ⟨T, u, hc⟩ := laid_iface (nm := "*errors.errorString") (n := "e2e/api.ErrField") h (show ("e2e/api.ErrField", Rows.laid_e2e_api_ErrField) ∈ Rows.serialiseInvertsParseRow.laid by simp [Rows.serialiseInvertsParseRow]) (show Tryd.prog.globalNamed "e2e/api.ErrField" = some 16 by kernel_rfl) (t := 47) (by kernel_rfl) hu
        exact ⟨(T, u), fun _ => hc⟩
      | 17, _ =>
        obtain ⟨T, u, hc⟩ := laid_iface (nm := "*errors.errorString") (n := "e2e/api.ErrFragment") h (show ("e2e/api.ErrFragment", Rows.laid_e2e_api_ErrFragment) ∈ Rows.serialiseInvertsParseRow.laid by simp [Rows.serialiseInvertsParseRow]) (show Tryd.prog.globalNamed "e2e/api.ErrFragment" = some 17 by kernel_rfl) (t := 47) (by kernel_rfl) hu
        exact ⟨(T, u), fun _ => hc⟩
      | 18, _ =>
        obtain ⟨T, u, hc⟩ := laid_iface (nm := "*errors.errorString") (n := "e2e/api.ErrOptions") h (show ("e2e/api.ErrOptions", Rows.laid_e2e_api_ErrOptions) ∈ Rows.serialiseInvertsParseRow.laid by simp [Rows.serialiseInvertsParseRow]) (show Tryd.prog.globalNamed "e2e/api.ErrOptions" = some 18 by kernel_rfl) (t := 47) (by kernel_rfl) hu
        exact ⟨(T, u), fun _ => hc⟩
      | 19, _ =>
        obtain ⟨T, u, hc⟩ := laid_iface (nm := "*errors.errorString") (n := "e2e/api.ErrICMPType") h (show ("e2e/api.ErrICMPType", Rows.laid_e2e_api_ErrICMPType) ∈ Rows.serialiseInvertsParseRow.laid by simp [Rows.serialiseInvertsParseRow]) (show Tryd.prog.globalNamed "e2e/api.ErrICMPType" = some 19 by kernel_rfl) (t := 47) (by kernel_rfl) hu
        exact ⟨(T, u), fun _ => hc⟩
      | 20, _ =>
        obtain ⟨T, u, hc⟩ := laid_iface (nm := "*errors.errorString") (n := "e2e/api.ErrQuoteSize") h (show ("e2e/api.ErrQuoteSize", Rows.laid_e2e_api_ErrQuoteSize) ∈ Rows.serialiseInvertsParseRow.laid by simp [Rows.serialiseInvertsParseRow]) (show Tryd.prog.globalNamed "e2e/api.ErrQuoteSize" = some 20 by kernel_rfl) (t := 47) (by kernel_rfl) hu
        exact ⟨(T, u), fun _ => hc⟩
      | n + 21, hq => exact absurd hq.1 (by omega)
    · exact ⟨(0, .nilIface), fun h => absurd h hg⟩
  obtain ⟨x, hx⟩ := Classical.skolem.1 all
  exact ⟨fun g => (x g).1, fun g => (x g).2, fun g hg => hx g hg⟩

theorem door_met (os : Os) (args : Array Value) : laidMetH Tryd.prog Rows.serialiseInvertsParseRow.laid ((World.doorLaid Tryd.prog 399 os).forCall (fun _ _ => 0) ⟨#[], args, []⟩).memory :=
  laidMetH_of_parts3 (fuel := 8) (laidMet_of_run' 8 (by kernel_rfl) (by kernel_rfl)) (by kernel_rfl) (by kernel_rfl)

theorem serInv_lifted (os : Os) (started : os.Started) (H : Type) (enc : TypeId × Value → H) :
    ReturnsInHanded {} Tryd.checked os 3 .any (fun w args => (Rows.serialiseInvertsParseSpec.pre enc Tryd.prog Tryd.f3 [] false w args ∧ laidMetH Tryd.prog Rows.serialiseInvertsParseRow.laid w) ∧ sizedMet enc Tryd.prog Tryd.f3 (OpenSpec.ofChange Rows.serialiseInvertsParseSpec) false w args)
      (Rows.serialiseInvertsParseSpec.post enc Tryd.prog Tryd.f3 false true false false) := by
  refine returnsInHanded_of_change_and (C := Tryd.checked) (X := fun w _ => laidMetH Tryd.prog Rows.serialiseInvertsParseRow.laid w) (fun _ _ _ hh h => h.of_heap hh) Tryd.own started (by kernel_rfl) Tryd.func3
    (ChangeSpec.witness_shaped (enc := enc) (C := Tryd.checked) (os := os) (X := fun w _ => laidMetH Tryd.prog Rows.serialiseInvertsParseRow.laid w) false (World.doorLaid Tryd.prog 399 os) #[.slice none 0 0] 8 rfl (World.shaped_of_RefB (by kernel_rfl) (by kernel_rfl)) (by kernel_rfl) (by kernel_rfl) (by kernel_rfl) (door_met os _)) ?_
  intro W base args ds gs before hval0 hW _ hsz hL _
  have hval : ∀ (j : Nat) t v, Tryd.f3.params[j]? = some t → args[j]? = some v → Value.okWide Tryd.prog W .any base t v := hval0
  have hW' := hW
  obtain ⟨p, q, hA0, hV, rfl, _, _⟩ := hW
  have hA : DataW.TrodAll enc Tryd.prog W 0 (fun _ => true) true Tryd.f3.params.toList args.toList ds p := hA0
  rw [Tryd.params3] at hA hval
  obtain ⟨v0, d0, rfl, rfl, h0⟩ := trodAll_one hA
  obtain ⟨rfl, rfl⟩ := trodVars_none hV
  obtain ⟨a0, len, cap, rfl⟩ := okWide_slice Tryd.underlying22 (hval 0 22 v0 rfl rfl)
  clear hA0 hval0
  simp only [List.append_nil] at hW'
  have hlt : ∀ x ∈ p, x.block < W.heap.size := fun x hx => by simpa using hW'.lt x hx
  have hargs : ∀ (W' : World), Below W.heap.size W W' → DataW.Trod enc Tryd.prog W' 0 (fun b => decide (b < W.heap.size)) true 22 (.slice a0 len cap) d0 p :=
    fun W' hn => Below.trod Tryd.laidOut (by kernel_rfl) (of_decide_eq_true (by kernel_rfl)) h0 hn hlt
  have hrd : Rd Tryd.prog W 22 [.slice a0 len cap] := rd_of_trod (v := .slice a0 len cap) h0 fun x hx =>
    of_decide_eq_true (List.all_eq_true.1 hsz x (weightsEach_mem (i := 0) (t := 22) (d := d0) rfl rfl x hx))
  obtain ⟨a, n, c, sb, so, kd, f, d, off, val, hv, hn, ha, hS, hlb⟩ := scr_of hrd
  cases hv
  obtain ⟨ET, EU, hE⟩ := errs_of hL
  refine (serInv_ok a0 sb so len cap kd f d off val hE hS hn hlb ha).mono ?_
  rintro e W' ⟨v, rfl, rfl, st⟩
  have hb := st.below
  exact ⟨_, rfl, _, _, _, [], _, [], hW', trodAll_mk1 (shutBool Tryd.underlying4 true), trodAll_mk1 (hargs _ hb), rfl, hb.frame _, fun h => by cases h⟩

theorem serialiseInvertsParse_holds : Rows.SerialiseInvertsParseSaid :=
  OpenClaim.holds_of_wide 3 Tryd.f3 rfl rfl rfl rfl rfl rfl rfl ⟨rfl, rfl, rfl, rfl, rfl⟩ rfl rfl rfl rfl rfl (by kernel_rfl) Tryd.func3 (by kernel_rfl)
    (of_decide_eq_true (by kernel_rfl)) (by unfold Func.isWrapper; first | (rw [if_pos (by decide +kernel)]; kernel_rfl) | (rw [if_neg (by decide +kernel)]; exact ⟨rfl, rfl⟩))
    (fun os started H enc _ => serInv_lifted os started H enc)

theorem serialiseInvertsParse_card : Rows.SerialiseInvertsParseCardSaid :=
  Claim7.holds_tied_plain_at .later [] [.called, .called, .called, .called, .called, .called, .called, .called, .called, .called, .called, .called, .called, .called, .called, .called, .called, .called, .called, .called] true (true, "eaa1f5cd98564b8ff9f5dfeb6bd84657f84e24e728b649659d95d4a5376f43a4") false
    serialiseInvertsParse_holds (fun _ h => by cases h) (by kernel_rfl) (fun _ h => by cases h) serialiseInvertsParse_row_tie rfl ⟨rfl, rfl⟩ (by kernel_rfl) rfl
    (fun f fn hf hfn => by
      obtain rfl : f = 3 := Option.some.inj ((show Tryd.prog.funcNamed "e2e/wirelaw.SerialiseInvertsParse" = some 3 by kernel_rfl).symm.trans hf) |>.symm
      obtain rfl : fn = Tryd.f3 := (Option.some.inj (Tryd.func3.symm.trans hfn)).symm
      exact ⟨by kernel_rfl, fun j t ht => by
        rw [Tryd.params3] at ht
        have hm : t ∈ [22] := by simpa using Array.mem_of_getElem? ht
        have hall : ([22].all fun u => !Tryd.prog.wantsStandIn u) = true := by kernel_rfl
        exact (show Tryd.prog.wantsStandIn t = false by simpa using List.all_eq_true.1 hall t hm)⟩)
    (by kernel_rfl)
end Go.Proofs.Qxb6500841aDoor

