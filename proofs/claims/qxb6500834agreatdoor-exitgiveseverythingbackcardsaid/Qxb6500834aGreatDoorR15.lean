import Derived.Test.Qxb6500834aGreatDoorK65
import Derived.Test.Qxb6500834aGreatDoorK41
set_option linter.unusedVariables false
set_option linter.unusedSimpArgs false
set_option maxRecDepth 100000
namespace Go.Proofs.Qxb6500834aGreatDoor
open Go.RowKit Go.E1 Go.Kern Go.ChangeShapes Go.WideShapes

theorem exitGivesEverythingBack_lifted (os : Os) (started : os.Started) (H : Type) (enc : TypeId × Value → H) :
    ReturnsInHanded {} Tryz.checked os 11 .any (fun w args => (Rows.exitGivesEverythingBackSpec.pre enc Tryz.prog Tryz.f11 [] false w args ∧ laidMetH Tryz.prog Rows.exitGivesEverythingBackRow.laid w) ∧ sizedMet enc Tryz.prog Tryz.f11 (OpenSpec.ofChange Rows.exitGivesEverythingBackSpec) false w args)
      (Rows.exitGivesEverythingBackSpec.post enc Tryz.prog Tryz.f11 false true false false) := by
  refine returnsInHanded_of_change_and (C := Tryz.checked) (X := fun w _ => laidMetH Tryz.prog Rows.exitGivesEverythingBackRow.laid w) (fun _ _ _ hh h => h.of_heap hh) Tryz.own started (by kernel_rfl) Tryz.func11
    (ChangeSpec.witness_at (enc := enc) (C := Tryz.checked) (os := os) (X := fun w _ => laidMetH Tryz.prog Rows.exitGivesEverythingBackRow.laid w) false (laidOf (World.holding Tryz.prog os ⟨#[], #[], []⟩)) #[.slice none 0 0] 8 rfl (by kernel_rfl) (by kernel_rfl) (by kernel_rfl) (by kernel_rfl) (by kernel_rfl) (laidWorld_met os _)) ?_
  intro W base args ds gs before hval0 hW _ hsz hL _
  have hval : ∀ (j : Nat) t v, Tryz.f11.params[j]? = some t → args[j]? = some v → Value.okWide Tryz.prog W .any base t v := hval0
  have hW' := hW
  obtain ⟨p, q, hA0, hV, rfl, _, _⟩ := hW
  have hA : DataW.TrodAll enc Tryz.prog W 0 (fun _ => true) true Tryz.f11.params.toList args.toList ds p := hA0
  rw [Tryz.params11] at hA hval
  obtain ⟨v0, d0, rfl, rfl, h0⟩ := trodAll_one hA
  obtain ⟨rfl, rfl⟩ := trodVars_none hV
  obtain ⟨a0, len, cap, rfl⟩ := okWide_slice Tryz.underlying22 (hval 0 22 v0 rfl rfl)
  clear hA0 hval0
  simp only [List.append_nil] at hW'
  have hlt : ∀ x ∈ p, x.block < W.heap.size := fun x hx => by simpa using hW'.lt x hx
  have hargs : ∀ (W' : World), Below W.heap.size W W' → DataW.Trod enc Tryz.prog W' 0 (fun b => decide (b < W.heap.size)) true 22 (.slice a0 len cap) d0 p :=
    fun W' hn => Below.trod Tryz.laidOut (by kernel_rfl) (of_decide_eq_true (by kernel_rfl)) h0 hn hlt
  have hrd : Rd Tryz.prog W 22 [.slice a0 len cap] := rd_of_trod (v := .slice a0 len cap) h0 fun x hx =>
    of_decide_eq_true (List.all_eq_true.1 hsz x (weightsEach_mem (i := 0) (t := 22) (d := d0) rfl rfl x hx))
  obtain ⟨a, n, c, sb, so, op, hv, hn, ha, hS⟩ := scr_of hrd
  cases hv
  refine (exitL_ok a0 sb so len cap op (gD_of hL) hS hn ha (cap_of (v := .bool true) hrd)).mono ?_
  rintro e W' ⟨v, rfl, rfl, st⟩
  have hb := st.below
  exact ⟨_, rfl, _, _, _, [], _, [], hW', trodAll_mk1 (shutBool Tryz.underlying4 true), trodAll_mk1 (hargs _ hb), rfl, hb.frame _, fun h => by cases h⟩

theorem exitGivesEverythingBack_named : Tryz.prog.funcNamed "e2e/kernellaw.ExitGivesEverythingBack" = some 11 := by kernel_rfl
theorem exitGivesEverythingBack_inPlace : Tryz.prog.inPlace 11 = Rows.exitGivesEverythingBackRow.inPlace := by kernel_rfl
theorem exitGivesEverythingBack_unfollowed : Tryz.prog.unfollowed 11 = Rows.exitGivesEverythingBackRow.unfollowed := by kernel_rfl
theorem exitGivesEverythingBack_recurses : Tryz.prog.recurses 11 = Rows.exitGivesEverythingBackRow.recurses := by kernel_rfl
theorem exitGivesEverythingBack_varsNamed : Tryz.prog.varsNamed 11 = Rows.exitGivesEverythingBackRow.named := by kernel_rfl
theorem exitGivesEverythingBack_goes : false = Rows.exitGivesEverythingBackRow.goesBy Tryz.prog := by kernel_rfl
theorem exitGivesEverythingBack_wfByText : Rows.exitGivesEverythingBackRow.wfByText (OpenSpec.ofChange Rows.exitGivesEverythingBackSpec) = true := by kernel_rfl
theorem exitGivesEverythingBack_closed : joinedFacts Tryz.prog 11 Tryz.f11 Rows.exitGivesEverythingBackSpec Rows.exitGivesEverythingBackRow = true := by
  unfold joinedFacts
  rw [Tryz.laidOut, Tryz.mapsRowed, exitGivesEverythingBack_inPlace, exitGivesEverythingBack_unfollowed, exitGivesEverythingBack_recurses, exitGivesEverythingBack_varsNamed, mayEnter_is, liftsFinal_is, make_is]
  kernel_rfl
theorem exitGivesEverythingBack_holds : Rows.ExitGivesEverythingBackSaid :=
  OpenClaim.holds_of_wide 11 Tryz.f11 rfl rfl rfl rfl rfl rfl rfl ⟨rfl, rfl, rfl, rfl, rfl⟩ rfl rfl rfl rfl rfl exitGivesEverythingBack_named Tryz.func11 exitGivesEverythingBack_closed
    (of_decide_eq_true (by kernel_rfl)) (by unfold Func.isWrapper; rw [if_neg (by decide +kernel)]; exact ⟨rfl, rfl⟩)
    (fun os started H enc _ => exitGivesEverythingBack_lifted os started H enc)

theorem exitGivesEverythingBack_card : Rows.ExitGivesEverythingBackCardSaid :=
  Claim7.holds_tied_plain_at .later [] [.data] true (true, "97ac87dfac3f20713effc37b5a65aebb656b0a9942654f03175d2d34f46d6493") false
    exitGivesEverythingBack_holds (fun _ h => by cases h) exitGivesEverythingBack_wfByText (fun _ h => by cases h) exitGivesEverythingBack_row_tie rfl ⟨rfl, rfl⟩ (mainIs_is.trans harness_is) rfl
    (fun f fn hf hfn => by
      obtain rfl : f = 11 := Option.some.inj (exitGivesEverythingBack_named.symm.trans hf) |>.symm
      obtain rfl : fn = Tryz.f11 := (Option.some.inj (Tryz.func11.symm.trans hfn)).symm
      exact ⟨looks_is, fun j t ht => by
        rw [Tryz.params11] at ht
        have hm : t ∈ [22] := by simpa using Array.mem_of_getElem? ht
        exact (show Tryz.prog.wantsStandIn t = false by simpa using List.all_eq_true.1 stand_is t hm)⟩)
    exitGivesEverythingBack_goes
end Go.Proofs.Qxb6500834aGreatDoor

