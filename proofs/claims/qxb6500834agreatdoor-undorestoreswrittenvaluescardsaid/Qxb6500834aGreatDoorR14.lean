import Derived.Test.Qxb6500834aGreatDoorK64
import Derived.Test.Qxb6500834aGreatDoorK41
set_option linter.unusedVariables false
set_option linter.unusedSimpArgs false
set_option maxRecDepth 100000
namespace Go.Proofs.Qxb6500834aGreatDoor
open Go.RowKit Go.E1 Go.Kern Go.ChangeShapes Go.WideShapes

theorem undoRestoresWrittenValues_lifted (os : Os) (started : os.Started) (H : Type) (enc : TypeId × Value → H) :
    ReturnsInHanded {} Tryz.checked os 8 .any (fun w args => (Rows.undoRestoresWrittenValuesSpec.pre enc Tryz.prog Tryz.f8 [] false w args ∧ laidMetH Tryz.prog Rows.undoRestoresWrittenValuesRow.laid w) ∧ sizedMet enc Tryz.prog Tryz.f8 (OpenSpec.ofChange Rows.undoRestoresWrittenValuesSpec) false w args)
      (Rows.undoRestoresWrittenValuesSpec.post enc Tryz.prog Tryz.f8 false true false false) := by
  refine returnsInHanded_of_change_and (C := Tryz.checked) (X := fun w _ => laidMetH Tryz.prog Rows.undoRestoresWrittenValuesRow.laid w) (fun _ _ _ hh h => h.of_heap hh) Tryz.own started (by kernel_rfl) Tryz.func8
    (ChangeSpec.witness_at (enc := enc) (C := Tryz.checked) (os := os) (X := fun w _ => laidMetH Tryz.prog Rows.undoRestoresWrittenValuesRow.laid w) false (laidOf (World.holding Tryz.prog os ⟨#[], #[], []⟩)) #[.slice none 0 0] 8 rfl (by kernel_rfl) (by kernel_rfl) (by kernel_rfl) (by kernel_rfl) (by kernel_rfl) (laidWorld_met os _)) ?_
  intro W base args ds gs before hval0 hW _ hsz hL _
  have hval : ∀ (j : Nat) t v, Tryz.f8.params[j]? = some t → args[j]? = some v → Value.okWide Tryz.prog W .any base t v := hval0
  have hW' := hW
  obtain ⟨p, q, hA0, hV, rfl, _, _⟩ := hW
  have hA : DataW.TrodAll enc Tryz.prog W 0 (fun _ => true) true Tryz.f8.params.toList args.toList ds p := hA0
  rw [Tryz.params8] at hA hval
  obtain ⟨v0, d0, rfl, rfl, h0⟩ := trodAll_one hA
  obtain ⟨rfl, rfl⟩ := trodVars_none hV
  obtain ⟨a0, len, cap, rfl⟩ := okWide_slice Tryz.underlying22 (hval 0 22 v0 rfl rfl)
  clear hA0 hval0
  simp only [List.append_nil] at hW'
  have hlt : ∀ x ∈ p, x.block < W.heap.size := fun x hx => by simpa using hW'.lt x hx
  have hargs : ∀ (W' : World), Below W.heap.size W W' → DataW.Trod enc Tryz.prog W' 0 (fun b => decide (b < W.heap.size)) true 22 (.slice a0 len cap) d0 p :=
    fun W' hn => Below.trod Tryz.laidOut (by kernel_rfl) (of_decide_eq_true (by kernel_rfl)) h0 hn hlt
  have hrd : Rd Tryz.prog W 22 [.slice a0 len cap] := rd_of_trod (v := .slice a0 len cap) h0 fun x hx =>
    of_decide_eq_true (List.all_eq_true.1 hsz x (weightsEach_mem (i := 0) (t := 22) (d := d0) rfl rfl x hx))
  obtain ⟨a, n, c, sb, so, op, hv, hn, ha, hS⟩ := scr_of hrd
  cases hv
  refine (undo_ok a0 sb so len cap op (gD_of hL) hS hn ha).mono ?_
  rintro e W' ⟨v, rfl, rfl, st⟩
  have hb := st.below
  exact ⟨_, rfl, _, _, _, [], _, [], hW', trodAll_mk1 (shutBool Tryz.underlying4 true), trodAll_mk1 (hargs _ hb), rfl, hb.frame _, fun h => by cases h⟩

theorem undoRestoresWrittenValues_named : Tryz.prog.funcNamed "e2e/kernellaw.UndoRestoresWrittenValues" = some 8 := by kernel_rfl
theorem undoRestoresWrittenValues_inPlace : Tryz.prog.inPlace 8 = Rows.undoRestoresWrittenValuesRow.inPlace := by kernel_rfl
theorem undoRestoresWrittenValues_unfollowed : Tryz.prog.unfollowed 8 = Rows.undoRestoresWrittenValuesRow.unfollowed := by kernel_rfl
theorem undoRestoresWrittenValues_recurses : Tryz.prog.recurses 8 = Rows.undoRestoresWrittenValuesRow.recurses := by kernel_rfl
theorem undoRestoresWrittenValues_varsNamed : Tryz.prog.varsNamed 8 = Rows.undoRestoresWrittenValuesRow.named := by kernel_rfl
theorem undoRestoresWrittenValues_goes : false = Rows.undoRestoresWrittenValuesRow.goesBy Tryz.prog := by kernel_rfl
theorem undoRestoresWrittenValues_wfByText : Rows.undoRestoresWrittenValuesRow.wfByText (OpenSpec.ofChange Rows.undoRestoresWrittenValuesSpec) = true := by kernel_rfl
theorem undoRestoresWrittenValues_closed : joinedFacts Tryz.prog 8 Tryz.f8 Rows.undoRestoresWrittenValuesSpec Rows.undoRestoresWrittenValuesRow = true := by
  unfold joinedFacts
  rw [Tryz.laidOut, Tryz.mapsRowed, undoRestoresWrittenValues_inPlace, undoRestoresWrittenValues_unfollowed, undoRestoresWrittenValues_recurses, undoRestoresWrittenValues_varsNamed, mayEnter_is, liftsFinal_is, make_is]
  kernel_rfl
theorem undoRestoresWrittenValues_holds : Rows.UndoRestoresWrittenValuesSaid :=
  OpenClaim.holds_of_wide 8 Tryz.f8 rfl rfl rfl rfl rfl rfl rfl ⟨rfl, rfl, rfl, rfl, rfl⟩ rfl rfl rfl rfl rfl undoRestoresWrittenValues_named Tryz.func8 undoRestoresWrittenValues_closed
    (of_decide_eq_true (by kernel_rfl)) (by unfold Func.isWrapper; rw [if_neg (by decide +kernel)]; exact ⟨rfl, rfl⟩)
    (fun os started H enc _ => undoRestoresWrittenValues_lifted os started H enc)

theorem undoRestoresWrittenValues_card : Rows.UndoRestoresWrittenValuesCardSaid :=
  Claim7.holds_tied_plain_at .later [] [.data] true (true, "97ac87dfac3f20713effc37b5a65aebb656b0a9942654f03175d2d34f46d6493") false
    undoRestoresWrittenValues_holds (fun _ h => by cases h) undoRestoresWrittenValues_wfByText (fun _ h => by cases h) undoRestoresWrittenValues_row_tie rfl ⟨rfl, rfl⟩ (mainIs_is.trans harness_is) rfl
    (fun f fn hf hfn => by
      obtain rfl : f = 8 := Option.some.inj (undoRestoresWrittenValues_named.symm.trans hf) |>.symm
      obtain rfl : fn = Tryz.f8 := (Option.some.inj (Tryz.func8.symm.trans hfn)).symm
      exact ⟨looks_is, fun j t ht => by
        rw [Tryz.params8] at ht
        have hm : t ∈ [22] := by simpa using Array.mem_of_getElem? ht
        exact (show Tryz.prog.wantsStandIn t = false by simpa using List.all_eq_true.1 stand_is t hm)⟩)
    undoRestoresWrittenValues_goes
end Go.Proofs.Qxb6500834aGreatDoor

