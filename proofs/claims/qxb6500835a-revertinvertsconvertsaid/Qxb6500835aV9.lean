import Derived.Test.Qxb6500835aV8
import Derived.Test.Qxb6500835aRows
import Derived.ProofKit
import Derived.SizedLaws
set_option linter.unusedVariables false
set_option linter.unusedSimpArgs false
namespace Go.Proofs.Qxb6500835a
open Go.ChangeShapes Go.WideShapes Go.ChangeAt Go.RowKit Go.E1 Go.Conv

theorem Try.own : ownKnob Try.prog.godebug = none := by kernel_rfl
theorem Try.laidOut : laidOutB Try.prog = true := by kernel_rfl

theorem shutBool {H : Type} {enc : TypeId × Value → H} {P : Program} {w : World} {base : Nat} {spare : Nat → Bool} {held : Bool} {t : TypeId} (hu : P.underlying t = some .bool) (b : Bool) : DataW.Trod enc P w base spare held t (.bool b) (.lit (.bool b)) [] :=
  ⟨1, by simp [DataW.trod, hu, Value.cells]⟩

set_option maxRecDepth 100000 in
theorem revertInverts_lifted (os : Os) (started : os.Started) (H : Type) (enc : TypeId × Value → H) :
    ReturnsInHanded {} Try.checked os 3 .any (Rows.revertInvertsConvertSpec.pre6 enc Try.prog Try.f3 Rows.revertInvertsConvertRow.domain false) (Rows.revertInvertsConvertSpec.post enc Try.prog Try.f3 false true false false) := by
  refine returnsInHanded_of_change_sized (C := Try.checked) Try.own started (by kernel_rfl) Try.func3
    (ChangeSpec.witness6 (enc := enc) (C := Try.checked) false ⟨#[], #[.slice none 0 0], []⟩ 8 (by kernel_rfl) (by kernel_rfl) (by kernel_rfl) (by kernel_rfl)) ?_
  intro W base args ds gs before hval0 hW _ hsz _
  have hval : ∀ (j : Nat) t v, Try.f3.params[j]? = some t → args[j]? = some v → Value.okWide Try.prog W .any base t v := hval0
  have hW' := hW
  obtain ⟨p, q, hA0, hV, rfl, _, _⟩ := hW
  have hA : DataW.TrodAll enc Try.prog W 0 (fun _ => true) true Try.f3.params.toList args.toList ds p := hA0
  rw [Try.params3] at hA hval
  obtain ⟨v0, d0, rfl, rfl, h0⟩ := trodAll_one hA
  obtain ⟨rfl, rfl⟩ := trodVars_none hV
  obtain ⟨a0, len, cap, rfl⟩ := okWide_slice Try.underlying22 (hval 0 22 v0 rfl rfl)
  clear hA0 hval0
  simp only [List.append_nil] at hW'
  have hlt : ∀ x ∈ p, x.block < W.heap.size := fun x hx => by simpa using hW'.lt x hx
  have hargs : ∀ (W' : World), Below W.heap.size W W' → DataW.Trod enc Try.prog W' 0 (fun b => decide (b < W.heap.size)) true 22 (.slice a0 len cap) d0 p :=
    fun W' hn => Below.trod Try.laidOut (by kernel_rfl) (of_decide_eq_true (by kernel_rfl)) h0 hn hlt
  have hrd : Rd Try.prog W 22 [.slice a0 len cap] := rd_of_trod (v := .slice a0 len cap) h0 fun x hx =>
    of_decide_eq_true (List.all_eq_true.1 hsz x (weightsEach_mem (i := 0) (t := 22) (d := d0) rfl rfl x hx))
  obtain ⟨a, n, c, sb, so, C, hv, hnc, hc, ha, hs⟩ := scr_of hrd
  cases hv
  obtain ⟨la, ln, lcp, lb, lo, X, V, hL⟩ := lists_of hs
  obtain ⟨xa, gn, gcp, xb, xo, I, da, db, dO, dl, dc, D, hP⟩ := groups_of hs
  refine (revertInverts_ok a0 sb so len cap C la ln lcp lb lo X V xa gn gcp xb xo I da db dO dl dc D (by omega) ha hs hL hP).mono ?_
  rintro e W' ⟨v, rfl, rfl, st⟩
  have hb := st.below
  exact ⟨_, rfl, _, _, _, [], _, [], hW', trodAll_mk1 (shutBool Try.underlying4 true), trodAll_mk1 (hargs _ hb), rfl, hb.frame _, fun h => by cases h⟩

theorem revertInvertsConvert_holds : Rows.RevertInvertsConvertSaid :=
  OpenClaim.holds_of_wide 3 Try.f3 rfl rfl rfl rfl rfl rfl rfl ⟨rfl, rfl, rfl, rfl, rfl⟩ rfl rfl rfl rfl rfl (by kernel_rfl) Try.func3 (by kernel_rfl)
    (of_decide_eq_true (by kernel_rfl)) (by unfold Func.isWrapper; first | (rw [if_pos (by decide +kernel)]; kernel_rfl) | (rw [if_neg (by decide +kernel)]; exact ⟨rfl, rfl⟩))
    (fun os started H enc _ => revertInverts_lifted os started H enc)

end Go.Proofs.Qxb6500835a

