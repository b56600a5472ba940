/-
  No cell of these rows narrows 'for every input' (looked for: loops, veiled, ifaces, maps, wideKeys, modest, calm, conditions, laid).
  DERIVED. THE GIVEN ROWS OF THIS SEAT. 1 by the template 'for every input the law returns true; each argument reads behind the call as it read before'; 0 by the template 'total and deterministic' (their statements: Qxb6500835aTotals.lean).
  GIVEN WITH THE SEED: the statements are not yours to turn. If you find one false, say at which input.
  Laid BY PROGRAM, IN A SANDBOX (cutbox-rows.mjs): the forced cells as the released guide's own fill.sh prints them over the translation 4ca3a68b8f8a438f… (all of the seat's roots in one cut). By AI agents, Wed Nov 11 2026. No macro, syntax, notation, axiom, sorry.
-/
import Derived.Test.Qxb6500835aChecked
import GoSem.Claim
import GoSem.ClaimJoined
import GoSem.ClaimMapViews
import Derived.JoinedTies
import Derived.KernelRfl
namespace Go.Proofs.Qxb6500835a
/- THE CELL 'sum', in the pinned program and in every row, IS THE sha256 OF THE DUMP (.gsa) THAT Qxb6500835aProg.lean LOADS. Nothing in Lean hashes anything: it is a label: what it is worth is what the hold of that sum in a sandbox is worth. -/
noncomputable def Try.pinned : Pinned := { name := "qxb6500835a", sum := "4ca3a68b8f8a438f7b3797dde841d09fecbfc82d8df8a3885357d65d83a0a436", checked := Try.checked }
namespace Rows
def none {H : Type} : Left H := { results := [], args := [] }

/-- 'buildlaw.RevertInvertsConvert': WHATEVER THE INPUT: true; the input reads as it did. -/
def revertInvertsConvertSpec : ChangeSpec := { name := "revertInvertsConvert", fn := fun _ => fun
  | [d] => { results := [.lit (.bool true)], args := [d] }
  | _ => none }
def revertInvertsConvertRow : OpenClaim := { program := "qxb6500835a", sum := "4ca3a68b8f8a438f7b3797dde841d09fecbfc82d8df8a3885357d65d83a0a436", func := "e2e/buildlaw.RevertInvertsConvert", spec := "revertInvertsConvert", unfollowed := true, recurses := true, apart := false }
def RevertInvertsConvertSaid : Prop := revertInvertsConvertRow.holds Try.pinned (OpenSpec.ofChange revertInvertsConvertSpec)

/-- ITS FALSE NEIGHBOUR: 'it returns false'. Refute it at one input. -/
def revertInvertsConvertWrong : ChangeSpec := { name := "revertInvertsConvert", fn := fun _ => fun
  | [d] => { results := [.lit (.bool false)], args := [d] }
  | _ => none }
def RevertInvertsConvertWrongFalsely : Prop := revertInvertsConvertRow.holds Try.pinned (OpenSpec.ofChange revertInvertsConvertWrong)

end Rows
end Go.Proofs.Qxb6500835a
