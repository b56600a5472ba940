/-
  No cell of these rows narrows 'for every input' (looked for: loops, veiled, ifaces, maps, wideKeys, modest, calm, conditions, laid).
  DERIVED. THE GIVEN ROWS OF THIS SEAT. 1 by the template 'for every input the law returns true; each argument reads behind the call as it read before'; 0 by the template 'total and deterministic' (their statements: Qxb6500835aFmtTotals.lean).
  GIVEN WITH THE SEED: the statements are not yours to turn. If you find one false, say at which input.
  Laid BY PROGRAM, IN A SANDBOX (cutbox-rows.mjs): the forced cells as the released guide's own fill.sh prints them over the translation 502252b3cfa8f0aa… (all of the seat's roots in one cut). By AI agents, Wed Nov 11 2026. No macro, syntax, notation, axiom, sorry.
-/
import Derived.Test.Qxb6500835aFmtChecked
import GoSem.Claim
import GoSem.ClaimJoined
import GoSem.ClaimMapViews
import Derived.JoinedTies
import Derived.KernelRfl
namespace Go.Proofs.Qxb6500835aFmt
/- THE CELL 'sum', in the pinned program and in every row, IS THE sha256 OF THE DUMP (.gsa) THAT Qxb6500835aFmtProg.lean LOADS. Nothing in Lean hashes anything: it is a label: what it is worth is what the hold of that sum in a sandbox is worth. -/
noncomputable def Tryf.pinned : Pinned := { name := "qxb6500835afmt", sum := "502252b3cfa8f0aae6c989a714d713e9ef430f97ef4e8788d69003c452a7d028", checked := Tryf.checked }
namespace Rows
def none {H : Type} : Left H := { results := [], args := [] }

/-- 'buildlaw.ConverterKeepsTriples': WHATEVER THE INPUT: true; the input reads as it did. -/
def converterKeepsTriplesSpec : ChangeSpec := { name := "converterKeepsTriples", fn := fun _ => fun
  | [d] => { results := [.lit (.bool true)], args := [d] }
  | _ => none }
def converterKeepsTriplesRow : OpenClaim := { program := "qxb6500835afmt", sum := "502252b3cfa8f0aae6c989a714d713e9ef430f97ef4e8788d69003c452a7d028", func := "e2e/buildlaw.ConverterKeepsTriples", spec := "converterKeepsTriples", stops := ["fmt.Sprintf"], inPlace := ["fmt.Sprintf"], plainKeys := false, apart := false }
/-- NO THEOREM (fmt's text is open here; it may be false): for the released tool's asking of the row's closed facts alone. THE STATEMENT IS 'ConverterKeepsTriplesToldSaid' (Qxb6500835aFmtCards.lean). -/
def ConverterKeepsTriplesFormAsk : Prop := converterKeepsTriplesRow.holds Tryf.pinned (OpenSpec.ofChange converterKeepsTriplesSpec)

/-- ITS FALSE NEIGHBOUR: 'it returns false'. Refute it at one input. -/
def converterKeepsTriplesWrong : ChangeSpec := { name := "converterKeepsTriples", fn := fun _ => fun
  | [d] => { results := [.lit (.bool false)], args := [d] }
  | _ => none }
def ConverterKeepsTriplesWrongFormAsk : Prop := converterKeepsTriplesRow.holds Tryf.pinned (OpenSpec.ofChange converterKeepsTriplesWrong)

end Rows
end Go.Proofs.Qxb6500835aFmt
