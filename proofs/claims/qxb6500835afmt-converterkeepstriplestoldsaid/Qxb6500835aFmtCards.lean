/-
  DERIVED. GIVEN WITH THE SEED: THE CARDS: each row of Qxb6500835aFmtRows.lean that lists a variable, with what it lists TIED to the program's text (the seventh form; the later family's looks); each row that meets fmt, with fmt's text TOLD by the authors' own Lean function (tested against real Go, not proved from fmt's source: count such statements apart). THE CARD IS WHAT COUNTS. Prove the row's statement (the work); the ties are given (Qxb6500835aFmtTie.lean); close each card by the builder's one call (the guide's Derived/Test/ToyasCard.lean, 'card_holds'). Laid BY PROGRAM, IN A SANDBOX (cutbox-door.mjs). By AI agents, Wed Nov 11 2026. No macro, syntax, notation, axiom, sorry.
-/
import Derived.Test.Qxb6500835aFmtRows
import GoSem.ClaimSeven
namespace Go.Proofs.Qxb6500835aFmt
namespace Rows

/-- THE TOLD CARD OF 'buildlaw.ConverterKeepsTriples'. -/
def converterKeepsTriplesCard : Claim7 := { stood := { row := converterKeepsTriplesRow, standIns := [], harness := (true, "777a9c26a41258564231243f18353e3e92589f05ab14a5173ca57af4b911c80a"), looks := true }, told := true, goes := false }
def ConverterKeepsTriplesToldSaid : Prop := Claim7.holds Tryf.pinned (.plain (OpenSpec.ofChange converterKeepsTriplesSpec)) converterKeepsTriplesCard
/-- ITS FALSE NEIGHBOUR. Refute it at one input. -/
def ConverterKeepsTriplesToldWrongFalsely : Prop := Claim7.holds Tryf.pinned (.plain (OpenSpec.ofChange converterKeepsTriplesWrong)) converterKeepsTriplesCard
end Rows
end Go.Proofs.Qxb6500835aFmt
