/-
  DERIVED. GIVEN WITH THE SEED: THE CARDS: each row of Qxb6500841aDoorRows.lean that lists a variable, with what it lists TIED to the program's text (the seventh form; the later family's looks); each row that meets fmt, with fmt's text TOLD by the authors' own Lean function (tested against real Go, not proved from fmt's source: count such statements apart). THE CARD IS WHAT COUNTS. Prove the row's statement (the work); the ties are given (Qxb6500841aDoorTie.lean); close each card by the builder's one call (the guide's Derived/Test/ToyasCard.lean, 'card_holds'). Laid BY PROGRAM, IN A SANDBOX (cutbox-door.mjs). By AI agents, Wed Nov 11 2026. No macro, syntax, notation, axiom, sorry.
-/
import Derived.Test.Qxb6500841aDoorRows
import GoSem.ClaimSeven
namespace Go.Proofs.Qxb6500841aDoor
namespace Rows

/-- THE TIED CARD OF 'wirelaw.SerialiseInvertsParse'. -/
def serialiseInvertsParseCard : Claim7 := { stood := { row := serialiseInvertsParseRow, standIns := [], harness := (true, "eaa1f5cd98564b8ff9f5dfeb6bd84657f84e24e728b649659d95d4a5376f43a4"), looks := false }, kinds := [], alts := [], laidByText := true, laidKinds := [.called, .called, .called, .called, .called, .called, .called, .called, .called, .called, .called, .called, .called, .called, .called, .called, .called, .called, .called, .called], laidTests := true, laidLooks := .later }
def SerialiseInvertsParseCardSaid : Prop := Claim7.holds Tryd.pinned (.plain (OpenSpec.ofChange serialiseInvertsParseSpec)) serialiseInvertsParseCard

/-- THE TIED CARD OF 'wirelaw.ChecksumIsOnesComplementSum'. -/
def checksumIsOnesComplementSumCard : Claim7 := { stood := { row := checksumIsOnesComplementSumRow, standIns := [], harness := (true, "eaa1f5cd98564b8ff9f5dfeb6bd84657f84e24e728b649659d95d4a5376f43a4"), looks := false }, kinds := [], alts := [], laidByText := true, laidKinds := [.called, .called, .called, .called, .called, .called, .called, .called, .called, .called, .called, .called, .called, .called, .called, .called, .called, .called, .called, .called], laidTests := true, laidLooks := .later }
def ChecksumIsOnesComplementSumCardSaid : Prop := Claim7.holds Tryd.pinned (.plain (OpenSpec.ofChange checksumIsOnesComplementSumSpec)) checksumIsOnesComplementSumCard

/-- THE TIED CARD OF 'wirelaw.IncrementalEqualsFull'. -/
def incrementalEqualsFullCard : Claim7 := { stood := { row := incrementalEqualsFullRow, standIns := [], harness := (true, "eaa1f5cd98564b8ff9f5dfeb6bd84657f84e24e728b649659d95d4a5376f43a4"), looks := false }, kinds := [], alts := [], laidByText := true, laidKinds := [.data, .called, .called, .called, .called, .called, .called, .called, .called, .called, .called, .pinned], laidTests := true, laidLooks := .later }
def IncrementalEqualsFullCardSaid : Prop := Claim7.holds Tryd.pinned (.plain (OpenSpec.ofChange incrementalEqualsFullSpec)) incrementalEqualsFullCard

/-- THE TIED CARD OF 'wirelaw.IncrementalKeepsVerdict'. -/
def incrementalKeepsVerdictCard : Claim7 := { stood := { row := incrementalKeepsVerdictRow, standIns := [], harness := (true, "eaa1f5cd98564b8ff9f5dfeb6bd84657f84e24e728b649659d95d4a5376f43a4"), looks := false }, kinds := [], alts := [], laidByText := true, laidKinds := [.data, .called, .called, .called, .called, .called, .called, .called, .called, .called, .called, .pinned], laidTests := true, laidLooks := .later }
def IncrementalKeepsVerdictCardSaid : Prop := Claim7.holds Tryd.pinned (.plain (OpenSpec.ofChange incrementalKeepsVerdictSpec)) incrementalKeepsVerdictCard
end Rows
end Go.Proofs.Qxb6500841aDoor
