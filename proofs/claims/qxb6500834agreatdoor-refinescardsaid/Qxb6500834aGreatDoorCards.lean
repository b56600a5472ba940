/-
  DERIVED. GIVEN WITH THE SEED: THE CARDS: each row of Qxb6500834aGreatDoorRows.lean that lists a variable, with what it lists TIED to the program's text (the seventh form; the later family's looks); each row that meets fmt, with fmt's text TOLD by the authors' own Lean function (tested against real Go, not proved from fmt's source: count such statements apart). THE CARD IS WHAT COUNTS. Prove the row's statement (the work); the ties are given (Qxb6500834aGreatDoorTie.lean); close each card by the builder's one call (the guide's Derived/Test/ToyasCard.lean, 'card_holds'). Laid BY PROGRAM, IN A SANDBOX (cutbox-door.mjs). By AI agents, Wed Nov 11 2026. No macro, syntax, notation, axiom, sorry.
-/
import Derived.Test.Qxb6500834aGreatDoorRows
import GoSem.ClaimSeven
namespace Go.Proofs.Qxb6500834aGreatDoor
namespace Rows

/-- THE TIED CARD OF 'kernellaw.VictimsLieOnCycles'. -/
def victimsLieOnCyclesCard : Claim7 := { stood := { row := victimsLieOnCyclesRow, standIns := [], harness := (true, "97ac87dfac3f20713effc37b5a65aebb656b0a9942654f03175d2d34f46d6493"), looks := false }, kinds := [], alts := [], laidByText := true, laidKinds := [.data], laidTests := true, laidLooks := .later }
def VictimsLieOnCyclesCardSaid : Prop := Claim7.holds Tryz.pinned (.plain (OpenSpec.ofChange victimsLieOnCyclesSpec)) victimsLieOnCyclesCard

/-- THE TIED CARD OF 'kernellaw.AbortsByAgeHaveAnOlderWitness'. -/
def abortsByAgeHaveAnOlderWitnessCard : Claim7 := { stood := { row := abortsByAgeHaveAnOlderWitnessRow, standIns := [], harness := (true, "97ac87dfac3f20713effc37b5a65aebb656b0a9942654f03175d2d34f46d6493"), looks := false }, kinds := [], alts := [], laidByText := true, laidKinds := [.data], laidTests := true, laidLooks := .later }
def AbortsByAgeHaveAnOlderWitnessCardSaid : Prop := Claim7.holds Tryz.pinned (.plain (OpenSpec.ofChange abortsByAgeHaveAnOlderWitnessSpec)) abortsByAgeHaveAnOlderWitnessCard

/-- THE TIED CARD OF 'kernellaw.BankerStaysSafe'. -/
def bankerStaysSafeCard : Claim7 := { stood := { row := bankerStaysSafeRow, standIns := [], harness := (true, "97ac87dfac3f20713effc37b5a65aebb656b0a9942654f03175d2d34f46d6493"), looks := false }, kinds := [], alts := [], laidByText := true, laidKinds := [.data], laidTests := true, laidLooks := .later }
def BankerStaysSafeCardSaid : Prop := Claim7.holds Tryz.pinned (.plain (OpenSpec.ofChange bankerStaysSafeSpec)) bankerStaysSafeCard

/-- THE TIED CARD OF 'kernellaw.NoGrantableHeadIsLeftWaiting'. -/
def noGrantableHeadIsLeftWaitingCard : Claim7 := { stood := { row := noGrantableHeadIsLeftWaitingRow, standIns := [], harness := (true, "97ac87dfac3f20713effc37b5a65aebb656b0a9942654f03175d2d34f46d6493"), looks := false }, kinds := [], alts := [], laidByText := true, laidKinds := [.data], laidTests := true, laidLooks := .later }
def NoGrantableHeadIsLeftWaitingCardSaid : Prop := Claim7.holds Tryz.pinned (.plain (OpenSpec.ofChange noGrantableHeadIsLeftWaitingSpec)) noGrantableHeadIsLeftWaitingCard

/-- THE TIED CARD OF 'kernellaw.Refines'. -/
def refinesCard : Claim7 := { stood := { row := refinesRow, standIns := [], harness := (true, "97ac87dfac3f20713effc37b5a65aebb656b0a9942654f03175d2d34f46d6493"), looks := false }, kinds := [], alts := [], laidByText := true, laidKinds := [.data], laidTests := true, laidLooks := .later }
def RefinesCardSaid : Prop := Claim7.holds Tryz.pinned (.plain (OpenSpec.ofChange refinesSpec)) refinesCard

/-- THE TIED CARD OF 'kernellaw.UndoRestoresWrittenValues'. -/
def undoRestoresWrittenValuesCard : Claim7 := { stood := { row := undoRestoresWrittenValuesRow, standIns := [], harness := (true, "97ac87dfac3f20713effc37b5a65aebb656b0a9942654f03175d2d34f46d6493"), looks := false }, kinds := [], alts := [], laidByText := true, laidKinds := [.data], laidTests := true, laidLooks := .later }
def UndoRestoresWrittenValuesCardSaid : Prop := Claim7.holds Tryz.pinned (.plain (OpenSpec.ofChange undoRestoresWrittenValuesSpec)) undoRestoresWrittenValuesCard

/-- THE TIED CARD OF 'kernellaw.FullLogRefusesTheWrite'. -/
def fullLogRefusesTheWriteCard : Claim7 := { stood := { row := fullLogRefusesTheWriteRow, standIns := [], harness := (true, "97ac87dfac3f20713effc37b5a65aebb656b0a9942654f03175d2d34f46d6493"), looks := false }, kinds := [], alts := [], laidByText := true, laidKinds := [.data], laidTests := true, laidLooks := .later }
def FullLogRefusesTheWriteCardSaid : Prop := Claim7.holds Tryz.pinned (.plain (OpenSpec.ofChange fullLogRefusesTheWriteSpec)) fullLogRefusesTheWriteCard

/-- THE TIED CARD OF 'kernellaw.WritesNeedTheWriteLock'. -/
def writesNeedTheWriteLockCard : Claim7 := { stood := { row := writesNeedTheWriteLockRow, standIns := [], harness := (true, "97ac87dfac3f20713effc37b5a65aebb656b0a9942654f03175d2d34f46d6493"), looks := false }, kinds := [], alts := [], laidByText := true, laidKinds := [.data], laidTests := true, laidLooks := .later }
def WritesNeedTheWriteLockCardSaid : Prop := Claim7.holds Tryz.pinned (.plain (OpenSpec.ofChange writesNeedTheWriteLockSpec)) writesNeedTheWriteLockCard

/-- THE TIED CARD OF 'kernellaw.ExitGivesEverythingBack'. -/
def exitGivesEverythingBackCard : Claim7 := { stood := { row := exitGivesEverythingBackRow, standIns := [], harness := (true, "97ac87dfac3f20713effc37b5a65aebb656b0a9942654f03175d2d34f46d6493"), looks := false }, kinds := [], alts := [], laidByText := true, laidKinds := [.data], laidTests := true, laidLooks := .later }
def ExitGivesEverythingBackCardSaid : Prop := Claim7.holds Tryz.pinned (.plain (OpenSpec.ofChange exitGivesEverythingBackSpec)) exitGivesEverythingBackCard

/-- THE TIED CARD OF 'kernellaw.EpochsAreNeverReused'. -/
def epochsAreNeverReusedCard : Claim7 := { stood := { row := epochsAreNeverReusedRow, standIns := [], harness := (true, "97ac87dfac3f20713effc37b5a65aebb656b0a9942654f03175d2d34f46d6493"), looks := false }, kinds := [], alts := [], laidByText := true, laidKinds := [.data], laidTests := true, laidLooks := .later }
def EpochsAreNeverReusedCardSaid : Prop := Claim7.holds Tryz.pinned (.plain (OpenSpec.ofChange epochsAreNeverReusedSpec)) epochsAreNeverReusedCard

/-- THE TIED CARD OF 'kernellaw.SpawnBeyondSixteenIsRefused'. -/
def spawnBeyondSixteenIsRefusedCard : Claim7 := { stood := { row := spawnBeyondSixteenIsRefusedRow, standIns := [], harness := (true, "97ac87dfac3f20713effc37b5a65aebb656b0a9942654f03175d2d34f46d6493"), looks := false }, kinds := [], alts := [], laidByText := true, laidKinds := [.data], laidTests := true, laidLooks := .later }
def SpawnBeyondSixteenIsRefusedCardSaid : Prop := Claim7.holds Tryz.pinned (.plain (OpenSpec.ofChange spawnBeyondSixteenIsRefusedSpec)) spawnBeyondSixteenIsRefusedCard

/-- THE TIED CARD OF 'kernellaw.RefusalsChangeNothing'. -/
def refusalsChangeNothingCard : Claim7 := { stood := { row := refusalsChangeNothingRow, standIns := [], harness := (true, "97ac87dfac3f20713effc37b5a65aebb656b0a9942654f03175d2d34f46d6493"), looks := false }, kinds := [], alts := [], laidByText := true, laidKinds := [.data], laidTests := true, laidLooks := .later }
def RefusalsChangeNothingCardSaid : Prop := Claim7.holds Tryz.pinned (.plain (OpenSpec.ofChange refusalsChangeNothingSpec)) refusalsChangeNothingCard

/-- THE TIED CARD OF 'kernellaw.UnitsAreConserved'. -/
def unitsAreConservedCard : Claim7 := { stood := { row := unitsAreConservedRow, standIns := [], harness := (true, "97ac87dfac3f20713effc37b5a65aebb656b0a9942654f03175d2d34f46d6493"), looks := false }, kinds := [], alts := [], laidByText := true, laidKinds := [.data], laidTests := true, laidLooks := .later }
def UnitsAreConservedCardSaid : Prop := Claim7.holds Tryz.pinned (.plain (OpenSpec.ofChange unitsAreConservedSpec)) unitsAreConservedCard

/-- THE TIED CARD OF 'kernellaw.RollbackLeavesOthersAlone'. -/
def rollbackLeavesOthersAloneCard : Claim7 := { stood := { row := rollbackLeavesOthersAloneRow, standIns := [], harness := (true, "97ac87dfac3f20713effc37b5a65aebb656b0a9942654f03175d2d34f46d6493"), looks := false }, kinds := [], alts := [], laidByText := true, laidKinds := [.data], laidTests := true, laidLooks := .later }
def RollbackLeavesOthersAloneCardSaid : Prop := Claim7.holds Tryz.pinned (.plain (OpenSpec.ofChange rollbackLeavesOthersAloneSpec)) rollbackLeavesOthersAloneCard

/-- THE TIED CARD OF 'kernellaw.BirthStampsSurviveRestart'. -/
def birthStampsSurviveRestartCard : Claim7 := { stood := { row := birthStampsSurviveRestartRow, standIns := [], harness := (true, "97ac87dfac3f20713effc37b5a65aebb656b0a9942654f03175d2d34f46d6493"), looks := false }, kinds := [], alts := [], laidByText := true, laidKinds := [.data], laidTests := true, laidLooks := .later }
def BirthStampsSurviveRestartCardSaid : Prop := Claim7.holds Tryz.pinned (.plain (OpenSpec.ofChange birthStampsSurviveRestartSpec)) birthStampsSurviveRestartCard

/-- THE TIED CARD OF 'kernellaw.EveryPendingCallIsAnsweredOnce'. -/
def everyPendingCallIsAnsweredOnceCard : Claim7 := { stood := { row := everyPendingCallIsAnsweredOnceRow, standIns := [], harness := (true, "97ac87dfac3f20713effc37b5a65aebb656b0a9942654f03175d2d34f46d6493"), looks := false }, kinds := [], alts := [], laidByText := true, laidKinds := [.data], laidTests := true, laidLooks := .later }
def EveryPendingCallIsAnsweredOnceCardSaid : Prop := Claim7.holds Tryz.pinned (.plain (OpenSpec.ofChange everyPendingCallIsAnsweredOnceSpec)) everyPendingCallIsAnsweredOnceCard

/-- THE TIED CARD OF 'kernellaw.TimedWaitsEndOnTime'. -/
def timedWaitsEndOnTimeCard : Claim7 := { stood := { row := timedWaitsEndOnTimeRow, standIns := [], harness := (true, "97ac87dfac3f20713effc37b5a65aebb656b0a9942654f03175d2d34f46d6493"), looks := false }, kinds := [], alts := [], laidByText := true, laidKinds := [.data], laidTests := true, laidLooks := .later }
def TimedWaitsEndOnTimeCardSaid : Prop := Claim7.holds Tryz.pinned (.plain (OpenSpec.ofChange timedWaitsEndOnTimeSpec)) timedWaitsEndOnTimeCard

/-- THE TIED CARD OF 'kernellaw.ZeroTicksIsTry'. -/
def zeroTicksIsTryCard : Claim7 := { stood := { row := zeroTicksIsTryRow, standIns := [], harness := (true, "97ac87dfac3f20713effc37b5a65aebb656b0a9942654f03175d2d34f46d6493"), looks := false }, kinds := [], alts := [], laidByText := true, laidKinds := [.data], laidTests := true, laidLooks := .later }
def ZeroTicksIsTryCardSaid : Prop := Claim7.holds Tryz.pinned (.plain (OpenSpec.ofChange zeroTicksIsTrySpec)) zeroTicksIsTryCard

/-- THE TIED CARD OF 'kernellaw.DirtyLocksStayHeld'. -/
def dirtyLocksStayHeldCard : Claim7 := { stood := { row := dirtyLocksStayHeldRow, standIns := [], harness := (true, "97ac87dfac3f20713effc37b5a65aebb656b0a9942654f03175d2d34f46d6493"), looks := false }, kinds := [], alts := [], laidByText := true, laidKinds := [.data], laidTests := true, laidLooks := .later }
def DirtyLocksStayHeldCardSaid : Prop := Claim7.holds Tryz.pinned (.plain (OpenSpec.ofChange dirtyLocksStayHeldSpec)) dirtyLocksStayHeldCard

/-- THE TIED CARD OF 'kernellaw.ClaimsAreKept'. -/
def claimsAreKeptCard : Claim7 := { stood := { row := claimsAreKeptRow, standIns := [], harness := (true, "97ac87dfac3f20713effc37b5a65aebb656b0a9942654f03175d2d34f46d6493"), looks := false }, kinds := [], alts := [], laidByText := true, laidKinds := [.data], laidTests := true, laidLooks := .later }
def ClaimsAreKeptCardSaid : Prop := Claim7.holds Tryz.pinned (.plain (OpenSpec.ofChange claimsAreKeptSpec)) claimsAreKeptCard
end Rows
end Go.Proofs.Qxb6500834aGreatDoor
