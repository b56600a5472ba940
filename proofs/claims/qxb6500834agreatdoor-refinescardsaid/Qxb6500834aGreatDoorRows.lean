/-
  NARROWER THAN 'FOR EVERY INPUT', by the rows' own cells (each row's printed sentence says how): VictimsLieOnCycles: laid · AbortsByAgeHaveAnOlderWitness: laid · BankerStaysSafe: laid · NoGrantableHeadIsLeftWaiting: laid · Refines: laid · UndoRestoresWrittenValues: laid · FullLogRefusesTheWrite: laid · WritesNeedTheWriteLock: laid · ExitGivesEverythingBack: laid · EpochsAreNeverReused: laid · SpawnBeyondSixteenIsRefused: laid · RefusalsChangeNothing: laid · UnitsAreConserved: laid · RollbackLeavesOthersAlone: laid · BirthStampsSurviveRestart: laid · EveryPendingCallIsAnsweredOnce: laid · TimedWaitsEndOnTime: laid · ZeroTicksIsTry: laid · DirtyLocksStayHeld: laid · ClaimsAreKept: laid.
  DERIVED. THE GIVEN ROWS OF THIS SEAT. 20 by the template 'for every input the law returns true; each argument reads behind the call as it read before'; 0 by the template 'total and deterministic' (their statements: Qxb6500834aGreatDoorTotals.lean).
  GIVEN WITH THE SEED: the statements are not yours to turn. If you find one false, say at which input.
  Laid BY PROGRAM, IN A SANDBOX (cutbox-rows.mjs): the forced cells as the released guide's own fill.sh prints them over the translation a2115f252d596b3d… (all of the seat's roots in one cut). By AI agents, Wed Nov 11 2026. No macro, syntax, notation, axiom, sorry.
-/
import Derived.Test.Qxb6500834aGreatDoorChecked
import GoSem.Claim
import GoSem.ClaimJoined
import GoSem.ClaimMapViews
import Derived.JoinedTies
import Derived.KernelRfl
namespace Go.Proofs.Qxb6500834aGreatDoor
/- THE CELL 'sum', in the pinned program and in every row, IS THE sha256 OF THE DUMP (.gsa) THAT Qxb6500834aGreatDoorProg.lean LOADS. Nothing in Lean hashes anything: it is a label: what it is worth is what the hold of that sum in a sandbox is worth. -/
noncomputable def Tryz.pinned : Pinned := { name := "qxb6500834agreatdoor", sum := "a2115f252d596b3d952a7b62c7521103f36949e9f4e5f5e3f6eee2fbea7da292", checked := Tryz.checked }
namespace Rows
def none {H : Type} : Left H := { results := [], args := [] }

/- WHAT THE LISTED PACKAGE-LEVEL VARIABLES READ AS WHEN THE CALL BEGINS. Each datum BY PROGRAM (the guide's laid-datum.mjs) off the statement by which the dump's own 'gosem.cut.vars' lays the variable. In a bare row this is a premise. The card (Qxb6500834aGreatDoorCards.lean) ties it to the program's text. -/
def laid_math_bits_deBruijn32tab {H : Type} : DataW H := .agg [.lit (.int .u8 0), .lit (.int .u8 1), .lit (.int .u8 28), .lit (.int .u8 2), .lit (.int .u8 29), .lit (.int .u8 14), .lit (.int .u8 24), .lit (.int .u8 3), .lit (.int .u8 30), .lit (.int .u8 22), .lit (.int .u8 20), .lit (.int .u8 15), .lit (.int .u8 25), .lit (.int .u8 17), .lit (.int .u8 4), .lit (.int .u8 8), .lit (.int .u8 31), .lit (.int .u8 27), .lit (.int .u8 13), .lit (.int .u8 23), .lit (.int .u8 21), .lit (.int .u8 19), .lit (.int .u8 16), .lit (.int .u8 7), .lit (.int .u8 26), .lit (.int .u8 12), .lit (.int .u8 18), .lit (.int .u8 6), .lit (.int .u8 11), .lit (.int .u8 5), .lit (.int .u8 10), .lit (.int .u8 9)]

/-- 'kernellaw.VictimsLieOnCycles': WHATEVER THE INPUT: true; the input reads as it did. -/
def victimsLieOnCyclesSpec : ChangeSpec := { name := "victimsLieOnCycles", fn := fun _ => fun
  | [d] => { results := [.lit (.bool true)], args := [d] }
  | _ => none }
def victimsLieOnCyclesRow : OpenClaim := { program := "qxb6500834agreatdoor", sum := "a2115f252d596b3d952a7b62c7521103f36949e9f4e5f5e3f6eee2fbea7da292", func := "e2e/kernellaw.VictimsLieOnCycles", spec := "victimsLieOnCycles", inPlace := ["internal/reflectlite.ValueOf", "internal/reflectlite.Swapper", "(internal/reflectlite.Value).Len"], unfollowed := true, recurses := true, named := ["math/bits.deBruijn32tab"], apart := false, laid := [("math/bits.deBruijn32tab", laid_math_bits_deBruijn32tab)] }
def VictimsLieOnCyclesSaid : Prop := victimsLieOnCyclesRow.holds Tryz.pinned (OpenSpec.ofChange victimsLieOnCyclesSpec)

/-- ITS FALSE NEIGHBOUR: 'it returns false'. Refute it at one input. -/
def victimsLieOnCyclesWrong : ChangeSpec := { name := "victimsLieOnCycles", fn := fun _ => fun
  | [d] => { results := [.lit (.bool false)], args := [d] }
  | _ => none }
def VictimsLieOnCyclesWrongFalsely : Prop := victimsLieOnCyclesRow.holds Tryz.pinned (OpenSpec.ofChange victimsLieOnCyclesWrong)

/-- 'kernellaw.AbortsByAgeHaveAnOlderWitness': WHATEVER THE INPUT: true; the input reads as it did. -/
def abortsByAgeHaveAnOlderWitnessSpec : ChangeSpec := { name := "abortsByAgeHaveAnOlderWitness", fn := fun _ => fun
  | [d] => { results := [.lit (.bool true)], args := [d] }
  | _ => none }
def abortsByAgeHaveAnOlderWitnessRow : OpenClaim := { program := "qxb6500834agreatdoor", sum := "a2115f252d596b3d952a7b62c7521103f36949e9f4e5f5e3f6eee2fbea7da292", func := "e2e/kernellaw.AbortsByAgeHaveAnOlderWitness", spec := "abortsByAgeHaveAnOlderWitness", inPlace := ["internal/reflectlite.ValueOf", "internal/reflectlite.Swapper", "(internal/reflectlite.Value).Len"], unfollowed := true, recurses := true, named := ["math/bits.deBruijn32tab"], apart := false, laid := [("math/bits.deBruijn32tab", laid_math_bits_deBruijn32tab)] }
def AbortsByAgeHaveAnOlderWitnessSaid : Prop := abortsByAgeHaveAnOlderWitnessRow.holds Tryz.pinned (OpenSpec.ofChange abortsByAgeHaveAnOlderWitnessSpec)

/-- ITS FALSE NEIGHBOUR: 'it returns false'. Refute it at one input. -/
def abortsByAgeHaveAnOlderWitnessWrong : ChangeSpec := { name := "abortsByAgeHaveAnOlderWitness", fn := fun _ => fun
  | [d] => { results := [.lit (.bool false)], args := [d] }
  | _ => none }
def AbortsByAgeHaveAnOlderWitnessWrongFalsely : Prop := abortsByAgeHaveAnOlderWitnessRow.holds Tryz.pinned (OpenSpec.ofChange abortsByAgeHaveAnOlderWitnessWrong)

/-- 'kernellaw.BankerStaysSafe': WHATEVER THE INPUT: true; the input reads as it did. -/
def bankerStaysSafeSpec : ChangeSpec := { name := "bankerStaysSafe", fn := fun _ => fun
  | [d] => { results := [.lit (.bool true)], args := [d] }
  | _ => none }
def bankerStaysSafeRow : OpenClaim := { program := "qxb6500834agreatdoor", sum := "a2115f252d596b3d952a7b62c7521103f36949e9f4e5f5e3f6eee2fbea7da292", func := "e2e/kernellaw.BankerStaysSafe", spec := "bankerStaysSafe", inPlace := ["internal/reflectlite.ValueOf", "internal/reflectlite.Swapper", "(internal/reflectlite.Value).Len"], unfollowed := true, recurses := true, named := ["math/bits.deBruijn32tab"], apart := false, laid := [("math/bits.deBruijn32tab", laid_math_bits_deBruijn32tab)] }
def BankerStaysSafeSaid : Prop := bankerStaysSafeRow.holds Tryz.pinned (OpenSpec.ofChange bankerStaysSafeSpec)

/-- ITS FALSE NEIGHBOUR: 'it returns false'. Refute it at one input. -/
def bankerStaysSafeWrong : ChangeSpec := { name := "bankerStaysSafe", fn := fun _ => fun
  | [d] => { results := [.lit (.bool false)], args := [d] }
  | _ => none }
def BankerStaysSafeWrongFalsely : Prop := bankerStaysSafeRow.holds Tryz.pinned (OpenSpec.ofChange bankerStaysSafeWrong)

/-- 'kernellaw.NoGrantableHeadIsLeftWaiting': WHATEVER THE INPUT: true; the input reads as it did. -/
def noGrantableHeadIsLeftWaitingSpec : ChangeSpec := { name := "noGrantableHeadIsLeftWaiting", fn := fun _ => fun
  | [d] => { results := [.lit (.bool true)], args := [d] }
  | _ => none }
def noGrantableHeadIsLeftWaitingRow : OpenClaim := { program := "qxb6500834agreatdoor", sum := "a2115f252d596b3d952a7b62c7521103f36949e9f4e5f5e3f6eee2fbea7da292", func := "e2e/kernellaw.NoGrantableHeadIsLeftWaiting", spec := "noGrantableHeadIsLeftWaiting", inPlace := ["internal/reflectlite.ValueOf", "internal/reflectlite.Swapper", "(internal/reflectlite.Value).Len"], unfollowed := true, recurses := true, named := ["math/bits.deBruijn32tab"], apart := false, laid := [("math/bits.deBruijn32tab", laid_math_bits_deBruijn32tab)] }
def NoGrantableHeadIsLeftWaitingSaid : Prop := noGrantableHeadIsLeftWaitingRow.holds Tryz.pinned (OpenSpec.ofChange noGrantableHeadIsLeftWaitingSpec)

/-- ITS FALSE NEIGHBOUR: 'it returns false'. Refute it at one input. -/
def noGrantableHeadIsLeftWaitingWrong : ChangeSpec := { name := "noGrantableHeadIsLeftWaiting", fn := fun _ => fun
  | [d] => { results := [.lit (.bool false)], args := [d] }
  | _ => none }
def NoGrantableHeadIsLeftWaitingWrongFalsely : Prop := noGrantableHeadIsLeftWaitingRow.holds Tryz.pinned (OpenSpec.ofChange noGrantableHeadIsLeftWaitingWrong)

/-- 'kernellaw.Refines': WHATEVER THE INPUT: true; the input reads as it did. -/
def refinesSpec : ChangeSpec := { name := "refines", fn := fun _ => fun
  | [d] => { results := [.lit (.bool true)], args := [d] }
  | _ => none }
def refinesRow : OpenClaim := { program := "qxb6500834agreatdoor", sum := "a2115f252d596b3d952a7b62c7521103f36949e9f4e5f5e3f6eee2fbea7da292", func := "e2e/kernellaw.Refines", spec := "refines", inPlace := ["internal/reflectlite.ValueOf", "internal/reflectlite.Swapper", "(internal/reflectlite.Value).Len"], unfollowed := true, recurses := true, named := ["math/bits.deBruijn32tab"], apart := false, laid := [("math/bits.deBruijn32tab", laid_math_bits_deBruijn32tab)] }
def RefinesSaid : Prop := refinesRow.holds Tryz.pinned (OpenSpec.ofChange refinesSpec)

/-- ITS FALSE NEIGHBOUR: 'it returns false'. Refute it at one input. -/
def refinesWrong : ChangeSpec := { name := "refines", fn := fun _ => fun
  | [d] => { results := [.lit (.bool false)], args := [d] }
  | _ => none }
def RefinesWrongFalsely : Prop := refinesRow.holds Tryz.pinned (OpenSpec.ofChange refinesWrong)

/-- 'kernellaw.UndoRestoresWrittenValues': WHATEVER THE INPUT: true; the input reads as it did. -/
def undoRestoresWrittenValuesSpec : ChangeSpec := { name := "undoRestoresWrittenValues", fn := fun _ => fun
  | [d] => { results := [.lit (.bool true)], args := [d] }
  | _ => none }
def undoRestoresWrittenValuesRow : OpenClaim := { program := "qxb6500834agreatdoor", sum := "a2115f252d596b3d952a7b62c7521103f36949e9f4e5f5e3f6eee2fbea7da292", func := "e2e/kernellaw.UndoRestoresWrittenValues", spec := "undoRestoresWrittenValues", inPlace := ["internal/reflectlite.ValueOf", "internal/reflectlite.Swapper", "(internal/reflectlite.Value).Len"], unfollowed := true, recurses := true, named := ["math/bits.deBruijn32tab"], apart := false, laid := [("math/bits.deBruijn32tab", laid_math_bits_deBruijn32tab)] }
def UndoRestoresWrittenValuesSaid : Prop := undoRestoresWrittenValuesRow.holds Tryz.pinned (OpenSpec.ofChange undoRestoresWrittenValuesSpec)

/-- ITS FALSE NEIGHBOUR: 'it returns false'. Refute it at one input. -/
def undoRestoresWrittenValuesWrong : ChangeSpec := { name := "undoRestoresWrittenValues", fn := fun _ => fun
  | [d] => { results := [.lit (.bool false)], args := [d] }
  | _ => none }
def UndoRestoresWrittenValuesWrongFalsely : Prop := undoRestoresWrittenValuesRow.holds Tryz.pinned (OpenSpec.ofChange undoRestoresWrittenValuesWrong)

/-- 'kernellaw.FullLogRefusesTheWrite': WHATEVER THE INPUT: true; the input reads as it did. -/
def fullLogRefusesTheWriteSpec : ChangeSpec := { name := "fullLogRefusesTheWrite", fn := fun _ => fun
  | [d] => { results := [.lit (.bool true)], args := [d] }
  | _ => none }
def fullLogRefusesTheWriteRow : OpenClaim := { program := "qxb6500834agreatdoor", sum := "a2115f252d596b3d952a7b62c7521103f36949e9f4e5f5e3f6eee2fbea7da292", func := "e2e/kernellaw.FullLogRefusesTheWrite", spec := "fullLogRefusesTheWrite", inPlace := ["internal/reflectlite.ValueOf", "internal/reflectlite.Swapper", "(internal/reflectlite.Value).Len"], unfollowed := true, recurses := true, named := ["math/bits.deBruijn32tab"], apart := false, laid := [("math/bits.deBruijn32tab", laid_math_bits_deBruijn32tab)] }
def FullLogRefusesTheWriteSaid : Prop := fullLogRefusesTheWriteRow.holds Tryz.pinned (OpenSpec.ofChange fullLogRefusesTheWriteSpec)

/-- ITS FALSE NEIGHBOUR: 'it returns false'. Refute it at one input. -/
def fullLogRefusesTheWriteWrong : ChangeSpec := { name := "fullLogRefusesTheWrite", fn := fun _ => fun
  | [d] => { results := [.lit (.bool false)], args := [d] }
  | _ => none }
def FullLogRefusesTheWriteWrongFalsely : Prop := fullLogRefusesTheWriteRow.holds Tryz.pinned (OpenSpec.ofChange fullLogRefusesTheWriteWrong)

/-- 'kernellaw.WritesNeedTheWriteLock': WHATEVER THE INPUT: true; the input reads as it did. -/
def writesNeedTheWriteLockSpec : ChangeSpec := { name := "writesNeedTheWriteLock", fn := fun _ => fun
  | [d] => { results := [.lit (.bool true)], args := [d] }
  | _ => none }
def writesNeedTheWriteLockRow : OpenClaim := { program := "qxb6500834agreatdoor", sum := "a2115f252d596b3d952a7b62c7521103f36949e9f4e5f5e3f6eee2fbea7da292", func := "e2e/kernellaw.WritesNeedTheWriteLock", spec := "writesNeedTheWriteLock", inPlace := ["internal/reflectlite.ValueOf", "internal/reflectlite.Swapper", "(internal/reflectlite.Value).Len"], unfollowed := true, recurses := true, named := ["math/bits.deBruijn32tab"], apart := false, laid := [("math/bits.deBruijn32tab", laid_math_bits_deBruijn32tab)] }
def WritesNeedTheWriteLockSaid : Prop := writesNeedTheWriteLockRow.holds Tryz.pinned (OpenSpec.ofChange writesNeedTheWriteLockSpec)

/-- ITS FALSE NEIGHBOUR: 'it returns false'. Refute it at one input. -/
def writesNeedTheWriteLockWrong : ChangeSpec := { name := "writesNeedTheWriteLock", fn := fun _ => fun
  | [d] => { results := [.lit (.bool false)], args := [d] }
  | _ => none }
def WritesNeedTheWriteLockWrongFalsely : Prop := writesNeedTheWriteLockRow.holds Tryz.pinned (OpenSpec.ofChange writesNeedTheWriteLockWrong)

/-- 'kernellaw.ExitGivesEverythingBack': WHATEVER THE INPUT: true; the input reads as it did. -/
def exitGivesEverythingBackSpec : ChangeSpec := { name := "exitGivesEverythingBack", fn := fun _ => fun
  | [d] => { results := [.lit (.bool true)], args := [d] }
  | _ => none }
def exitGivesEverythingBackRow : OpenClaim := { program := "qxb6500834agreatdoor", sum := "a2115f252d596b3d952a7b62c7521103f36949e9f4e5f5e3f6eee2fbea7da292", func := "e2e/kernellaw.ExitGivesEverythingBack", spec := "exitGivesEverythingBack", inPlace := ["internal/reflectlite.ValueOf", "internal/reflectlite.Swapper", "(internal/reflectlite.Value).Len"], unfollowed := true, recurses := true, named := ["math/bits.deBruijn32tab"], apart := false, laid := [("math/bits.deBruijn32tab", laid_math_bits_deBruijn32tab)] }
def ExitGivesEverythingBackSaid : Prop := exitGivesEverythingBackRow.holds Tryz.pinned (OpenSpec.ofChange exitGivesEverythingBackSpec)

/-- ITS FALSE NEIGHBOUR: 'it returns false'. Refute it at one input. -/
def exitGivesEverythingBackWrong : ChangeSpec := { name := "exitGivesEverythingBack", fn := fun _ => fun
  | [d] => { results := [.lit (.bool false)], args := [d] }
  | _ => none }
def ExitGivesEverythingBackWrongFalsely : Prop := exitGivesEverythingBackRow.holds Tryz.pinned (OpenSpec.ofChange exitGivesEverythingBackWrong)

/-- 'kernellaw.EpochsAreNeverReused': WHATEVER THE INPUT: true; the input reads as it did. -/
def epochsAreNeverReusedSpec : ChangeSpec := { name := "epochsAreNeverReused", fn := fun _ => fun
  | [d] => { results := [.lit (.bool true)], args := [d] }
  | _ => none }
def epochsAreNeverReusedRow : OpenClaim := { program := "qxb6500834agreatdoor", sum := "a2115f252d596b3d952a7b62c7521103f36949e9f4e5f5e3f6eee2fbea7da292", func := "e2e/kernellaw.EpochsAreNeverReused", spec := "epochsAreNeverReused", inPlace := ["internal/reflectlite.ValueOf", "internal/reflectlite.Swapper", "(internal/reflectlite.Value).Len"], unfollowed := true, recurses := true, named := ["math/bits.deBruijn32tab"], apart := false, laid := [("math/bits.deBruijn32tab", laid_math_bits_deBruijn32tab)] }
def EpochsAreNeverReusedSaid : Prop := epochsAreNeverReusedRow.holds Tryz.pinned (OpenSpec.ofChange epochsAreNeverReusedSpec)

/-- ITS FALSE NEIGHBOUR: 'it returns false'. Refute it at one input. -/
def epochsAreNeverReusedWrong : ChangeSpec := { name := "epochsAreNeverReused", fn := fun _ => fun
  | [d] => { results := [.lit (.bool false)], args := [d] }
  | _ => none }
def EpochsAreNeverReusedWrongFalsely : Prop := epochsAreNeverReusedRow.holds Tryz.pinned (OpenSpec.ofChange epochsAreNeverReusedWrong)

/-- 'kernellaw.SpawnBeyondSixteenIsRefused': WHATEVER THE INPUT: true; the input reads as it did. -/
def spawnBeyondSixteenIsRefusedSpec : ChangeSpec := { name := "spawnBeyondSixteenIsRefused", fn := fun _ => fun
  | [d] => { results := [.lit (.bool true)], args := [d] }
  | _ => none }
def spawnBeyondSixteenIsRefusedRow : OpenClaim := { program := "qxb6500834agreatdoor", sum := "a2115f252d596b3d952a7b62c7521103f36949e9f4e5f5e3f6eee2fbea7da292", func := "e2e/kernellaw.SpawnBeyondSixteenIsRefused", spec := "spawnBeyondSixteenIsRefused", inPlace := ["internal/reflectlite.ValueOf", "internal/reflectlite.Swapper", "(internal/reflectlite.Value).Len"], unfollowed := true, recurses := true, named := ["math/bits.deBruijn32tab"], apart := false, laid := [("math/bits.deBruijn32tab", laid_math_bits_deBruijn32tab)] }
def SpawnBeyondSixteenIsRefusedSaid : Prop := spawnBeyondSixteenIsRefusedRow.holds Tryz.pinned (OpenSpec.ofChange spawnBeyondSixteenIsRefusedSpec)

/-- ITS FALSE NEIGHBOUR: 'it returns false'. Refute it at one input. -/
def spawnBeyondSixteenIsRefusedWrong : ChangeSpec := { name := "spawnBeyondSixteenIsRefused", fn := fun _ => fun
  | [d] => { results := [.lit (.bool false)], args := [d] }
  | _ => none }
def SpawnBeyondSixteenIsRefusedWrongFalsely : Prop := spawnBeyondSixteenIsRefusedRow.holds Tryz.pinned (OpenSpec.ofChange spawnBeyondSixteenIsRefusedWrong)

/-- 'kernellaw.RefusalsChangeNothing': WHATEVER THE INPUT: true; the input reads as it did. -/
def refusalsChangeNothingSpec : ChangeSpec := { name := "refusalsChangeNothing", fn := fun _ => fun
  | [d] => { results := [.lit (.bool true)], args := [d] }
  | _ => none }
def refusalsChangeNothingRow : OpenClaim := { program := "qxb6500834agreatdoor", sum := "a2115f252d596b3d952a7b62c7521103f36949e9f4e5f5e3f6eee2fbea7da292", func := "e2e/kernellaw.RefusalsChangeNothing", spec := "refusalsChangeNothing", inPlace := ["internal/reflectlite.ValueOf", "internal/reflectlite.Swapper", "(internal/reflectlite.Value).Len"], unfollowed := true, recurses := true, named := ["math/bits.deBruijn32tab"], apart := false, laid := [("math/bits.deBruijn32tab", laid_math_bits_deBruijn32tab)] }
def RefusalsChangeNothingSaid : Prop := refusalsChangeNothingRow.holds Tryz.pinned (OpenSpec.ofChange refusalsChangeNothingSpec)

/-- ITS FALSE NEIGHBOUR: 'it returns false'. Refute it at one input. -/
def refusalsChangeNothingWrong : ChangeSpec := { name := "refusalsChangeNothing", fn := fun _ => fun
  | [d] => { results := [.lit (.bool false)], args := [d] }
  | _ => none }
def RefusalsChangeNothingWrongFalsely : Prop := refusalsChangeNothingRow.holds Tryz.pinned (OpenSpec.ofChange refusalsChangeNothingWrong)

/-- 'kernellaw.UnitsAreConserved': WHATEVER THE INPUT: true; the input reads as it did. -/
def unitsAreConservedSpec : ChangeSpec := { name := "unitsAreConserved", fn := fun _ => fun
  | [d] => { results := [.lit (.bool true)], args := [d] }
  | _ => none }
def unitsAreConservedRow : OpenClaim := { program := "qxb6500834agreatdoor", sum := "a2115f252d596b3d952a7b62c7521103f36949e9f4e5f5e3f6eee2fbea7da292", func := "e2e/kernellaw.UnitsAreConserved", spec := "unitsAreConserved", inPlace := ["internal/reflectlite.ValueOf", "internal/reflectlite.Swapper", "(internal/reflectlite.Value).Len"], unfollowed := true, recurses := true, named := ["math/bits.deBruijn32tab"], apart := false, laid := [("math/bits.deBruijn32tab", laid_math_bits_deBruijn32tab)] }
def UnitsAreConservedSaid : Prop := unitsAreConservedRow.holds Tryz.pinned (OpenSpec.ofChange unitsAreConservedSpec)

/-- ITS FALSE NEIGHBOUR: 'it returns false'. Refute it at one input. -/
def unitsAreConservedWrong : ChangeSpec := { name := "unitsAreConserved", fn := fun _ => fun
  | [d] => { results := [.lit (.bool false)], args := [d] }
  | _ => none }
def UnitsAreConservedWrongFalsely : Prop := unitsAreConservedRow.holds Tryz.pinned (OpenSpec.ofChange unitsAreConservedWrong)

/-- 'kernellaw.RollbackLeavesOthersAlone': WHATEVER THE INPUT: true; the input reads as it did. -/
def rollbackLeavesOthersAloneSpec : ChangeSpec := { name := "rollbackLeavesOthersAlone", fn := fun _ => fun
  | [d] => { results := [.lit (.bool true)], args := [d] }
  | _ => none }
def rollbackLeavesOthersAloneRow : OpenClaim := { program := "qxb6500834agreatdoor", sum := "a2115f252d596b3d952a7b62c7521103f36949e9f4e5f5e3f6eee2fbea7da292", func := "e2e/kernellaw.RollbackLeavesOthersAlone", spec := "rollbackLeavesOthersAlone", inPlace := ["internal/reflectlite.ValueOf", "internal/reflectlite.Swapper", "(internal/reflectlite.Value).Len"], unfollowed := true, recurses := true, named := ["math/bits.deBruijn32tab"], apart := false, laid := [("math/bits.deBruijn32tab", laid_math_bits_deBruijn32tab)] }
def RollbackLeavesOthersAloneSaid : Prop := rollbackLeavesOthersAloneRow.holds Tryz.pinned (OpenSpec.ofChange rollbackLeavesOthersAloneSpec)

/-- ITS FALSE NEIGHBOUR: 'it returns false'. Refute it at one input. -/
def rollbackLeavesOthersAloneWrong : ChangeSpec := { name := "rollbackLeavesOthersAlone", fn := fun _ => fun
  | [d] => { results := [.lit (.bool false)], args := [d] }
  | _ => none }
def RollbackLeavesOthersAloneWrongFalsely : Prop := rollbackLeavesOthersAloneRow.holds Tryz.pinned (OpenSpec.ofChange rollbackLeavesOthersAloneWrong)

/-- 'kernellaw.BirthStampsSurviveRestart': WHATEVER THE INPUT: true; the input reads as it did. -/
def birthStampsSurviveRestartSpec : ChangeSpec := { name := "birthStampsSurviveRestart", fn := fun _ => fun
  | [d] => { results := [.lit (.bool true)], args := [d] }
  | _ => none }
def birthStampsSurviveRestartRow : OpenClaim := { program := "qxb6500834agreatdoor", sum := "a2115f252d596b3d952a7b62c7521103f36949e9f4e5f5e3f6eee2fbea7da292", func := "e2e/kernellaw.BirthStampsSurviveRestart", spec := "birthStampsSurviveRestart", inPlace := ["internal/reflectlite.ValueOf", "internal/reflectlite.Swapper", "(internal/reflectlite.Value).Len"], unfollowed := true, recurses := true, named := ["math/bits.deBruijn32tab"], apart := false, laid := [("math/bits.deBruijn32tab", laid_math_bits_deBruijn32tab)] }
def BirthStampsSurviveRestartSaid : Prop := birthStampsSurviveRestartRow.holds Tryz.pinned (OpenSpec.ofChange birthStampsSurviveRestartSpec)

/-- ITS FALSE NEIGHBOUR: 'it returns false'. Refute it at one input. -/
def birthStampsSurviveRestartWrong : ChangeSpec := { name := "birthStampsSurviveRestart", fn := fun _ => fun
  | [d] => { results := [.lit (.bool false)], args := [d] }
  | _ => none }
def BirthStampsSurviveRestartWrongFalsely : Prop := birthStampsSurviveRestartRow.holds Tryz.pinned (OpenSpec.ofChange birthStampsSurviveRestartWrong)

/-- 'kernellaw.EveryPendingCallIsAnsweredOnce': WHATEVER THE INPUT: true; the input reads as it did. -/
def everyPendingCallIsAnsweredOnceSpec : ChangeSpec := { name := "everyPendingCallIsAnsweredOnce", fn := fun _ => fun
  | [d] => { results := [.lit (.bool true)], args := [d] }
  | _ => none }
def everyPendingCallIsAnsweredOnceRow : OpenClaim := { program := "qxb6500834agreatdoor", sum := "a2115f252d596b3d952a7b62c7521103f36949e9f4e5f5e3f6eee2fbea7da292", func := "e2e/kernellaw.EveryPendingCallIsAnsweredOnce", spec := "everyPendingCallIsAnsweredOnce", inPlace := ["internal/reflectlite.ValueOf", "internal/reflectlite.Swapper", "(internal/reflectlite.Value).Len"], unfollowed := true, recurses := true, named := ["math/bits.deBruijn32tab"], apart := false, laid := [("math/bits.deBruijn32tab", laid_math_bits_deBruijn32tab)] }
def EveryPendingCallIsAnsweredOnceSaid : Prop := everyPendingCallIsAnsweredOnceRow.holds Tryz.pinned (OpenSpec.ofChange everyPendingCallIsAnsweredOnceSpec)

/-- ITS FALSE NEIGHBOUR: 'it returns false'. Refute it at one input. -/
def everyPendingCallIsAnsweredOnceWrong : ChangeSpec := { name := "everyPendingCallIsAnsweredOnce", fn := fun _ => fun
  | [d] => { results := [.lit (.bool false)], args := [d] }
  | _ => none }
def EveryPendingCallIsAnsweredOnceWrongFalsely : Prop := everyPendingCallIsAnsweredOnceRow.holds Tryz.pinned (OpenSpec.ofChange everyPendingCallIsAnsweredOnceWrong)

/-- 'kernellaw.TimedWaitsEndOnTime': WHATEVER THE INPUT: true; the input reads as it did. -/
def timedWaitsEndOnTimeSpec : ChangeSpec := { name := "timedWaitsEndOnTime", fn := fun _ => fun
  | [d] => { results := [.lit (.bool true)], args := [d] }
  | _ => none }
def timedWaitsEndOnTimeRow : OpenClaim := { program := "qxb6500834agreatdoor", sum := "a2115f252d596b3d952a7b62c7521103f36949e9f4e5f5e3f6eee2fbea7da292", func := "e2e/kernellaw.TimedWaitsEndOnTime", spec := "timedWaitsEndOnTime", inPlace := ["internal/reflectlite.ValueOf", "internal/reflectlite.Swapper", "(internal/reflectlite.Value).Len"], unfollowed := true, recurses := true, named := ["math/bits.deBruijn32tab"], apart := false, laid := [("math/bits.deBruijn32tab", laid_math_bits_deBruijn32tab)] }
def TimedWaitsEndOnTimeSaid : Prop := timedWaitsEndOnTimeRow.holds Tryz.pinned (OpenSpec.ofChange timedWaitsEndOnTimeSpec)

/-- ITS FALSE NEIGHBOUR: 'it returns false'. Refute it at one input. -/
def timedWaitsEndOnTimeWrong : ChangeSpec := { name := "timedWaitsEndOnTime", fn := fun _ => fun
  | [d] => { results := [.lit (.bool false)], args := [d] }
  | _ => none }
def TimedWaitsEndOnTimeWrongFalsely : Prop := timedWaitsEndOnTimeRow.holds Tryz.pinned (OpenSpec.ofChange timedWaitsEndOnTimeWrong)

/-- 'kernellaw.ZeroTicksIsTry': WHATEVER THE INPUT: true; the input reads as it did. -/
def zeroTicksIsTrySpec : ChangeSpec := { name := "zeroTicksIsTry", fn := fun _ => fun
  | [d] => { results := [.lit (.bool true)], args := [d] }
  | _ => none }
def zeroTicksIsTryRow : OpenClaim := { program := "qxb6500834agreatdoor", sum := "a2115f252d596b3d952a7b62c7521103f36949e9f4e5f5e3f6eee2fbea7da292", func := "e2e/kernellaw.ZeroTicksIsTry", spec := "zeroTicksIsTry", inPlace := ["internal/reflectlite.ValueOf", "internal/reflectlite.Swapper", "(internal/reflectlite.Value).Len"], unfollowed := true, recurses := true, named := ["math/bits.deBruijn32tab"], apart := false, laid := [("math/bits.deBruijn32tab", laid_math_bits_deBruijn32tab)] }
def ZeroTicksIsTrySaid : Prop := zeroTicksIsTryRow.holds Tryz.pinned (OpenSpec.ofChange zeroTicksIsTrySpec)

/-- ITS FALSE NEIGHBOUR: 'it returns false'. Refute it at one input. -/
def zeroTicksIsTryWrong : ChangeSpec := { name := "zeroTicksIsTry", fn := fun _ => fun
  | [d] => { results := [.lit (.bool false)], args := [d] }
  | _ => none }
def ZeroTicksIsTryWrongFalsely : Prop := zeroTicksIsTryRow.holds Tryz.pinned (OpenSpec.ofChange zeroTicksIsTryWrong)

/-- 'kernellaw.DirtyLocksStayHeld': WHATEVER THE INPUT: true; the input reads as it did. -/
def dirtyLocksStayHeldSpec : ChangeSpec := { name := "dirtyLocksStayHeld", fn := fun _ => fun
  | [d] => { results := [.lit (.bool true)], args := [d] }
  | _ => none }
def dirtyLocksStayHeldRow : OpenClaim := { program := "qxb6500834agreatdoor", sum := "a2115f252d596b3d952a7b62c7521103f36949e9f4e5f5e3f6eee2fbea7da292", func := "e2e/kernellaw.DirtyLocksStayHeld", spec := "dirtyLocksStayHeld", inPlace := ["internal/reflectlite.ValueOf", "internal/reflectlite.Swapper", "(internal/reflectlite.Value).Len"], unfollowed := true, recurses := true, named := ["math/bits.deBruijn32tab"], apart := false, laid := [("math/bits.deBruijn32tab", laid_math_bits_deBruijn32tab)] }
def DirtyLocksStayHeldSaid : Prop := dirtyLocksStayHeldRow.holds Tryz.pinned (OpenSpec.ofChange dirtyLocksStayHeldSpec)

/-- ITS FALSE NEIGHBOUR: 'it returns false'. Refute it at one input. -/
def dirtyLocksStayHeldWrong : ChangeSpec := { name := "dirtyLocksStayHeld", fn := fun _ => fun
  | [d] => { results := [.lit (.bool false)], args := [d] }
  | _ => none }
def DirtyLocksStayHeldWrongFalsely : Prop := dirtyLocksStayHeldRow.holds Tryz.pinned (OpenSpec.ofChange dirtyLocksStayHeldWrong)

/-- 'kernellaw.ClaimsAreKept': WHATEVER THE INPUT: true; the input reads as it did. -/
def claimsAreKeptSpec : ChangeSpec := { name := "claimsAreKept", fn := fun _ => fun
  | [d] => { results := [.lit (.bool true)], args := [d] }
  | _ => none }
def claimsAreKeptRow : OpenClaim := { program := "qxb6500834agreatdoor", sum := "a2115f252d596b3d952a7b62c7521103f36949e9f4e5f5e3f6eee2fbea7da292", func := "e2e/kernellaw.ClaimsAreKept", spec := "claimsAreKept", inPlace := ["internal/reflectlite.ValueOf", "internal/reflectlite.Swapper", "(internal/reflectlite.Value).Len"], unfollowed := true, recurses := true, named := ["math/bits.deBruijn32tab"], apart := false, laid := [("math/bits.deBruijn32tab", laid_math_bits_deBruijn32tab)] }
def ClaimsAreKeptSaid : Prop := claimsAreKeptRow.holds Tryz.pinned (OpenSpec.ofChange claimsAreKeptSpec)

/-- ITS FALSE NEIGHBOUR: 'it returns false'. Refute it at one input. -/
def claimsAreKeptWrong : ChangeSpec := { name := "claimsAreKept", fn := fun _ => fun
  | [d] => { results := [.lit (.bool false)], args := [d] }
  | _ => none }
def ClaimsAreKeptWrongFalsely : Prop := claimsAreKeptRow.holds Tryz.pinned (OpenSpec.ofChange claimsAreKeptWrong)

end Rows
end Go.Proofs.Qxb6500834aGreatDoor
