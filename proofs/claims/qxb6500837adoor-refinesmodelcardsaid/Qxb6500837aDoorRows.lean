/-
  NARROWER THAN 'FOR EVERY INPUT', by the rows' own cells (each row's printed sentence says how): RefinesModel: laid · ReadReturnsLastWrite: laid · CrashLeavesWhatTheScriptChose: laid · CrashTearsAtMostOne: laid · RefusedCallsChangeNothing: laid · SyncMakesDurable: laid · ArmedCrashStrikesAtItsWrite: laid.
  DERIVED. THE GIVEN ROWS OF THIS SEAT. 7 by the template 'for every input the law returns true; each argument reads behind the call as it read before'; 0 by the template 'total and deterministic' (their statements: Qxb6500837aDoorTotals.lean).
  GIVEN WITH THE SEED: the statements are not yours to turn. If you find one false, say at which input.
  Laid BY PROGRAM, IN A SANDBOX (cutbox-rows.mjs): the forced cells as the released guide's own fill.sh prints them over the translation 81741ecb72aa9e06… (all of the seat's roots in one cut). By AI agents, Wed Nov 11 2026. No macro, syntax, notation, axiom, sorry.
-/
import Derived.Test.Qxb6500837aDoorChecked
import GoSem.Claim
import GoSem.ClaimJoined
import GoSem.ClaimMapViews
import Derived.JoinedTies
import Derived.KernelRfl
namespace Go.Proofs.Qxb6500837aDoor
/- THE CELL 'sum', in the pinned program and in every row, IS THE sha256 OF THE DUMP (.gsa) THAT Qxb6500837aDoorProg.lean LOADS. Nothing in Lean hashes anything: it is a label: what it is worth is what the hold of that sum in a sandbox is worth. -/
noncomputable def Tryd.pinned : Pinned := { name := "qxb6500837adoor", sum := "81741ecb72aa9e06d1a8aab199d96b07610a2d1a376854cc2d4c62bbb070d52d", checked := Tryd.checked }
namespace Rows
def none {H : Type} : Left H := { results := [], args := [] }

/- WHAT THE LISTED PACKAGE-LEVEL VARIABLES READ AS WHEN THE CALL BEGINS. Each datum BY PROGRAM (the guide's laid-datum.mjs) off the statement by which the dump's own 'gosem.cut.vars' lays the variable. In a bare row this is a premise. The card (Qxb6500837aDoorCards.lean) ties it to the program's text. -/
def laid_errors_errorType {H : Type} : DataW H := .iface "internal/reflectlite.rtype" (.agg [.ptr (.lit (.string [101, 114, 114, 111, 114]))])

/-- 'disklaw.RefinesModel': WHATEVER THE INPUT: true; the input reads as it did. -/
def refinesModelSpec : ChangeSpec := { name := "refinesModel", fn := fun _ => fun
  | [d] => { results := [.lit (.bool true)], args := [d] }
  | _ => none }
def refinesModelRow : OpenClaim := { program := "qxb6500837adoor", sum := "81741ecb72aa9e06d1a8aab199d96b07610a2d1a376854cc2d4c62bbb070d52d", func := "e2e/disklaw.RefinesModel", spec := "refinesModel", inPlace := ["internal/reflectlite.ValueOf", "(internal/reflectlite.Value).Type", "(internal/reflectlite.Value).IsNil", "internal/reflectlite.TypeOf", "(internal/reflectlite.Value).Elem", "(internal/reflectlite.Value).Set", "(*internal/sync.Mutex).Lock", "internal/race.Disable", "sync/atomic.CompareAndSwapInt32", "internal/race.Enable", "internal/race.Acquire", "(*internal/sync.Mutex).lockSlow", "internal/sync.runtime_canSpin", "internal/sync.runtime_doSpin", "internal/sync.throw", "internal/sync.runtime_nanotime", "internal/sync.runtime_SemacquireMutex", "sync/atomic.AddInt32", "(*internal/sync.Mutex).Unlock", "internal/race.ReleaseMerge", "(*internal/sync.Mutex).unlockSlow", "internal/sync.fatal", "internal/sync.runtime_Semrelease"], unfollowed := true, recurses := true, named := ["errors.errorType"], apart := false, laid := [("errors.errorType", laid_errors_errorType)] }
def RefinesModelSaid : Prop := refinesModelRow.holds Tryd.pinned (OpenSpec.ofChange refinesModelSpec)

/-- ITS FALSE NEIGHBOUR: 'it returns false'. Refute it at one input. -/
def refinesModelWrong : ChangeSpec := { name := "refinesModel", fn := fun _ => fun
  | [d] => { results := [.lit (.bool false)], args := [d] }
  | _ => none }
def RefinesModelWrongFalsely : Prop := refinesModelRow.holds Tryd.pinned (OpenSpec.ofChange refinesModelWrong)

/-- 'disklaw.ReadReturnsLastWrite': WHATEVER THE INPUT: true; the input reads as it did. -/
def readReturnsLastWriteSpec : ChangeSpec := { name := "readReturnsLastWrite", fn := fun _ => fun
  | [d] => { results := [.lit (.bool true)], args := [d] }
  | _ => none }
def readReturnsLastWriteRow : OpenClaim := { program := "qxb6500837adoor", sum := "81741ecb72aa9e06d1a8aab199d96b07610a2d1a376854cc2d4c62bbb070d52d", func := "e2e/disklaw.ReadReturnsLastWrite", spec := "readReturnsLastWrite", inPlace := ["internal/reflectlite.ValueOf", "(internal/reflectlite.Value).Type", "(internal/reflectlite.Value).IsNil", "internal/reflectlite.TypeOf", "(internal/reflectlite.Value).Elem", "(internal/reflectlite.Value).Set", "(*internal/sync.Mutex).Lock", "internal/race.Disable", "sync/atomic.CompareAndSwapInt32", "internal/race.Enable", "internal/race.Acquire", "(*internal/sync.Mutex).lockSlow", "internal/sync.runtime_canSpin", "internal/sync.runtime_doSpin", "internal/sync.throw", "internal/sync.runtime_nanotime", "internal/sync.runtime_SemacquireMutex", "sync/atomic.AddInt32", "(*internal/sync.Mutex).Unlock", "internal/race.ReleaseMerge", "(*internal/sync.Mutex).unlockSlow", "internal/sync.fatal", "internal/sync.runtime_Semrelease"], unfollowed := true, recurses := true, named := ["errors.errorType"], apart := false, laid := [("errors.errorType", laid_errors_errorType)] }
def ReadReturnsLastWriteSaid : Prop := readReturnsLastWriteRow.holds Tryd.pinned (OpenSpec.ofChange readReturnsLastWriteSpec)

/-- ITS FALSE NEIGHBOUR: 'it returns false'. Refute it at one input. -/
def readReturnsLastWriteWrong : ChangeSpec := { name := "readReturnsLastWrite", fn := fun _ => fun
  | [d] => { results := [.lit (.bool false)], args := [d] }
  | _ => none }
def ReadReturnsLastWriteWrongFalsely : Prop := readReturnsLastWriteRow.holds Tryd.pinned (OpenSpec.ofChange readReturnsLastWriteWrong)

/-- 'disklaw.CrashLeavesWhatTheScriptChose': WHATEVER THE INPUT: true; the input reads as it did. -/
def crashLeavesWhatTheScriptChoseSpec : ChangeSpec := { name := "crashLeavesWhatTheScriptChose", fn := fun _ => fun
  | [d] => { results := [.lit (.bool true)], args := [d] }
  | _ => none }
def crashLeavesWhatTheScriptChoseRow : OpenClaim := { program := "qxb6500837adoor", sum := "81741ecb72aa9e06d1a8aab199d96b07610a2d1a376854cc2d4c62bbb070d52d", func := "e2e/disklaw.CrashLeavesWhatTheScriptChose", spec := "crashLeavesWhatTheScriptChose", inPlace := ["(*internal/sync.Mutex).Lock", "internal/race.Disable", "sync/atomic.CompareAndSwapInt32", "internal/race.Enable", "internal/race.Acquire", "(*internal/sync.Mutex).lockSlow", "internal/sync.runtime_canSpin", "internal/sync.runtime_doSpin", "internal/sync.throw", "internal/sync.runtime_nanotime", "internal/sync.runtime_SemacquireMutex", "sync/atomic.AddInt32", "(*internal/sync.Mutex).Unlock", "internal/race.ReleaseMerge", "(*internal/sync.Mutex).unlockSlow", "internal/sync.fatal", "internal/sync.runtime_Semrelease", "internal/reflectlite.ValueOf", "(internal/reflectlite.Value).Type", "(internal/reflectlite.Value).IsNil", "internal/reflectlite.TypeOf", "(internal/reflectlite.Value).Elem", "(internal/reflectlite.Value).Set"], unfollowed := true, recurses := true, named := ["errors.errorType"], apart := false, laid := [("errors.errorType", laid_errors_errorType)] }
def CrashLeavesWhatTheScriptChoseSaid : Prop := crashLeavesWhatTheScriptChoseRow.holds Tryd.pinned (OpenSpec.ofChange crashLeavesWhatTheScriptChoseSpec)

/-- ITS FALSE NEIGHBOUR: 'it returns false'. Refute it at one input. -/
def crashLeavesWhatTheScriptChoseWrong : ChangeSpec := { name := "crashLeavesWhatTheScriptChose", fn := fun _ => fun
  | [d] => { results := [.lit (.bool false)], args := [d] }
  | _ => none }
def CrashLeavesWhatTheScriptChoseWrongFalsely : Prop := crashLeavesWhatTheScriptChoseRow.holds Tryd.pinned (OpenSpec.ofChange crashLeavesWhatTheScriptChoseWrong)

/-- 'disklaw.CrashTearsAtMostOne': WHATEVER THE INPUT: true; the input reads as it did. -/
def crashTearsAtMostOneSpec : ChangeSpec := { name := "crashTearsAtMostOne", fn := fun _ => fun
  | [d] => { results := [.lit (.bool true)], args := [d] }
  | _ => none }
def crashTearsAtMostOneRow : OpenClaim := { program := "qxb6500837adoor", sum := "81741ecb72aa9e06d1a8aab199d96b07610a2d1a376854cc2d4c62bbb070d52d", func := "e2e/disklaw.CrashTearsAtMostOne", spec := "crashTearsAtMostOne", inPlace := ["(*internal/sync.Mutex).Lock", "internal/race.Disable", "sync/atomic.CompareAndSwapInt32", "internal/race.Enable", "internal/race.Acquire", "(*internal/sync.Mutex).lockSlow", "internal/sync.runtime_canSpin", "internal/sync.runtime_doSpin", "internal/sync.throw", "internal/sync.runtime_nanotime", "internal/sync.runtime_SemacquireMutex", "sync/atomic.AddInt32", "(*internal/sync.Mutex).Unlock", "internal/race.ReleaseMerge", "(*internal/sync.Mutex).unlockSlow", "internal/sync.fatal", "internal/sync.runtime_Semrelease", "internal/reflectlite.ValueOf", "(internal/reflectlite.Value).Type", "(internal/reflectlite.Value).IsNil", "internal/reflectlite.TypeOf", "(internal/reflectlite.Value).Elem", "(internal/reflectlite.Value).Set"], unfollowed := true, recurses := true, named := ["errors.errorType"], apart := false, laid := [("errors.errorType", laid_errors_errorType)] }
def CrashTearsAtMostOneSaid : Prop := crashTearsAtMostOneRow.holds Tryd.pinned (OpenSpec.ofChange crashTearsAtMostOneSpec)

/-- ITS FALSE NEIGHBOUR: 'it returns false'. Refute it at one input. -/
def crashTearsAtMostOneWrong : ChangeSpec := { name := "crashTearsAtMostOne", fn := fun _ => fun
  | [d] => { results := [.lit (.bool false)], args := [d] }
  | _ => none }
def CrashTearsAtMostOneWrongFalsely : Prop := crashTearsAtMostOneRow.holds Tryd.pinned (OpenSpec.ofChange crashTearsAtMostOneWrong)

/-- 'disklaw.RefusedCallsChangeNothing': WHATEVER THE INPUT: true; the input reads as it did. -/
def refusedCallsChangeNothingSpec : ChangeSpec := { name := "refusedCallsChangeNothing", fn := fun _ => fun
  | [d] => { results := [.lit (.bool true)], args := [d] }
  | _ => none }
def refusedCallsChangeNothingRow : OpenClaim := { program := "qxb6500837adoor", sum := "81741ecb72aa9e06d1a8aab199d96b07610a2d1a376854cc2d4c62bbb070d52d", func := "e2e/disklaw.RefusedCallsChangeNothing", spec := "refusedCallsChangeNothing", inPlace := ["(*internal/sync.Mutex).Lock", "internal/race.Disable", "sync/atomic.CompareAndSwapInt32", "internal/race.Enable", "internal/race.Acquire", "(*internal/sync.Mutex).lockSlow", "internal/sync.runtime_canSpin", "internal/sync.runtime_doSpin", "internal/sync.throw", "internal/sync.runtime_nanotime", "internal/sync.runtime_SemacquireMutex", "sync/atomic.AddInt32", "(*internal/sync.Mutex).Unlock", "internal/race.ReleaseMerge", "(*internal/sync.Mutex).unlockSlow", "internal/sync.fatal", "internal/sync.runtime_Semrelease", "internal/reflectlite.ValueOf", "(internal/reflectlite.Value).Type", "(internal/reflectlite.Value).IsNil", "internal/reflectlite.TypeOf", "(internal/reflectlite.Value).Elem", "(internal/reflectlite.Value).Set"], unfollowed := true, recurses := true, named := ["errors.errorType"], apart := false, laid := [("errors.errorType", laid_errors_errorType)] }
def RefusedCallsChangeNothingSaid : Prop := refusedCallsChangeNothingRow.holds Tryd.pinned (OpenSpec.ofChange refusedCallsChangeNothingSpec)

/-- ITS FALSE NEIGHBOUR: 'it returns false'. Refute it at one input. -/
def refusedCallsChangeNothingWrong : ChangeSpec := { name := "refusedCallsChangeNothing", fn := fun _ => fun
  | [d] => { results := [.lit (.bool false)], args := [d] }
  | _ => none }
def RefusedCallsChangeNothingWrongFalsely : Prop := refusedCallsChangeNothingRow.holds Tryd.pinned (OpenSpec.ofChange refusedCallsChangeNothingWrong)

/-- 'disklaw.SyncMakesDurable': WHATEVER THE INPUT: true; the input reads as it did. -/
def syncMakesDurableSpec : ChangeSpec := { name := "syncMakesDurable", fn := fun _ => fun
  | [d] => { results := [.lit (.bool true)], args := [d] }
  | _ => none }
def syncMakesDurableRow : OpenClaim := { program := "qxb6500837adoor", sum := "81741ecb72aa9e06d1a8aab199d96b07610a2d1a376854cc2d4c62bbb070d52d", func := "e2e/disklaw.SyncMakesDurable", spec := "syncMakesDurable", inPlace := ["internal/reflectlite.ValueOf", "(internal/reflectlite.Value).Type", "(internal/reflectlite.Value).IsNil", "internal/reflectlite.TypeOf", "(internal/reflectlite.Value).Elem", "(internal/reflectlite.Value).Set", "(*internal/sync.Mutex).Lock", "internal/race.Disable", "sync/atomic.CompareAndSwapInt32", "internal/race.Enable", "internal/race.Acquire", "(*internal/sync.Mutex).lockSlow", "internal/sync.runtime_canSpin", "internal/sync.runtime_doSpin", "internal/sync.throw", "internal/sync.runtime_nanotime", "internal/sync.runtime_SemacquireMutex", "sync/atomic.AddInt32", "(*internal/sync.Mutex).Unlock", "internal/race.ReleaseMerge", "(*internal/sync.Mutex).unlockSlow", "internal/sync.fatal", "internal/sync.runtime_Semrelease"], unfollowed := true, recurses := true, named := ["errors.errorType"], apart := false, laid := [("errors.errorType", laid_errors_errorType)] }
def SyncMakesDurableSaid : Prop := syncMakesDurableRow.holds Tryd.pinned (OpenSpec.ofChange syncMakesDurableSpec)

/-- ITS FALSE NEIGHBOUR: 'it returns false'. Refute it at one input. -/
def syncMakesDurableWrong : ChangeSpec := { name := "syncMakesDurable", fn := fun _ => fun
  | [d] => { results := [.lit (.bool false)], args := [d] }
  | _ => none }
def SyncMakesDurableWrongFalsely : Prop := syncMakesDurableRow.holds Tryd.pinned (OpenSpec.ofChange syncMakesDurableWrong)

/-- 'disklaw.ArmedCrashStrikesAtItsWrite': WHATEVER THE INPUT: true; the input reads as it did. -/
def armedCrashStrikesAtItsWriteSpec : ChangeSpec := { name := "armedCrashStrikesAtItsWrite", fn := fun _ => fun
  | [d] => { results := [.lit (.bool true)], args := [d] }
  | _ => none }
def armedCrashStrikesAtItsWriteRow : OpenClaim := { program := "qxb6500837adoor", sum := "81741ecb72aa9e06d1a8aab199d96b07610a2d1a376854cc2d4c62bbb070d52d", func := "e2e/disklaw.ArmedCrashStrikesAtItsWrite", spec := "armedCrashStrikesAtItsWrite", inPlace := ["(*internal/sync.Mutex).Lock", "internal/race.Disable", "sync/atomic.CompareAndSwapInt32", "internal/race.Enable", "internal/race.Acquire", "(*internal/sync.Mutex).lockSlow", "internal/sync.runtime_canSpin", "internal/sync.runtime_doSpin", "internal/sync.throw", "internal/sync.runtime_nanotime", "internal/sync.runtime_SemacquireMutex", "sync/atomic.AddInt32", "(*internal/sync.Mutex).Unlock", "internal/race.ReleaseMerge", "(*internal/sync.Mutex).unlockSlow", "internal/sync.fatal", "internal/sync.runtime_Semrelease", "internal/reflectlite.ValueOf", "(internal/reflectlite.Value).Type", "(internal/reflectlite.Value).IsNil", "internal/reflectlite.TypeOf", "(internal/reflectlite.Value).Elem", "(internal/reflectlite.Value).Set"], unfollowed := true, recurses := true, named := ["errors.errorType"], apart := false, laid := [("errors.errorType", laid_errors_errorType)] }
def ArmedCrashStrikesAtItsWriteSaid : Prop := armedCrashStrikesAtItsWriteRow.holds Tryd.pinned (OpenSpec.ofChange armedCrashStrikesAtItsWriteSpec)

/-- ITS FALSE NEIGHBOUR: 'it returns false'. Refute it at one input. -/
def armedCrashStrikesAtItsWriteWrong : ChangeSpec := { name := "armedCrashStrikesAtItsWrite", fn := fun _ => fun
  | [d] => { results := [.lit (.bool false)], args := [d] }
  | _ => none }
def ArmedCrashStrikesAtItsWriteWrongFalsely : Prop := armedCrashStrikesAtItsWriteRow.holds Tryd.pinned (OpenSpec.ofChange armedCrashStrikesAtItsWriteWrong)

end Rows
end Go.Proofs.Qxb6500837aDoor
