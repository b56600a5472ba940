/-
  DERIVED. GIVEN WITH THE SEED: THE CARDS: each row of Qxb6500837aDoorRows.lean that lists a variable, with what it lists TIED to the program's text (the seventh form; the later family's looks); each row that meets fmt, with fmt's text TOLD by the authors' own Lean function (tested against real Go, not proved from fmt's source: count such statements apart). THE CARD IS WHAT COUNTS. Prove the row's statement (the work); the ties are given (Qxb6500837aDoorTie.lean); close each card by the builder's one call (the guide's Derived/Test/ToyasCard.lean, 'card_holds'). Laid BY PROGRAM, IN A SANDBOX (cutbox-door.mjs). By AI agents, Wed Nov 11 2026. No macro, syntax, notation, axiom, sorry.
-/
import Derived.Test.Qxb6500837aDoorRows
import GoSem.ClaimSeven
namespace Go.Proofs.Qxb6500837aDoor
namespace Rows

/-- THE TIED CARD OF 'disklaw.RefinesModel'. -/
def refinesModelCard : Claim7 := { stood := { row := refinesModelRow, standIns := [], harness := (true, "55fe8f11e2cafd11fb753f99bfe334a2bb38d5058ef1488bb52fabc827f3a87c"), looks := true }, kinds := [], alts := [], laidByText := true, laidKinds := [.handle], laidTests := true, laidLooks := .later }
def RefinesModelCardSaid : Prop := Claim7.holds Tryd.pinned (.plain (OpenSpec.ofChange refinesModelSpec)) refinesModelCard

/-- THE TIED CARD OF 'disklaw.ReadReturnsLastWrite'. -/
def readReturnsLastWriteCard : Claim7 := { stood := { row := readReturnsLastWriteRow, standIns := [], harness := (true, "55fe8f11e2cafd11fb753f99bfe334a2bb38d5058ef1488bb52fabc827f3a87c"), looks := true }, kinds := [], alts := [], laidByText := true, laidKinds := [.handle], laidTests := true, laidLooks := .later }
def ReadReturnsLastWriteCardSaid : Prop := Claim7.holds Tryd.pinned (.plain (OpenSpec.ofChange readReturnsLastWriteSpec)) readReturnsLastWriteCard

/-- THE TIED CARD OF 'disklaw.CrashLeavesWhatTheScriptChose'. -/
def crashLeavesWhatTheScriptChoseCard : Claim7 := { stood := { row := crashLeavesWhatTheScriptChoseRow, standIns := [], harness := (true, "55fe8f11e2cafd11fb753f99bfe334a2bb38d5058ef1488bb52fabc827f3a87c"), looks := true }, kinds := [], alts := [], laidByText := true, laidKinds := [.handle], laidTests := true, laidLooks := .later }
def CrashLeavesWhatTheScriptChoseCardSaid : Prop := Claim7.holds Tryd.pinned (.plain (OpenSpec.ofChange crashLeavesWhatTheScriptChoseSpec)) crashLeavesWhatTheScriptChoseCard

/-- THE TIED CARD OF 'disklaw.CrashTearsAtMostOne'. -/
def crashTearsAtMostOneCard : Claim7 := { stood := { row := crashTearsAtMostOneRow, standIns := [], harness := (true, "55fe8f11e2cafd11fb753f99bfe334a2bb38d5058ef1488bb52fabc827f3a87c"), looks := true }, kinds := [], alts := [], laidByText := true, laidKinds := [.handle], laidTests := true, laidLooks := .later }
def CrashTearsAtMostOneCardSaid : Prop := Claim7.holds Tryd.pinned (.plain (OpenSpec.ofChange crashTearsAtMostOneSpec)) crashTearsAtMostOneCard

/-- THE TIED CARD OF 'disklaw.RefusedCallsChangeNothing'. -/
def refusedCallsChangeNothingCard : Claim7 := { stood := { row := refusedCallsChangeNothingRow, standIns := [], harness := (true, "55fe8f11e2cafd11fb753f99bfe334a2bb38d5058ef1488bb52fabc827f3a87c"), looks := true }, kinds := [], alts := [], laidByText := true, laidKinds := [.handle], laidTests := true, laidLooks := .later }
def RefusedCallsChangeNothingCardSaid : Prop := Claim7.holds Tryd.pinned (.plain (OpenSpec.ofChange refusedCallsChangeNothingSpec)) refusedCallsChangeNothingCard

/-- THE TIED CARD OF 'disklaw.SyncMakesDurable'. -/
def syncMakesDurableCard : Claim7 := { stood := { row := syncMakesDurableRow, standIns := [], harness := (true, "55fe8f11e2cafd11fb753f99bfe334a2bb38d5058ef1488bb52fabc827f3a87c"), looks := true }, kinds := [], alts := [], laidByText := true, laidKinds := [.handle], laidTests := true, laidLooks := .later }
def SyncMakesDurableCardSaid : Prop := Claim7.holds Tryd.pinned (.plain (OpenSpec.ofChange syncMakesDurableSpec)) syncMakesDurableCard

/-- THE TIED CARD OF 'disklaw.ArmedCrashStrikesAtItsWrite'. -/
def armedCrashStrikesAtItsWriteCard : Claim7 := { stood := { row := armedCrashStrikesAtItsWriteRow, standIns := [], harness := (true, "55fe8f11e2cafd11fb753f99bfe334a2bb38d5058ef1488bb52fabc827f3a87c"), looks := true }, kinds := [], alts := [], laidByText := true, laidKinds := [.handle], laidTests := true, laidLooks := .later }
def ArmedCrashStrikesAtItsWriteCardSaid : Prop := Claim7.holds Tryd.pinned (.plain (OpenSpec.ofChange armedCrashStrikesAtItsWriteSpec)) armedCrashStrikesAtItsWriteCard
end Rows
end Go.Proofs.Qxb6500837aDoor
