/-
  The numbers under which this dump holds sync.Mutex's functions and types (after the worked text StatsLocks).
-/
import Derived.Test.Qxb6500837aDoorProg
import Derived.Conc.RwLib
import Derived.Conc.MuData
import Derived.KernelRfl
namespace Go.Proofs.Qxb6500837aDoor
abbrev Tryd.muLink : Go.Conc.Locks.MuLink := { lock := 47, unlock := 48, ilock := 65, iunlock := 66, lockSlow := 76, unlockSlow := 79, disable := 72, enable := 74, acquire := 75, relMerge := 77, cas32 := 73, add32 := 78, tMutex := 89, tIMutex := 87, tPMutex := 113, tPIMutex := 134, tPI32 := 136, tUP := 115, tNoCopy := 84, tU32 := 85 }
theorem Tryd.muLib : Go.Conc.Locks.MuLib Tryd.prog Tryd.muLink :=
  ⟨Tryd.func47, Tryd.func48, Tryd.func65, Tryd.func66, Tryd.func72, Tryd.func74, Tryd.func75, Tryd.func77, Tryd.func73, Tryd.func78, Tryd.underlying87, Tryd.runUnderlying87, Tryd.sizeOf87, Tryd.isAgg87, Tryd.zeroValue87, Tryd.underlying89, Tryd.runUnderlying89, Tryd.sizeOf89, Tryd.isAgg89, Tryd.zeroValue89, Tryd.underlying113, Tryd.runUnderlying113, Tryd.sizeOf113, Tryd.isAgg113, Tryd.zeroValue113, Tryd.underlying134, Tryd.runUnderlying134, Tryd.sizeOf134, Tryd.isAgg134, Tryd.zeroValue134, Tryd.underlying136, Tryd.runUnderlying136, Tryd.sizeOf136, Tryd.isAgg136, Tryd.zeroValue136, Tryd.underlying115, Tryd.runUnderlying115, Tryd.sizeOf115, Tryd.isAgg115, Tryd.zeroValue115, Tryd.underlying84, Tryd.runUnderlying84, Tryd.sizeOf84, Tryd.isAgg84, Tryd.zeroValue84, Tryd.underlying21, Tryd.runUnderlying21, Tryd.sizeOf21, Tryd.isAgg21, Tryd.zeroValue21, (by kernel_rfl)⟩
end Go.Proofs.Qxb6500837aDoor
