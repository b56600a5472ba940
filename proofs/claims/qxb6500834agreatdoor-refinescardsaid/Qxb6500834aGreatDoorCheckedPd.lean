-- MADE BY PROGRAM (checked-in-parts.mjs) out of Qxb6500834aGreatDoorChecked.lean: the one definition on which the parts' items lean.
import Derived.Test.Qxb6500834aGreatDoorProg
import Derived.KernelRfl
import Derived.Items
import Derived.PartsItems
import Derived.CheckFast
import Derived.HeadItems
import GoSem.Claims
namespace Go.Proofs
noncomputable def Tryz.bare : List (FuncDecl × Elab.Part) := Tryz.parts.map fun p => (p.1, p.2.split.2)
end Go.Proofs
