-- MADE BY PROGRAM (checked-in-parts.mjs) out of Qxb6500834aGreatDoorChecked.lean: the equation that is no list of items.
import Derived.Test.Qxb6500834aGreatDoorProg
import Derived.KernelRfl
import Derived.Items
import Derived.PartsItems
import Derived.CheckFast
import Derived.HeadItems
import GoSem.Claims
import Derived.Test.Qxb6500834aGreatDoorCheckedPd
namespace Go.Proofs
theorem Tryz.el.bare : (Elab.partsBare Tryz.src).toList = Tryz.bare := by kernel_rfl
end Go.Proofs
