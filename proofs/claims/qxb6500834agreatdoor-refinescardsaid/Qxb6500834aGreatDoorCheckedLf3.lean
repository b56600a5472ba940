-- MADE BY PROGRAM (prog-in-parts.mjs) out of Qxb6500834aGreatDoorProg.lean: the load's facts, part 3 of 4.
import Derived.Test.Qxb6500834aGreatDoorCheckedLc
namespace Go.Proofs
set_option maxHeartbeats 4000000 in      -- a large cut (87 functions, in a trial) ran out of the default 200,000 here: '(deterministic) timeout at whnf'
load_go_facts "../../toys/qxb6500834agreatdoor/qxb6500834agreatdoor.cut.gsa" as Tryz part 3 of 4
end Go.Proofs
