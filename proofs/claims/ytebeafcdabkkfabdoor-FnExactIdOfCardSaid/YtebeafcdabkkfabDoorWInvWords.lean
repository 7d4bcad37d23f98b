-- Struck down to what this claim's texts reach (wip/prune.py). Lean checks it.
import Derived.Test.YtebeafcdabkkfabDoorWInv
import Derived.Test.YtebeafcdabkkfabDoorWFootNe
namespace Go.Proofs.YtebeafcdabkkfabDoorW.PrintWords
open Go.RowKit
end Go.Proofs.YtebeafcdabkkfabDoorW.PrintWords
namespace Go.Proofs.YtebeafcdabkkfabDoorW.PrintLast
section
variable {ops : Array Oper} {a : Act} {o og : Oper} {g : Nat} {t : Tmp} {u : Bool}
end
end Go.Proofs.YtebeafcdabkkfabDoorW.PrintLast
