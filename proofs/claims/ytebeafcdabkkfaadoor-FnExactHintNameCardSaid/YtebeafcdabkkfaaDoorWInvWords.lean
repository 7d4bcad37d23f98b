-- Struck down to what this claim's texts reach (wip/prune.py). Lean checks it.
import Derived.Test.YtebeafcdabkkfaaDoorWInv
import Derived.Test.YtebeafcdabkkfaaDoorWFootNe
namespace Go.Proofs.YtebeafcdabkkfaaDoorW.PrintWords
open Go.RowKit
end Go.Proofs.YtebeafcdabkkfaaDoorW.PrintWords
namespace Go.Proofs.YtebeafcdabkkfaaDoorW.PrintLast
section
variable {ops : Array Oper} {a : Act} {o og : Oper} {g : Nat} {t : Tmp} {u : Bool}
end
end Go.Proofs.YtebeafcdabkkfaaDoorW.PrintLast
