-- Struck down to what this claim's texts reach (wip/prune.py). Lean checks it.
import Derived.Test.YtebeafcdabkkfaaWInv
import Derived.Test.YtebeafcdabkkfaaWFootNe
namespace Go.Proofs.YtebeafcdabkkfaaW.PrintWords
open Go.RowKit
end Go.Proofs.YtebeafcdabkkfaaW.PrintWords
namespace Go.Proofs.YtebeafcdabkkfaaW.PrintLast
section
variable {ops : Array Oper} {a : Act} {o og : Oper} {g : Nat} {t : Tmp} {u : Bool}
end
end Go.Proofs.YtebeafcdabkkfaaW.PrintLast
