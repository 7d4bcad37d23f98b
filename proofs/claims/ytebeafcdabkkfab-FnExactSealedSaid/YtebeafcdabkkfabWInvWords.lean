-- Struck down to what this claim's texts reach (wip/prune.py). Lean checks it.
import Derived.Test.YtebeafcdabkkfabWInv
import Derived.Test.YtebeafcdabkkfabWFootNe
namespace Go.Proofs.YtebeafcdabkkfabW.PrintWords
open Go.RowKit
end Go.Proofs.YtebeafcdabkkfabW.PrintWords
namespace Go.Proofs.YtebeafcdabkkfabW.PrintLast
section
variable {ops : Array Oper} {a : Act} {o og : Oper} {g : Nat} {t : Tmp} {u : Bool}
end
end Go.Proofs.YtebeafcdabkkfabW.PrintLast
