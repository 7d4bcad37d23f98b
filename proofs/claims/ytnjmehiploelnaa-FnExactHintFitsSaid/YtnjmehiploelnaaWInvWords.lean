-- Struck down to what this claim's texts reach (wip/prune.py). Lean checks it.
import Derived.Test.YtnjmehiploelnaaWInv
import Derived.Test.YtnjmehiploelnaaWFootNe
namespace Go.Proofs.YtnjmehiploelnaaW.PrintWords
open Go.RowKit
end Go.Proofs.YtnjmehiploelnaaW.PrintWords
namespace Go.Proofs.YtnjmehiploelnaaW.PrintLast
section
variable {ops : Array Oper} {a : Act} {o og : Oper} {g : Nat} {t : Tmp} {u : Bool}
end
end Go.Proofs.YtnjmehiploelnaaW.PrintLast
